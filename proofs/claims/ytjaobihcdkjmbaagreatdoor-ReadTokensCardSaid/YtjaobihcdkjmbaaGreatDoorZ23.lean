/- A part of the proof that the law ReadTokens answers true for every input. -/
import Derived.Deep.RegionHeld3
import Derived.Test.YtjaobihcdkjmbaaGreatDoorZ22
section
namespace Go.Proofs.YtjaobihcdkjmbaaGreatDoor
open Go.RowKit Go.Proofs.YtjaobihcdkjmbaaGreatDoorW.PrintWords Go.Proofs.YtjaobihcdkjmbaaGreatDoor.PReadTokens
set_option maxRecDepth 100000 in
set_option maxHeartbeats 4000000 in
theorem open_op2 (num : S28) (name : ByteArray) (size : Int) (y0 : S31) (v : Value) (w : World) (hv : Vw w ⟨2, num, name, size, [y0]⟩ v) (hsn : name.size ≤ 1000000)
    (hr0 : ∀ v w', Vw w' y0 v → Calls Tryz.prog 83 #[v, .int .i64 2] w' fun e w'' => e = .returned (.string (rtext y0 2)) ∧ Below w'.heap.size w' w'') (hs0 : (rtext y0 2).size ≤ 1000000) :
    Calls Tryz.prog 46 #[v] w fun e w' => e = .returned (.string (⟨#[45]⟩ ++ rtext y0 2)) ∧ Below w.heap.size w w' := by
  obtain ⟨A, c, rfl, hc1, hc2⟩ := hv.out
  simp only [List.length_cons, List.length_nil, Nat.zero_add, Nat.reduceAdd] at hc1 hc2 hv ⊢
  unfold exV at hv ⊢
  simp only at hv ⊢
  have hb0 := (Below.refl w.heap.size w).alloc (Nat.le_refl _) (.cells #[.int .i64 2, .string num.f0, .string num.f1, .string name, .int .i64 size, .slice A 1 c] 31)
  obtain ⟨ad, A5_0, c5_0, rfl, q0_0, q0_1, q0_2, q0_3, q0_4, q0_5, hvw0⟩ := arg_cells (xs := [y0]) (Kd.C_below hc2 hb0) 0 (by simp)
  simp only [List.getElem_cons_zero, Nat.zero_mul, Addr.add_zero'] at q0_0 q0_1 q0_2 q0_3 q0_4 q0_5 hvw0
  have hbl := blk_new w (.cells #[.int .i64 2, .string num.f0, .string num.f1, .string name, .int .i64 size, .slice (some ad) 1 c] 31)
  obtain ⟨⟨p0, p1, p2, p3, p4, p5⟩, _, xl⟩ := cells6 hbl
  have HR0 := Lib.hid hr0
  clear hv hb0 hc1 hc2 hr0
  generalize rtext y0 2 = t0 at *
  have a0 : ∀ w, (Op.stringOp .add (⟨#[45]⟩ : ByteArray) t0).run Tryz.prog w = .ok (.string (⟨#[45]⟩ ++ t0)) w := fun w => run_string_add_sum w _ _ (by simp only [ByteArray.size_append', ByteArray.size_mk', List.size_toArray, List.length_cons, List.length_nil]; omega)
  go_enter Tryz.func46, Tryz.ntmps46
  go_wp2_with fail
  refine (HR0.out _ _ hvw0).mono ?_
  rintro e w1 ⟨rfl, hq⟩
  have BW := ((Below.refl w.heap.size w).alloc (Nat.le_refl _) (.cells #[.int .i64 2, .string num.f0, .string num.f1, .string name, .int .i64 size, .slice (some ad) 1 c] 31)).trans (hq.mono (by simp))
  go_wp2
  go_ret
  exact ⟨rfl, BW⟩
set_option maxRecDepth 100000 in
set_option maxHeartbeats 4000000 in
theorem open_op3 (num : S28) (name : ByteArray) (size : Int) (y0 y1 : S31) (v : Value) (w : World) (hv : Vw w ⟨3, num, name, size, [y0, y1]⟩ v) (hsn : name.size ≤ 1000000)
    (hr0 : ∀ v w', Vw w' y0 v → Calls Tryz.prog 83 #[v, .int .i64 1] w' fun e w'' => e = .returned (.string (rtext y0 1)) ∧ Below w'.heap.size w' w'') (hs0 : (rtext y0 1).size ≤ 1000000) (hr1 : ∀ v w', Vw w' y1 v → Calls Tryz.prog 83 #[v, .int .i64 2] w' fun e w'' => e = .returned (.string (rtext y1 2)) ∧ Below w'.heap.size w' w'') (hs1 : (rtext y1 2).size ≤ 1000000) :
    Calls Tryz.prog 46 #[v] w fun e w' => e = .returned (.string (rtext y0 1 ++ ⟨#[32, 43, 32]⟩ ++ rtext y1 2)) ∧ Below w.heap.size w w' := by
  obtain ⟨A, c, rfl, hc1, hc2⟩ := hv.out
  simp only [List.length_cons, List.length_nil, Nat.zero_add, Nat.reduceAdd] at hc1 hc2 hv ⊢
  unfold exV at hv ⊢
  simp only at hv ⊢
  have hb0 := (Below.refl w.heap.size w).alloc (Nat.le_refl _) (.cells #[.int .i64 3, .string num.f0, .string num.f1, .string name, .int .i64 size, .slice A 2 c] 31)
  obtain ⟨ad, A5_0, c5_0, rfl, q0_0, q0_1, q0_2, q0_3, q0_4, q0_5, hvw0⟩ := arg_cells (xs := [y0, y1]) (Kd.C_below hc2 hb0) 0 (by simp)
  simp only [List.getElem_cons_zero, Nat.zero_mul, Addr.add_zero'] at q0_0 q0_1 q0_2 q0_3 q0_4 q0_5 hvw0
  obtain ⟨ad1, A5_1, c5_1, had1, q1_0, q1_1, q1_2, q1_3, q1_4, q1_5, hvw1⟩ := arg_cells (xs := [y0, y1]) (Kd.C_below hc2 hb0) 1 (by simp)
  obtain rfl : ad = ad1 := by injection had1
  simp only [List.getElem_cons_succ, List.getElem_cons_zero, Nat.one_mul, Addr.add_succ'] at q1_0 q1_1 q1_2 q1_3 q1_4 q1_5 hvw1
  have hbl := blk_new w (.cells #[.int .i64 3, .string num.f0, .string num.f1, .string name, .int .i64 size, .slice (some ad) 2 c] 31)
  obtain ⟨⟨p0, p1, p2, p3, p4, p5⟩, _, xl⟩ := cells6 hbl
  have HR0 := Lib.hid hr0
  have HR1 := Lib.hid hr1
  clear hv hb0 hc1 hc2 hr0 hr1
  generalize rtext y0 1 = t0 at *
  generalize rtext y1 2 = t1 at *
  have a0 : ∀ w, (Op.stringOp .add (t0 : ByteArray) ⟨#[32, 43, 32]⟩).run Tryz.prog w = .ok (.string (t0 ++ ⟨#[32, 43, 32]⟩)) w := fun w => run_string_add_sum w _ _ (by simp only [ByteArray.size_append', ByteArray.size_mk', List.size_toArray, List.length_cons, List.length_nil]; omega)
  have a1 : ∀ w, (Op.stringOp .add (t0 ++ ⟨#[32, 43, 32]⟩) t1).run Tryz.prog w = .ok (.string (t0 ++ ⟨#[32, 43, 32]⟩ ++ t1)) w := fun w => run_string_add_sum w _ _ (by simp only [ByteArray.size_append', ByteArray.size_mk', List.size_toArray, List.length_cons, List.length_nil]; omega)
  have hkl : ∀ a b : World, Below a.heap.size a b → (a.cell? ⟨w.heap.size, 5, none⟩ = some (.slice (some ad) 2 c) ∧ a.cell? ad = some (.int .i64 y0.f0) ∧ a.cell? ⟨ad.block, ad.off + 1, none⟩ = some (.string y0.f1.f0) ∧ a.cell? ⟨ad.block, ad.off + 2, none⟩ = some (.string y0.f1.f1) ∧ a.cell? ⟨ad.block, ad.off + 3, none⟩ = some (.string y0.f2) ∧ a.cell? ⟨ad.block, ad.off + 4, none⟩ = some (.int .i64 y0.f3) ∧ a.cell? ⟨ad.block, ad.off + 5, none⟩ = some (.slice A5_0 y0.f4.length c5_0) ∧ a.cell? ⟨ad.block, ad.off + 6, none⟩ = some (.int .i64 y1.f0) ∧ a.cell? ⟨ad.block, ad.off + 6 + 1, none⟩ = some (.string y1.f1.f0) ∧ a.cell? ⟨ad.block, ad.off + 6 + 2, none⟩ = some (.string y1.f1.f1) ∧ a.cell? ⟨ad.block, ad.off + 6 + 3, none⟩ = some (.string y1.f2) ∧ a.cell? ⟨ad.block, ad.off + 6 + 4, none⟩ = some (.int .i64 y1.f3) ∧ a.cell? ⟨ad.block, ad.off + 6 + 5, none⟩ = some (.slice A5_1 y1.f4.length c5_1)) → (b.cell? ⟨w.heap.size, 5, none⟩ = some (.slice (some ad) 2 c) ∧ b.cell? ad = some (.int .i64 y0.f0) ∧ b.cell? ⟨ad.block, ad.off + 1, none⟩ = some (.string y0.f1.f0) ∧ b.cell? ⟨ad.block, ad.off + 2, none⟩ = some (.string y0.f1.f1) ∧ b.cell? ⟨ad.block, ad.off + 3, none⟩ = some (.string y0.f2) ∧ b.cell? ⟨ad.block, ad.off + 4, none⟩ = some (.int .i64 y0.f3) ∧ b.cell? ⟨ad.block, ad.off + 5, none⟩ = some (.slice A5_0 y0.f4.length c5_0) ∧ b.cell? ⟨ad.block, ad.off + 6, none⟩ = some (.int .i64 y1.f0) ∧ b.cell? ⟨ad.block, ad.off + 6 + 1, none⟩ = some (.string y1.f1.f0) ∧ b.cell? ⟨ad.block, ad.off + 6 + 2, none⟩ = some (.string y1.f1.f1) ∧ b.cell? ⟨ad.block, ad.off + 6 + 3, none⟩ = some (.string y1.f2) ∧ b.cell? ⟨ad.block, ad.off + 6 + 4, none⟩ = some (.int .i64 y1.f3) ∧ b.cell? ⟨ad.block, ad.off + 6 + 5, none⟩ = some (.slice A5_1 y1.f4.length c5_1)) := fun a b hb ⟨h0, h1, h2, h3, h4, h5, h6, h7, h8, h9, h10, h11, h12⟩ =>
    ⟨pw_cell_below hb h0, pw_cell_below hb h1, pw_cell_below hb h2, pw_cell_below hb h3, pw_cell_below hb h4, pw_cell_below hb h5, pw_cell_below hb h6, pw_cell_below hb h7, pw_cell_below hb h8, pw_cell_below hb h9, pw_cell_below hb h10, pw_cell_below hb h11, pw_cell_below hb h12⟩
  have HKL := Lib.hid hkl
  clear hkl
  go_enter Tryz.func46, Tryz.ntmps46
  go_wp2_with fail
  have BW := (Below.refl w.heap.size w).alloc (Nat.le_refl _) (.cells #[.int .i64 3, .string num.f0, .string num.f1, .string name, .int .i64 size, .slice (some ad) 2 c] 31)
  generalize hX : w.alloc (.cells #[.int .i64 3, .string num.f0, .string num.f1, .string name, .int .i64 size, .slice (some ad) 2 c] 31) = X at *
  have BW := BW.drew
  have K := HKL.out X X.drew (Below.refl _ X).drew ⟨p5, q0_0, q0_1, q0_2, q0_3, q0_4, q0_5, q1_0, q1_1, q1_2, q1_3, q1_4, q1_5⟩
  have V0 := hvw0.below (Below.refl _ X).drew
  have V1 := hvw1.below (Below.refl _ X).drew
  clear hbl p0 p1 p2 p3 p4 p5 xl hvw0 q0_0 q0_1 q0_2 q0_3 q0_4 q0_5 hvw1 q1_0 q1_1 q1_2 q1_3 q1_4 q1_5
  go_region_held3 (fun w' : World => w'.cell? ⟨w.heap.size, 5, none⟩ = some (.slice (some ad) 2 c) ∧ w'.cell? ad = some (.int .i64 y0.f0) ∧ w'.cell? ⟨ad.block, ad.off + 1, none⟩ = some (.string y0.f1.f0) ∧ w'.cell? ⟨ad.block, ad.off + 2, none⟩ = some (.string y0.f1.f1) ∧ w'.cell? ⟨ad.block, ad.off + 3, none⟩ = some (.string y0.f2) ∧ w'.cell? ⟨ad.block, ad.off + 4, none⟩ = some (.int .i64 y0.f3) ∧ w'.cell? ⟨ad.block, ad.off + 5, none⟩ = some (.slice A5_0 y0.f4.length c5_0) ∧ w'.cell? ⟨ad.block, ad.off + 6, none⟩ = some (.int .i64 y1.f0) ∧ w'.cell? ⟨ad.block, ad.off + 6 + 1, none⟩ = some (.string y1.f1.f0) ∧ w'.cell? ⟨ad.block, ad.off + 6 + 2, none⟩ = some (.string y1.f1.f1) ∧ w'.cell? ⟨ad.block, ad.off + 6 + 3, none⟩ = some (.string y1.f2) ∧ w'.cell? ⟨ad.block, ad.off + 6 + 4, none⟩ = some (.int .i64 y1.f3) ∧ w'.cell? ⟨ad.block, ad.off + 6 + 5, none⟩ = some (.slice A5_1 y1.f4.length c5_1)) (first | exact K) (first | (go_at_call 83; refine (HR0.out _ _ V0).mono ?_; rintro e wq ⟨rfl, hq⟩; clear HR0; have K := HKL.out _ _ hq K; have V0 := V0.below hq; have V1 := V1.below hq; have BW := BW.trans (hq.mono BW.size)) | (go_at_call 83; refine (HR1.out _ _ V1).mono ?_; rintro e wq ⟨rfl, hq⟩; clear HR1; have K := HKL.out _ _ hq K; have V0 := V0.below hq; have V1 := V1.below hq; have BW := BW.trans (hq.mono BW.size)))
  all_goals
    go_wp2
    go_ret
    exact ⟨rfl, BW⟩
set_option maxRecDepth 100000 in
set_option maxHeartbeats 4000000 in
theorem open_op4 (num : S28) (name : ByteArray) (size : Int) (y0 y1 : S31) (v : Value) (w : World) (hv : Vw w ⟨4, num, name, size, [y0, y1]⟩ v) (hsn : name.size ≤ 1000000)
    (hr0 : ∀ v w', Vw w' y0 v → Calls Tryz.prog 83 #[v, .int .i64 1] w' fun e w'' => e = .returned (.string (rtext y0 1)) ∧ Below w'.heap.size w' w'') (hs0 : (rtext y0 1).size ≤ 1000000) (hr1 : ∀ v w', Vw w' y1 v → Calls Tryz.prog 83 #[v, .int .i64 2] w' fun e w'' => e = .returned (.string (rtext y1 2)) ∧ Below w'.heap.size w' w'') (hs1 : (rtext y1 2).size ≤ 1000000) :
    Calls Tryz.prog 46 #[v] w fun e w' => e = .returned (.string (rtext y0 1 ++ ⟨#[32, 45, 32]⟩ ++ rtext y1 2)) ∧ Below w.heap.size w w' := by
  obtain ⟨A, c, rfl, hc1, hc2⟩ := hv.out
  simp only [List.length_cons, List.length_nil, Nat.zero_add, Nat.reduceAdd] at hc1 hc2 hv ⊢
  unfold exV at hv ⊢
  simp only at hv ⊢
  have hb0 := (Below.refl w.heap.size w).alloc (Nat.le_refl _) (.cells #[.int .i64 4, .string num.f0, .string num.f1, .string name, .int .i64 size, .slice A 2 c] 31)
  obtain ⟨ad, A5_0, c5_0, rfl, q0_0, q0_1, q0_2, q0_3, q0_4, q0_5, hvw0⟩ := arg_cells (xs := [y0, y1]) (Kd.C_below hc2 hb0) 0 (by simp)
  simp only [List.getElem_cons_zero, Nat.zero_mul, Addr.add_zero'] at q0_0 q0_1 q0_2 q0_3 q0_4 q0_5 hvw0
  obtain ⟨ad1, A5_1, c5_1, had1, q1_0, q1_1, q1_2, q1_3, q1_4, q1_5, hvw1⟩ := arg_cells (xs := [y0, y1]) (Kd.C_below hc2 hb0) 1 (by simp)
  obtain rfl : ad = ad1 := by injection had1
  simp only [List.getElem_cons_succ, List.getElem_cons_zero, Nat.one_mul, Addr.add_succ'] at q1_0 q1_1 q1_2 q1_3 q1_4 q1_5 hvw1
  have hbl := blk_new w (.cells #[.int .i64 4, .string num.f0, .string num.f1, .string name, .int .i64 size, .slice (some ad) 2 c] 31)
  obtain ⟨⟨p0, p1, p2, p3, p4, p5⟩, _, xl⟩ := cells6 hbl
  have HR0 := Lib.hid hr0
  have HR1 := Lib.hid hr1
  clear hv hb0 hc1 hc2 hr0 hr1
  generalize rtext y0 1 = t0 at *
  generalize rtext y1 2 = t1 at *
  have a0 : ∀ w, (Op.stringOp .add (t0 : ByteArray) ⟨#[32, 45, 32]⟩).run Tryz.prog w = .ok (.string (t0 ++ ⟨#[32, 45, 32]⟩)) w := fun w => run_string_add_sum w _ _ (by simp only [ByteArray.size_append', ByteArray.size_mk', List.size_toArray, List.length_cons, List.length_nil]; omega)
  have a1 : ∀ w, (Op.stringOp .add (t0 ++ ⟨#[32, 45, 32]⟩) t1).run Tryz.prog w = .ok (.string (t0 ++ ⟨#[32, 45, 32]⟩ ++ t1)) w := fun w => run_string_add_sum w _ _ (by simp only [ByteArray.size_append', ByteArray.size_mk', List.size_toArray, List.length_cons, List.length_nil]; omega)
  have hkl : ∀ a b : World, Below a.heap.size a b → (a.cell? ⟨w.heap.size, 5, none⟩ = some (.slice (some ad) 2 c) ∧ a.cell? ad = some (.int .i64 y0.f0) ∧ a.cell? ⟨ad.block, ad.off + 1, none⟩ = some (.string y0.f1.f0) ∧ a.cell? ⟨ad.block, ad.off + 2, none⟩ = some (.string y0.f1.f1) ∧ a.cell? ⟨ad.block, ad.off + 3, none⟩ = some (.string y0.f2) ∧ a.cell? ⟨ad.block, ad.off + 4, none⟩ = some (.int .i64 y0.f3) ∧ a.cell? ⟨ad.block, ad.off + 5, none⟩ = some (.slice A5_0 y0.f4.length c5_0) ∧ a.cell? ⟨ad.block, ad.off + 6, none⟩ = some (.int .i64 y1.f0) ∧ a.cell? ⟨ad.block, ad.off + 6 + 1, none⟩ = some (.string y1.f1.f0) ∧ a.cell? ⟨ad.block, ad.off + 6 + 2, none⟩ = some (.string y1.f1.f1) ∧ a.cell? ⟨ad.block, ad.off + 6 + 3, none⟩ = some (.string y1.f2) ∧ a.cell? ⟨ad.block, ad.off + 6 + 4, none⟩ = some (.int .i64 y1.f3) ∧ a.cell? ⟨ad.block, ad.off + 6 + 5, none⟩ = some (.slice A5_1 y1.f4.length c5_1)) → (b.cell? ⟨w.heap.size, 5, none⟩ = some (.slice (some ad) 2 c) ∧ b.cell? ad = some (.int .i64 y0.f0) ∧ b.cell? ⟨ad.block, ad.off + 1, none⟩ = some (.string y0.f1.f0) ∧ b.cell? ⟨ad.block, ad.off + 2, none⟩ = some (.string y0.f1.f1) ∧ b.cell? ⟨ad.block, ad.off + 3, none⟩ = some (.string y0.f2) ∧ b.cell? ⟨ad.block, ad.off + 4, none⟩ = some (.int .i64 y0.f3) ∧ b.cell? ⟨ad.block, ad.off + 5, none⟩ = some (.slice A5_0 y0.f4.length c5_0) ∧ b.cell? ⟨ad.block, ad.off + 6, none⟩ = some (.int .i64 y1.f0) ∧ b.cell? ⟨ad.block, ad.off + 6 + 1, none⟩ = some (.string y1.f1.f0) ∧ b.cell? ⟨ad.block, ad.off + 6 + 2, none⟩ = some (.string y1.f1.f1) ∧ b.cell? ⟨ad.block, ad.off + 6 + 3, none⟩ = some (.string y1.f2) ∧ b.cell? ⟨ad.block, ad.off + 6 + 4, none⟩ = some (.int .i64 y1.f3) ∧ b.cell? ⟨ad.block, ad.off + 6 + 5, none⟩ = some (.slice A5_1 y1.f4.length c5_1)) := fun a b hb ⟨h0, h1, h2, h3, h4, h5, h6, h7, h8, h9, h10, h11, h12⟩ =>
    ⟨pw_cell_below hb h0, pw_cell_below hb h1, pw_cell_below hb h2, pw_cell_below hb h3, pw_cell_below hb h4, pw_cell_below hb h5, pw_cell_below hb h6, pw_cell_below hb h7, pw_cell_below hb h8, pw_cell_below hb h9, pw_cell_below hb h10, pw_cell_below hb h11, pw_cell_below hb h12⟩
  have HKL := Lib.hid hkl
  clear hkl
  go_enter Tryz.func46, Tryz.ntmps46
  go_wp2_with fail
  have BW := (Below.refl w.heap.size w).alloc (Nat.le_refl _) (.cells #[.int .i64 4, .string num.f0, .string num.f1, .string name, .int .i64 size, .slice (some ad) 2 c] 31)
  generalize hX : w.alloc (.cells #[.int .i64 4, .string num.f0, .string num.f1, .string name, .int .i64 size, .slice (some ad) 2 c] 31) = X at *
  have BW := BW.drew
  have K := HKL.out X X.drew (Below.refl _ X).drew ⟨p5, q0_0, q0_1, q0_2, q0_3, q0_4, q0_5, q1_0, q1_1, q1_2, q1_3, q1_4, q1_5⟩
  have V0 := hvw0.below (Below.refl _ X).drew
  have V1 := hvw1.below (Below.refl _ X).drew
  clear hbl p0 p1 p2 p3 p4 p5 xl hvw0 q0_0 q0_1 q0_2 q0_3 q0_4 q0_5 hvw1 q1_0 q1_1 q1_2 q1_3 q1_4 q1_5
  go_region_held3 (fun w' : World => w'.cell? ⟨w.heap.size, 5, none⟩ = some (.slice (some ad) 2 c) ∧ w'.cell? ad = some (.int .i64 y0.f0) ∧ w'.cell? ⟨ad.block, ad.off + 1, none⟩ = some (.string y0.f1.f0) ∧ w'.cell? ⟨ad.block, ad.off + 2, none⟩ = some (.string y0.f1.f1) ∧ w'.cell? ⟨ad.block, ad.off + 3, none⟩ = some (.string y0.f2) ∧ w'.cell? ⟨ad.block, ad.off + 4, none⟩ = some (.int .i64 y0.f3) ∧ w'.cell? ⟨ad.block, ad.off + 5, none⟩ = some (.slice A5_0 y0.f4.length c5_0) ∧ w'.cell? ⟨ad.block, ad.off + 6, none⟩ = some (.int .i64 y1.f0) ∧ w'.cell? ⟨ad.block, ad.off + 6 + 1, none⟩ = some (.string y1.f1.f0) ∧ w'.cell? ⟨ad.block, ad.off + 6 + 2, none⟩ = some (.string y1.f1.f1) ∧ w'.cell? ⟨ad.block, ad.off + 6 + 3, none⟩ = some (.string y1.f2) ∧ w'.cell? ⟨ad.block, ad.off + 6 + 4, none⟩ = some (.int .i64 y1.f3) ∧ w'.cell? ⟨ad.block, ad.off + 6 + 5, none⟩ = some (.slice A5_1 y1.f4.length c5_1)) (first | exact K) (first | (go_at_call 83; refine (HR0.out _ _ V0).mono ?_; rintro e wq ⟨rfl, hq⟩; clear HR0; have K := HKL.out _ _ hq K; have V0 := V0.below hq; have V1 := V1.below hq; have BW := BW.trans (hq.mono BW.size)) | (go_at_call 83; refine (HR1.out _ _ V1).mono ?_; rintro e wq ⟨rfl, hq⟩; clear HR1; have K := HKL.out _ _ hq K; have V0 := V0.below hq; have V1 := V1.below hq; have BW := BW.trans (hq.mono BW.size)))
  all_goals
    go_wp2
    go_ret
    exact ⟨rfl, BW⟩
set_option maxRecDepth 100000 in
set_option maxHeartbeats 4000000 in
theorem open_op5 (num : S28) (name : ByteArray) (size : Int) (y0 y1 : S31) (v : Value) (w : World) (hv : Vw w ⟨5, num, name, size, [y0, y1]⟩ v) (hsn : name.size ≤ 1000000)
    (hr0 : ∀ v w', Vw w' y0 v → Calls Tryz.prog 83 #[v, .int .i64 2] w' fun e w'' => e = .returned (.string (rtext y0 2)) ∧ Below w'.heap.size w' w'') (hs0 : (rtext y0 2).size ≤ 1000000) (hr1 : ∀ v w', Vw w' y1 v → Calls Tryz.prog 83 #[v, .int .i64 3] w' fun e w'' => e = .returned (.string (rtext y1 3)) ∧ Below w'.heap.size w' w'') (hs1 : (rtext y1 3).size ≤ 1000000) :
    Calls Tryz.prog 46 #[v] w fun e w' => e = .returned (.string (rtext y0 2 ++ ⟨#[32, 42, 32]⟩ ++ rtext y1 3)) ∧ Below w.heap.size w w' := by
  obtain ⟨A, c, rfl, hc1, hc2⟩ := hv.out
  simp only [List.length_cons, List.length_nil, Nat.zero_add, Nat.reduceAdd] at hc1 hc2 hv ⊢
  unfold exV at hv ⊢
  simp only at hv ⊢
  have hb0 := (Below.refl w.heap.size w).alloc (Nat.le_refl _) (.cells #[.int .i64 5, .string num.f0, .string num.f1, .string name, .int .i64 size, .slice A 2 c] 31)
  obtain ⟨ad, A5_0, c5_0, rfl, q0_0, q0_1, q0_2, q0_3, q0_4, q0_5, hvw0⟩ := arg_cells (xs := [y0, y1]) (Kd.C_below hc2 hb0) 0 (by simp)
  simp only [List.getElem_cons_zero, Nat.zero_mul, Addr.add_zero'] at q0_0 q0_1 q0_2 q0_3 q0_4 q0_5 hvw0
  obtain ⟨ad1, A5_1, c5_1, had1, q1_0, q1_1, q1_2, q1_3, q1_4, q1_5, hvw1⟩ := arg_cells (xs := [y0, y1]) (Kd.C_below hc2 hb0) 1 (by simp)
  obtain rfl : ad = ad1 := by injection had1
  simp only [List.getElem_cons_succ, List.getElem_cons_zero, Nat.one_mul, Addr.add_succ'] at q1_0 q1_1 q1_2 q1_3 q1_4 q1_5 hvw1
  have hbl := blk_new w (.cells #[.int .i64 5, .string num.f0, .string num.f1, .string name, .int .i64 size, .slice (some ad) 2 c] 31)
  obtain ⟨⟨p0, p1, p2, p3, p4, p5⟩, _, xl⟩ := cells6 hbl
  have HR0 := Lib.hid hr0
  have HR1 := Lib.hid hr1
  clear hv hb0 hc1 hc2 hr0 hr1
  generalize rtext y0 2 = t0 at *
  generalize rtext y1 3 = t1 at *
  have a0 : ∀ w, (Op.stringOp .add (t0 : ByteArray) ⟨#[32, 42, 32]⟩).run Tryz.prog w = .ok (.string (t0 ++ ⟨#[32, 42, 32]⟩)) w := fun w => run_string_add_sum w _ _ (by simp only [ByteArray.size_append', ByteArray.size_mk', List.size_toArray, List.length_cons, List.length_nil]; omega)
  have a1 : ∀ w, (Op.stringOp .add (t0 ++ ⟨#[32, 42, 32]⟩) t1).run Tryz.prog w = .ok (.string (t0 ++ ⟨#[32, 42, 32]⟩ ++ t1)) w := fun w => run_string_add_sum w _ _ (by simp only [ByteArray.size_append', ByteArray.size_mk', List.size_toArray, List.length_cons, List.length_nil]; omega)
  have hkl : ∀ a b : World, Below a.heap.size a b → (a.cell? ⟨w.heap.size, 5, none⟩ = some (.slice (some ad) 2 c) ∧ a.cell? ad = some (.int .i64 y0.f0) ∧ a.cell? ⟨ad.block, ad.off + 1, none⟩ = some (.string y0.f1.f0) ∧ a.cell? ⟨ad.block, ad.off + 2, none⟩ = some (.string y0.f1.f1) ∧ a.cell? ⟨ad.block, ad.off + 3, none⟩ = some (.string y0.f2) ∧ a.cell? ⟨ad.block, ad.off + 4, none⟩ = some (.int .i64 y0.f3) ∧ a.cell? ⟨ad.block, ad.off + 5, none⟩ = some (.slice A5_0 y0.f4.length c5_0) ∧ a.cell? ⟨ad.block, ad.off + 6, none⟩ = some (.int .i64 y1.f0) ∧ a.cell? ⟨ad.block, ad.off + 6 + 1, none⟩ = some (.string y1.f1.f0) ∧ a.cell? ⟨ad.block, ad.off + 6 + 2, none⟩ = some (.string y1.f1.f1) ∧ a.cell? ⟨ad.block, ad.off + 6 + 3, none⟩ = some (.string y1.f2) ∧ a.cell? ⟨ad.block, ad.off + 6 + 4, none⟩ = some (.int .i64 y1.f3) ∧ a.cell? ⟨ad.block, ad.off + 6 + 5, none⟩ = some (.slice A5_1 y1.f4.length c5_1)) → (b.cell? ⟨w.heap.size, 5, none⟩ = some (.slice (some ad) 2 c) ∧ b.cell? ad = some (.int .i64 y0.f0) ∧ b.cell? ⟨ad.block, ad.off + 1, none⟩ = some (.string y0.f1.f0) ∧ b.cell? ⟨ad.block, ad.off + 2, none⟩ = some (.string y0.f1.f1) ∧ b.cell? ⟨ad.block, ad.off + 3, none⟩ = some (.string y0.f2) ∧ b.cell? ⟨ad.block, ad.off + 4, none⟩ = some (.int .i64 y0.f3) ∧ b.cell? ⟨ad.block, ad.off + 5, none⟩ = some (.slice A5_0 y0.f4.length c5_0) ∧ b.cell? ⟨ad.block, ad.off + 6, none⟩ = some (.int .i64 y1.f0) ∧ b.cell? ⟨ad.block, ad.off + 6 + 1, none⟩ = some (.string y1.f1.f0) ∧ b.cell? ⟨ad.block, ad.off + 6 + 2, none⟩ = some (.string y1.f1.f1) ∧ b.cell? ⟨ad.block, ad.off + 6 + 3, none⟩ = some (.string y1.f2) ∧ b.cell? ⟨ad.block, ad.off + 6 + 4, none⟩ = some (.int .i64 y1.f3) ∧ b.cell? ⟨ad.block, ad.off + 6 + 5, none⟩ = some (.slice A5_1 y1.f4.length c5_1)) := fun a b hb ⟨h0, h1, h2, h3, h4, h5, h6, h7, h8, h9, h10, h11, h12⟩ =>
    ⟨pw_cell_below hb h0, pw_cell_below hb h1, pw_cell_below hb h2, pw_cell_below hb h3, pw_cell_below hb h4, pw_cell_below hb h5, pw_cell_below hb h6, pw_cell_below hb h7, pw_cell_below hb h8, pw_cell_below hb h9, pw_cell_below hb h10, pw_cell_below hb h11, pw_cell_below hb h12⟩
  have HKL := Lib.hid hkl
  clear hkl
  go_enter Tryz.func46, Tryz.ntmps46
  go_wp2_with fail
  have BW := (Below.refl w.heap.size w).alloc (Nat.le_refl _) (.cells #[.int .i64 5, .string num.f0, .string num.f1, .string name, .int .i64 size, .slice (some ad) 2 c] 31)
  generalize hX : w.alloc (.cells #[.int .i64 5, .string num.f0, .string num.f1, .string name, .int .i64 size, .slice (some ad) 2 c] 31) = X at *
  have BW := BW.drew
  have K := HKL.out X X.drew (Below.refl _ X).drew ⟨p5, q0_0, q0_1, q0_2, q0_3, q0_4, q0_5, q1_0, q1_1, q1_2, q1_3, q1_4, q1_5⟩
  have V0 := hvw0.below (Below.refl _ X).drew
  have V1 := hvw1.below (Below.refl _ X).drew
  clear hbl p0 p1 p2 p3 p4 p5 xl hvw0 q0_0 q0_1 q0_2 q0_3 q0_4 q0_5 hvw1 q1_0 q1_1 q1_2 q1_3 q1_4 q1_5
  go_region_held3 (fun w' : World => w'.cell? ⟨w.heap.size, 5, none⟩ = some (.slice (some ad) 2 c) ∧ w'.cell? ad = some (.int .i64 y0.f0) ∧ w'.cell? ⟨ad.block, ad.off + 1, none⟩ = some (.string y0.f1.f0) ∧ w'.cell? ⟨ad.block, ad.off + 2, none⟩ = some (.string y0.f1.f1) ∧ w'.cell? ⟨ad.block, ad.off + 3, none⟩ = some (.string y0.f2) ∧ w'.cell? ⟨ad.block, ad.off + 4, none⟩ = some (.int .i64 y0.f3) ∧ w'.cell? ⟨ad.block, ad.off + 5, none⟩ = some (.slice A5_0 y0.f4.length c5_0) ∧ w'.cell? ⟨ad.block, ad.off + 6, none⟩ = some (.int .i64 y1.f0) ∧ w'.cell? ⟨ad.block, ad.off + 6 + 1, none⟩ = some (.string y1.f1.f0) ∧ w'.cell? ⟨ad.block, ad.off + 6 + 2, none⟩ = some (.string y1.f1.f1) ∧ w'.cell? ⟨ad.block, ad.off + 6 + 3, none⟩ = some (.string y1.f2) ∧ w'.cell? ⟨ad.block, ad.off + 6 + 4, none⟩ = some (.int .i64 y1.f3) ∧ w'.cell? ⟨ad.block, ad.off + 6 + 5, none⟩ = some (.slice A5_1 y1.f4.length c5_1)) (first | exact K) (first | (go_at_call 83; refine (HR0.out _ _ V0).mono ?_; rintro e wq ⟨rfl, hq⟩; clear HR0; have K := HKL.out _ _ hq K; have V0 := V0.below hq; have V1 := V1.below hq; have BW := BW.trans (hq.mono BW.size)) | (go_at_call 83; refine (HR1.out _ _ V1).mono ?_; rintro e wq ⟨rfl, hq⟩; clear HR1; have K := HKL.out _ _ hq K; have V0 := V0.below hq; have V1 := V1.below hq; have BW := BW.trans (hq.mono BW.size)))
  all_goals
    go_wp2
    go_ret
    exact ⟨rfl, BW⟩
set_option maxRecDepth 100000 in
set_option maxHeartbeats 4000000 in
theorem open_op6 (num : S28) (name : ByteArray) (size : Int) (y0 y1 : S31) (v : Value) (w : World) (hv : Vw w ⟨6, num, name, size, [y0, y1]⟩ v) (hsn : name.size ≤ 1000000)
    (hr0 : ∀ v w', Vw w' y0 v → Calls Tryz.prog 83 #[v, .int .i64 2] w' fun e w'' => e = .returned (.string (rtext y0 2)) ∧ Below w'.heap.size w' w'') (hs0 : (rtext y0 2).size ≤ 1000000) (hr1 : ∀ v w', Vw w' y1 v → Calls Tryz.prog 83 #[v, .int .i64 3] w' fun e w'' => e = .returned (.string (rtext y1 3)) ∧ Below w'.heap.size w' w'') (hs1 : (rtext y1 3).size ≤ 1000000) :
    Calls Tryz.prog 46 #[v] w fun e w' => e = .returned (.string (rtext y0 2 ++ ⟨#[32, 47, 32]⟩ ++ rtext y1 3)) ∧ Below w.heap.size w w' := by
  obtain ⟨A, c, rfl, hc1, hc2⟩ := hv.out
  simp only [List.length_cons, List.length_nil, Nat.zero_add, Nat.reduceAdd] at hc1 hc2 hv ⊢
  unfold exV at hv ⊢
  simp only at hv ⊢
  have hb0 := (Below.refl w.heap.size w).alloc (Nat.le_refl _) (.cells #[.int .i64 6, .string num.f0, .string num.f1, .string name, .int .i64 size, .slice A 2 c] 31)
  obtain ⟨ad, A5_0, c5_0, rfl, q0_0, q0_1, q0_2, q0_3, q0_4, q0_5, hvw0⟩ := arg_cells (xs := [y0, y1]) (Kd.C_below hc2 hb0) 0 (by simp)
  simp only [List.getElem_cons_zero, Nat.zero_mul, Addr.add_zero'] at q0_0 q0_1 q0_2 q0_3 q0_4 q0_5 hvw0
  obtain ⟨ad1, A5_1, c5_1, had1, q1_0, q1_1, q1_2, q1_3, q1_4, q1_5, hvw1⟩ := arg_cells (xs := [y0, y1]) (Kd.C_below hc2 hb0) 1 (by simp)
  obtain rfl : ad = ad1 := by injection had1
  simp only [List.getElem_cons_succ, List.getElem_cons_zero, Nat.one_mul, Addr.add_succ'] at q1_0 q1_1 q1_2 q1_3 q1_4 q1_5 hvw1
  have hbl := blk_new w (.cells #[.int .i64 6, .string num.f0, .string num.f1, .string name, .int .i64 size, .slice (some ad) 2 c] 31)
  obtain ⟨⟨p0, p1, p2, p3, p4, p5⟩, _, xl⟩ := cells6 hbl
  have HR0 := Lib.hid hr0
  have HR1 := Lib.hid hr1
  clear hv hb0 hc1 hc2 hr0 hr1
  generalize rtext y0 2 = t0 at *
  generalize rtext y1 3 = t1 at *
  have a0 : ∀ w, (Op.stringOp .add (t0 : ByteArray) ⟨#[32, 47, 32]⟩).run Tryz.prog w = .ok (.string (t0 ++ ⟨#[32, 47, 32]⟩)) w := fun w => run_string_add_sum w _ _ (by simp only [ByteArray.size_append', ByteArray.size_mk', List.size_toArray, List.length_cons, List.length_nil]; omega)
  have a1 : ∀ w, (Op.stringOp .add (t0 ++ ⟨#[32, 47, 32]⟩) t1).run Tryz.prog w = .ok (.string (t0 ++ ⟨#[32, 47, 32]⟩ ++ t1)) w := fun w => run_string_add_sum w _ _ (by simp only [ByteArray.size_append', ByteArray.size_mk', List.size_toArray, List.length_cons, List.length_nil]; omega)
  have hkl : ∀ a b : World, Below a.heap.size a b → (a.cell? ⟨w.heap.size, 5, none⟩ = some (.slice (some ad) 2 c) ∧ a.cell? ad = some (.int .i64 y0.f0) ∧ a.cell? ⟨ad.block, ad.off + 1, none⟩ = some (.string y0.f1.f0) ∧ a.cell? ⟨ad.block, ad.off + 2, none⟩ = some (.string y0.f1.f1) ∧ a.cell? ⟨ad.block, ad.off + 3, none⟩ = some (.string y0.f2) ∧ a.cell? ⟨ad.block, ad.off + 4, none⟩ = some (.int .i64 y0.f3) ∧ a.cell? ⟨ad.block, ad.off + 5, none⟩ = some (.slice A5_0 y0.f4.length c5_0) ∧ a.cell? ⟨ad.block, ad.off + 6, none⟩ = some (.int .i64 y1.f0) ∧ a.cell? ⟨ad.block, ad.off + 6 + 1, none⟩ = some (.string y1.f1.f0) ∧ a.cell? ⟨ad.block, ad.off + 6 + 2, none⟩ = some (.string y1.f1.f1) ∧ a.cell? ⟨ad.block, ad.off + 6 + 3, none⟩ = some (.string y1.f2) ∧ a.cell? ⟨ad.block, ad.off + 6 + 4, none⟩ = some (.int .i64 y1.f3) ∧ a.cell? ⟨ad.block, ad.off + 6 + 5, none⟩ = some (.slice A5_1 y1.f4.length c5_1)) → (b.cell? ⟨w.heap.size, 5, none⟩ = some (.slice (some ad) 2 c) ∧ b.cell? ad = some (.int .i64 y0.f0) ∧ b.cell? ⟨ad.block, ad.off + 1, none⟩ = some (.string y0.f1.f0) ∧ b.cell? ⟨ad.block, ad.off + 2, none⟩ = some (.string y0.f1.f1) ∧ b.cell? ⟨ad.block, ad.off + 3, none⟩ = some (.string y0.f2) ∧ b.cell? ⟨ad.block, ad.off + 4, none⟩ = some (.int .i64 y0.f3) ∧ b.cell? ⟨ad.block, ad.off + 5, none⟩ = some (.slice A5_0 y0.f4.length c5_0) ∧ b.cell? ⟨ad.block, ad.off + 6, none⟩ = some (.int .i64 y1.f0) ∧ b.cell? ⟨ad.block, ad.off + 6 + 1, none⟩ = some (.string y1.f1.f0) ∧ b.cell? ⟨ad.block, ad.off + 6 + 2, none⟩ = some (.string y1.f1.f1) ∧ b.cell? ⟨ad.block, ad.off + 6 + 3, none⟩ = some (.string y1.f2) ∧ b.cell? ⟨ad.block, ad.off + 6 + 4, none⟩ = some (.int .i64 y1.f3) ∧ b.cell? ⟨ad.block, ad.off + 6 + 5, none⟩ = some (.slice A5_1 y1.f4.length c5_1)) := fun a b hb ⟨h0, h1, h2, h3, h4, h5, h6, h7, h8, h9, h10, h11, h12⟩ =>
    ⟨pw_cell_below hb h0, pw_cell_below hb h1, pw_cell_below hb h2, pw_cell_below hb h3, pw_cell_below hb h4, pw_cell_below hb h5, pw_cell_below hb h6, pw_cell_below hb h7, pw_cell_below hb h8, pw_cell_below hb h9, pw_cell_below hb h10, pw_cell_below hb h11, pw_cell_below hb h12⟩
  have HKL := Lib.hid hkl
  clear hkl
  go_enter Tryz.func46, Tryz.ntmps46
  go_wp2_with fail
  have BW := (Below.refl w.heap.size w).alloc (Nat.le_refl _) (.cells #[.int .i64 6, .string num.f0, .string num.f1, .string name, .int .i64 size, .slice (some ad) 2 c] 31)
  generalize hX : w.alloc (.cells #[.int .i64 6, .string num.f0, .string num.f1, .string name, .int .i64 size, .slice (some ad) 2 c] 31) = X at *
  have BW := BW.drew
  have K := HKL.out X X.drew (Below.refl _ X).drew ⟨p5, q0_0, q0_1, q0_2, q0_3, q0_4, q0_5, q1_0, q1_1, q1_2, q1_3, q1_4, q1_5⟩
  have V0 := hvw0.below (Below.refl _ X).drew
  have V1 := hvw1.below (Below.refl _ X).drew
  clear hbl p0 p1 p2 p3 p4 p5 xl hvw0 q0_0 q0_1 q0_2 q0_3 q0_4 q0_5 hvw1 q1_0 q1_1 q1_2 q1_3 q1_4 q1_5
  go_region_held3 (fun w' : World => w'.cell? ⟨w.heap.size, 5, none⟩ = some (.slice (some ad) 2 c) ∧ w'.cell? ad = some (.int .i64 y0.f0) ∧ w'.cell? ⟨ad.block, ad.off + 1, none⟩ = some (.string y0.f1.f0) ∧ w'.cell? ⟨ad.block, ad.off + 2, none⟩ = some (.string y0.f1.f1) ∧ w'.cell? ⟨ad.block, ad.off + 3, none⟩ = some (.string y0.f2) ∧ w'.cell? ⟨ad.block, ad.off + 4, none⟩ = some (.int .i64 y0.f3) ∧ w'.cell? ⟨ad.block, ad.off + 5, none⟩ = some (.slice A5_0 y0.f4.length c5_0) ∧ w'.cell? ⟨ad.block, ad.off + 6, none⟩ = some (.int .i64 y1.f0) ∧ w'.cell? ⟨ad.block, ad.off + 6 + 1, none⟩ = some (.string y1.f1.f0) ∧ w'.cell? ⟨ad.block, ad.off + 6 + 2, none⟩ = some (.string y1.f1.f1) ∧ w'.cell? ⟨ad.block, ad.off + 6 + 3, none⟩ = some (.string y1.f2) ∧ w'.cell? ⟨ad.block, ad.off + 6 + 4, none⟩ = some (.int .i64 y1.f3) ∧ w'.cell? ⟨ad.block, ad.off + 6 + 5, none⟩ = some (.slice A5_1 y1.f4.length c5_1)) (first | exact K) (first | (go_at_call 83; refine (HR0.out _ _ V0).mono ?_; rintro e wq ⟨rfl, hq⟩; clear HR0; have K := HKL.out _ _ hq K; have V0 := V0.below hq; have V1 := V1.below hq; have BW := BW.trans (hq.mono BW.size)) | (go_at_call 83; refine (HR1.out _ _ V1).mono ?_; rintro e wq ⟨rfl, hq⟩; clear HR1; have K := HKL.out _ _ hq K; have V0 := V0.below hq; have V1 := V1.below hq; have BW := BW.trans (hq.mono BW.size)))
  all_goals
    go_wp2
    go_ret
    exact ⟨rfl, BW⟩
set_option maxRecDepth 100000 in
set_option maxHeartbeats 4000000 in
theorem open_op7 (num : S28) (name : ByteArray) (size : Int) (y0 : S31) (v : Value) (w : World) (hv : Vw w ⟨7, num, name, size, [y0]⟩ v) (hsn : name.size ≤ 1000000) (hz0 : -9 ≤ size) (hz1 : size ≤ 99)
    (hr0 : ∀ v w', Vw w' y0 v → Calls Tryz.prog 83 #[v, .int .i64 4] w' fun e w'' => e = .returned (.string (rtext y0 4)) ∧ Below w'.heap.size w' w'') (hs0 : (rtext y0 4).size ≤ 1000000) :
    Calls Tryz.prog 46 #[v] w fun e w' => e = .returned (.string (rtext y0 4 ++ ⟨#[94]⟩ ++ (ofR size))) ∧ Below w.heap.size w w' := by
  obtain ⟨A, c, rfl, hc1, hc2⟩ := hv.out
  simp only [List.length_cons, List.length_nil, Nat.zero_add, Nat.reduceAdd] at hc1 hc2 hv ⊢
  unfold exV at hv ⊢
  simp only at hv ⊢
  have hb0 := (Below.refl w.heap.size w).alloc (Nat.le_refl _) (.cells #[.int .i64 7, .string num.f0, .string num.f1, .string name, .int .i64 size, .slice A 1 c] 31)
  obtain ⟨ad, A5_0, c5_0, rfl, q0_0, q0_1, q0_2, q0_3, q0_4, q0_5, hvw0⟩ := arg_cells (xs := [y0]) (Kd.C_below hc2 hb0) 0 (by simp)
  simp only [List.getElem_cons_zero, Nat.zero_mul, Addr.add_zero'] at q0_0 q0_1 q0_2 q0_3 q0_4 q0_5 hvw0
  have hbl := blk_new w (.cells #[.int .i64 7, .string num.f0, .string num.f1, .string name, .int .i64 size, .slice (some ad) 1 c] 31)
  obtain ⟨⟨p0, p1, p2, p3, p4, p5⟩, _, xl⟩ := cells6 hbl
  have HR0 := Lib.hid hr0
  have HZ := Lib.hid (fun W => OfInt_calls size hz0 hz1 W)
  have hzz := ofR_size size hz0 hz1
  clear hv hb0 hc1 hc2 hr0
  generalize rtext y0 4 = t0 at *
  generalize ofR size = tz at *
  have a0 : ∀ w, (Op.stringOp .add (t0 : ByteArray) ⟨#[94]⟩).run Tryz.prog w = .ok (.string (t0 ++ ⟨#[94]⟩)) w := fun w => run_string_add_sum w _ _ (by simp only [ByteArray.size_append', ByteArray.size_mk', List.size_toArray, List.length_cons, List.length_nil]; omega)
  have a1 : ∀ w, (Op.stringOp .add (t0 ++ ⟨#[94]⟩) tz).run Tryz.prog w = .ok (.string (t0 ++ ⟨#[94]⟩ ++ tz)) w := fun w => run_string_add_sum w _ _ (by simp only [ByteArray.size_append', ByteArray.size_mk', List.size_toArray, List.length_cons, List.length_nil]; omega)
  have hkl : ∀ a b : World, Below a.heap.size a b → (a.cell? ⟨w.heap.size, 4, none⟩ = some (.int .i64 size) ∧ a.cell? ⟨w.heap.size, 5, none⟩ = some (.slice (some ad) 1 c) ∧ a.cell? ad = some (.int .i64 y0.f0) ∧ a.cell? ⟨ad.block, ad.off + 1, none⟩ = some (.string y0.f1.f0) ∧ a.cell? ⟨ad.block, ad.off + 2, none⟩ = some (.string y0.f1.f1) ∧ a.cell? ⟨ad.block, ad.off + 3, none⟩ = some (.string y0.f2) ∧ a.cell? ⟨ad.block, ad.off + 4, none⟩ = some (.int .i64 y0.f3) ∧ a.cell? ⟨ad.block, ad.off + 5, none⟩ = some (.slice A5_0 y0.f4.length c5_0)) → (b.cell? ⟨w.heap.size, 4, none⟩ = some (.int .i64 size) ∧ b.cell? ⟨w.heap.size, 5, none⟩ = some (.slice (some ad) 1 c) ∧ b.cell? ad = some (.int .i64 y0.f0) ∧ b.cell? ⟨ad.block, ad.off + 1, none⟩ = some (.string y0.f1.f0) ∧ b.cell? ⟨ad.block, ad.off + 2, none⟩ = some (.string y0.f1.f1) ∧ b.cell? ⟨ad.block, ad.off + 3, none⟩ = some (.string y0.f2) ∧ b.cell? ⟨ad.block, ad.off + 4, none⟩ = some (.int .i64 y0.f3) ∧ b.cell? ⟨ad.block, ad.off + 5, none⟩ = some (.slice A5_0 y0.f4.length c5_0)) := fun a b hb ⟨h0, h1, h2, h3, h4, h5, h6, h7⟩ =>
    ⟨pw_cell_below hb h0, pw_cell_below hb h1, pw_cell_below hb h2, pw_cell_below hb h3, pw_cell_below hb h4, pw_cell_below hb h5, pw_cell_below hb h6, pw_cell_below hb h7⟩
  have HKL := Lib.hid hkl
  clear hkl
  go_enter Tryz.func46, Tryz.ntmps46
  go_wp2_with fail
  have BW := (Below.refl w.heap.size w).alloc (Nat.le_refl _) (.cells #[.int .i64 7, .string num.f0, .string num.f1, .string name, .int .i64 size, .slice (some ad) 1 c] 31)
  generalize hX : w.alloc (.cells #[.int .i64 7, .string num.f0, .string num.f1, .string name, .int .i64 size, .slice (some ad) 1 c] 31) = X at *
  have BW := BW.drew
  have K := HKL.out X X.drew (Below.refl _ X).drew ⟨p4, p5, q0_0, q0_1, q0_2, q0_3, q0_4, q0_5⟩
  have V0 := hvw0.below (Below.refl _ X).drew
  clear hbl p0 p1 p2 p3 p4 p5 xl hvw0 q0_0 q0_1 q0_2 q0_3 q0_4 q0_5
  go_region_held3 (fun w' : World => w'.cell? ⟨w.heap.size, 4, none⟩ = some (.int .i64 size) ∧ w'.cell? ⟨w.heap.size, 5, none⟩ = some (.slice (some ad) 1 c) ∧ w'.cell? ad = some (.int .i64 y0.f0) ∧ w'.cell? ⟨ad.block, ad.off + 1, none⟩ = some (.string y0.f1.f0) ∧ w'.cell? ⟨ad.block, ad.off + 2, none⟩ = some (.string y0.f1.f1) ∧ w'.cell? ⟨ad.block, ad.off + 3, none⟩ = some (.string y0.f2) ∧ w'.cell? ⟨ad.block, ad.off + 4, none⟩ = some (.int .i64 y0.f3) ∧ w'.cell? ⟨ad.block, ad.off + 5, none⟩ = some (.slice A5_0 y0.f4.length c5_0)) (first | exact K) (first | (go_at_call 83; refine (HR0.out _ _ V0).mono ?_; rintro e wq ⟨rfl, hq⟩; clear HR0; have K := HKL.out _ _ hq K; have V0 := V0.below hq; have BW := BW.trans (hq.mono BW.size)) | (go_at_call 84; refine (HZ.out _).mono ?_; rintro e wq ⟨rfl, hq⟩; have K := HKL.out _ _ hq K; have V0 := V0.below hq; have BW := BW.trans (hq.mono BW.size)))
  all_goals
    go_wp2
    go_ret
    exact ⟨rfl, BW⟩
set_option maxRecDepth 100000 in
set_option maxHeartbeats 4000000 in
theorem open_op9 (num : S28) (name : ByteArray) (size : Int) (y0 y1 : S31) (v : Value) (w : World) (hv : Vw w ⟨9, num, name, size, [y0, y1]⟩ v) (hsn : name.size ≤ 1000000)
    (hr0 : ∀ v w', Vw w' y0 v → Calls Tryz.prog 83 #[v, .int .i64 4] w' fun e w'' => e = .returned (.string (rtext y0 4)) ∧ Below w'.heap.size w' w'') (hs0 : (rtext y0 4).size ≤ 1000000) (hr1 : ∀ v w', Vw w' y1 v → Calls Tryz.prog 83 #[v, .int .i64 0] w' fun e w'' => e = .returned (.string (rtext y1 0)) ∧ Below w'.heap.size w' w'') (hs1 : (rtext y1 0).size ≤ 1000000) :
    Calls Tryz.prog 46 #[v] w fun e w' => e = .returned (.string (rtext y0 4 ++ ⟨#[91]⟩ ++ rtext y1 0 ++ ⟨#[93]⟩)) ∧ Below w.heap.size w w' := by
  obtain ⟨A, c, rfl, hc1, hc2⟩ := hv.out
  simp only [List.length_cons, List.length_nil, Nat.zero_add, Nat.reduceAdd] at hc1 hc2 hv ⊢
  unfold exV at hv ⊢
  simp only at hv ⊢
  have hb0 := (Below.refl w.heap.size w).alloc (Nat.le_refl _) (.cells #[.int .i64 9, .string num.f0, .string num.f1, .string name, .int .i64 size, .slice A 2 c] 31)
  obtain ⟨ad, A5_0, c5_0, rfl, q0_0, q0_1, q0_2, q0_3, q0_4, q0_5, hvw0⟩ := arg_cells (xs := [y0, y1]) (Kd.C_below hc2 hb0) 0 (by simp)
  simp only [List.getElem_cons_zero, Nat.zero_mul, Addr.add_zero'] at q0_0 q0_1 q0_2 q0_3 q0_4 q0_5 hvw0
  obtain ⟨ad1, A5_1, c5_1, had1, q1_0, q1_1, q1_2, q1_3, q1_4, q1_5, hvw1⟩ := arg_cells (xs := [y0, y1]) (Kd.C_below hc2 hb0) 1 (by simp)
  obtain rfl : ad = ad1 := by injection had1
  simp only [List.getElem_cons_succ, List.getElem_cons_zero, Nat.one_mul, Addr.add_succ'] at q1_0 q1_1 q1_2 q1_3 q1_4 q1_5 hvw1
  have hbl := blk_new w (.cells #[.int .i64 9, .string num.f0, .string num.f1, .string name, .int .i64 size, .slice (some ad) 2 c] 31)
  obtain ⟨⟨p0, p1, p2, p3, p4, p5⟩, _, xl⟩ := cells6 hbl
  have HR0 := Lib.hid hr0
  have HR1 := Lib.hid hr1
  clear hv hb0 hc1 hc2 hr0 hr1
  generalize rtext y0 4 = t0 at *
  generalize rtext y1 0 = t1 at *
  have a0 : ∀ w, (Op.stringOp .add (t0 : ByteArray) ⟨#[91]⟩).run Tryz.prog w = .ok (.string (t0 ++ ⟨#[91]⟩)) w := fun w => run_string_add_sum w _ _ (by simp only [ByteArray.size_append', ByteArray.size_mk', List.size_toArray, List.length_cons, List.length_nil]; omega)
  have a1 : ∀ w, (Op.stringOp .add (t0 ++ ⟨#[91]⟩) t1).run Tryz.prog w = .ok (.string (t0 ++ ⟨#[91]⟩ ++ t1)) w := fun w => run_string_add_sum w _ _ (by simp only [ByteArray.size_append', ByteArray.size_mk', List.size_toArray, List.length_cons, List.length_nil]; omega)
  have a2 : ∀ w, (Op.stringOp .add (t0 ++ ⟨#[91]⟩ ++ t1) ⟨#[93]⟩).run Tryz.prog w = .ok (.string (t0 ++ ⟨#[91]⟩ ++ t1 ++ ⟨#[93]⟩)) w := fun w => run_string_add_sum w _ _ (by simp only [ByteArray.size_append', ByteArray.size_mk', List.size_toArray, List.length_cons, List.length_nil]; omega)
  have hkl : ∀ a b : World, Below a.heap.size a b → (a.cell? ⟨w.heap.size, 5, none⟩ = some (.slice (some ad) 2 c) ∧ a.cell? ad = some (.int .i64 y0.f0) ∧ a.cell? ⟨ad.block, ad.off + 1, none⟩ = some (.string y0.f1.f0) ∧ a.cell? ⟨ad.block, ad.off + 2, none⟩ = some (.string y0.f1.f1) ∧ a.cell? ⟨ad.block, ad.off + 3, none⟩ = some (.string y0.f2) ∧ a.cell? ⟨ad.block, ad.off + 4, none⟩ = some (.int .i64 y0.f3) ∧ a.cell? ⟨ad.block, ad.off + 5, none⟩ = some (.slice A5_0 y0.f4.length c5_0) ∧ a.cell? ⟨ad.block, ad.off + 6, none⟩ = some (.int .i64 y1.f0) ∧ a.cell? ⟨ad.block, ad.off + 6 + 1, none⟩ = some (.string y1.f1.f0) ∧ a.cell? ⟨ad.block, ad.off + 6 + 2, none⟩ = some (.string y1.f1.f1) ∧ a.cell? ⟨ad.block, ad.off + 6 + 3, none⟩ = some (.string y1.f2) ∧ a.cell? ⟨ad.block, ad.off + 6 + 4, none⟩ = some (.int .i64 y1.f3) ∧ a.cell? ⟨ad.block, ad.off + 6 + 5, none⟩ = some (.slice A5_1 y1.f4.length c5_1)) → (b.cell? ⟨w.heap.size, 5, none⟩ = some (.slice (some ad) 2 c) ∧ b.cell? ad = some (.int .i64 y0.f0) ∧ b.cell? ⟨ad.block, ad.off + 1, none⟩ = some (.string y0.f1.f0) ∧ b.cell? ⟨ad.block, ad.off + 2, none⟩ = some (.string y0.f1.f1) ∧ b.cell? ⟨ad.block, ad.off + 3, none⟩ = some (.string y0.f2) ∧ b.cell? ⟨ad.block, ad.off + 4, none⟩ = some (.int .i64 y0.f3) ∧ b.cell? ⟨ad.block, ad.off + 5, none⟩ = some (.slice A5_0 y0.f4.length c5_0) ∧ b.cell? ⟨ad.block, ad.off + 6, none⟩ = some (.int .i64 y1.f0) ∧ b.cell? ⟨ad.block, ad.off + 6 + 1, none⟩ = some (.string y1.f1.f0) ∧ b.cell? ⟨ad.block, ad.off + 6 + 2, none⟩ = some (.string y1.f1.f1) ∧ b.cell? ⟨ad.block, ad.off + 6 + 3, none⟩ = some (.string y1.f2) ∧ b.cell? ⟨ad.block, ad.off + 6 + 4, none⟩ = some (.int .i64 y1.f3) ∧ b.cell? ⟨ad.block, ad.off + 6 + 5, none⟩ = some (.slice A5_1 y1.f4.length c5_1)) := fun a b hb ⟨h0, h1, h2, h3, h4, h5, h6, h7, h8, h9, h10, h11, h12⟩ =>
    ⟨pw_cell_below hb h0, pw_cell_below hb h1, pw_cell_below hb h2, pw_cell_below hb h3, pw_cell_below hb h4, pw_cell_below hb h5, pw_cell_below hb h6, pw_cell_below hb h7, pw_cell_below hb h8, pw_cell_below hb h9, pw_cell_below hb h10, pw_cell_below hb h11, pw_cell_below hb h12⟩
  have HKL := Lib.hid hkl
  clear hkl
  go_enter Tryz.func46, Tryz.ntmps46
  go_wp2_with fail
  have BW := (Below.refl w.heap.size w).alloc (Nat.le_refl _) (.cells #[.int .i64 9, .string num.f0, .string num.f1, .string name, .int .i64 size, .slice (some ad) 2 c] 31)
  generalize hX : w.alloc (.cells #[.int .i64 9, .string num.f0, .string num.f1, .string name, .int .i64 size, .slice (some ad) 2 c] 31) = X at *
  have BW := BW.drew
  have K := HKL.out X X.drew (Below.refl _ X).drew ⟨p5, q0_0, q0_1, q0_2, q0_3, q0_4, q0_5, q1_0, q1_1, q1_2, q1_3, q1_4, q1_5⟩
  have V0 := hvw0.below (Below.refl _ X).drew
  have V1 := hvw1.below (Below.refl _ X).drew
  clear hbl p0 p1 p2 p3 p4 p5 xl hvw0 q0_0 q0_1 q0_2 q0_3 q0_4 q0_5 hvw1 q1_0 q1_1 q1_2 q1_3 q1_4 q1_5
  go_region_held3 (fun w' : World => w'.cell? ⟨w.heap.size, 5, none⟩ = some (.slice (some ad) 2 c) ∧ w'.cell? ad = some (.int .i64 y0.f0) ∧ w'.cell? ⟨ad.block, ad.off + 1, none⟩ = some (.string y0.f1.f0) ∧ w'.cell? ⟨ad.block, ad.off + 2, none⟩ = some (.string y0.f1.f1) ∧ w'.cell? ⟨ad.block, ad.off + 3, none⟩ = some (.string y0.f2) ∧ w'.cell? ⟨ad.block, ad.off + 4, none⟩ = some (.int .i64 y0.f3) ∧ w'.cell? ⟨ad.block, ad.off + 5, none⟩ = some (.slice A5_0 y0.f4.length c5_0) ∧ w'.cell? ⟨ad.block, ad.off + 6, none⟩ = some (.int .i64 y1.f0) ∧ w'.cell? ⟨ad.block, ad.off + 6 + 1, none⟩ = some (.string y1.f1.f0) ∧ w'.cell? ⟨ad.block, ad.off + 6 + 2, none⟩ = some (.string y1.f1.f1) ∧ w'.cell? ⟨ad.block, ad.off + 6 + 3, none⟩ = some (.string y1.f2) ∧ w'.cell? ⟨ad.block, ad.off + 6 + 4, none⟩ = some (.int .i64 y1.f3) ∧ w'.cell? ⟨ad.block, ad.off + 6 + 5, none⟩ = some (.slice A5_1 y1.f4.length c5_1)) (first | exact K) (first | (go_at_call 83; refine (HR0.out _ _ V0).mono ?_; rintro e wq ⟨rfl, hq⟩; clear HR0; have K := HKL.out _ _ hq K; have V0 := V0.below hq; have V1 := V1.below hq; have BW := BW.trans (hq.mono BW.size)) | (go_at_call 83; refine (HR1.out _ _ V1).mono ?_; rintro e wq ⟨rfl, hq⟩; clear HR1; have K := HKL.out _ _ hq K; have V0 := V0.below hq; have V1 := V1.below hq; have BW := BW.trans (hq.mono BW.size)))
  all_goals
    go_wp2
    go_ret
    exact ⟨rfl, BW⟩
set_option maxRecDepth 100000 in
set_option maxHeartbeats 4000000 in
theorem open_op10 (num : S28) (name : ByteArray) (size : Int) (y0 : S31) (v : Value) (w : World) (hv : Vw w ⟨10, num, name, size, [y0]⟩ v) (hsn : name.size ≤ 1000000) (hz0 : -9 ≤ size) (hz1 : size ≤ 99)
    (hr0 : ∀ v w', Vw w' y0 v → Calls Tryz.prog 83 #[v, .int .i64 0] w' fun e w'' => e = .returned (.string (rtext y0 0)) ∧ Below w'.heap.size w' w'') (hs0 : (rtext y0 0).size ≤ 1000000) :
    Calls Tryz.prog 46 #[v] w fun e w' => e = .returned (.string (⟨#[116, 97, 98, 32]⟩ ++ name ++ ⟨#[32, 60, 32]⟩ ++ (ofR size) ++ ⟨#[32, 46, 32]⟩ ++ rtext y0 0)) ∧ Below w.heap.size w w' := by
  obtain ⟨A, c, rfl, hc1, hc2⟩ := hv.out
  simp only [List.length_cons, List.length_nil, Nat.zero_add, Nat.reduceAdd] at hc1 hc2 hv ⊢
  unfold exV at hv ⊢
  simp only at hv ⊢
  have hb0 := (Below.refl w.heap.size w).alloc (Nat.le_refl _) (.cells #[.int .i64 10, .string num.f0, .string num.f1, .string name, .int .i64 size, .slice A 1 c] 31)
  obtain ⟨ad, A5_0, c5_0, rfl, q0_0, q0_1, q0_2, q0_3, q0_4, q0_5, hvw0⟩ := arg_cells (xs := [y0]) (Kd.C_below hc2 hb0) 0 (by simp)
  simp only [List.getElem_cons_zero, Nat.zero_mul, Addr.add_zero'] at q0_0 q0_1 q0_2 q0_3 q0_4 q0_5 hvw0
  have hbl := blk_new w (.cells #[.int .i64 10, .string num.f0, .string num.f1, .string name, .int .i64 size, .slice (some ad) 1 c] 31)
  obtain ⟨⟨p0, p1, p2, p3, p4, p5⟩, _, xl⟩ := cells6 hbl
  have HR0 := Lib.hid hr0
  have HZ := Lib.hid (fun W => OfInt_calls size hz0 hz1 W)
  have hzz := ofR_size size hz0 hz1
  clear hv hb0 hc1 hc2 hr0
  generalize rtext y0 0 = t0 at *
  generalize ofR size = tz at *
  have a0 : ∀ w, (Op.stringOp .add (⟨#[116, 97, 98, 32]⟩ : ByteArray) name).run Tryz.prog w = .ok (.string (⟨#[116, 97, 98, 32]⟩ ++ name)) w := fun w => run_string_add_sum w _ _ (by simp only [ByteArray.size_append', ByteArray.size_mk', List.size_toArray, List.length_cons, List.length_nil]; omega)
  have a1 : ∀ w, (Op.stringOp .add (⟨#[116, 97, 98, 32]⟩ ++ name) ⟨#[32, 60, 32]⟩).run Tryz.prog w = .ok (.string (⟨#[116, 97, 98, 32]⟩ ++ name ++ ⟨#[32, 60, 32]⟩)) w := fun w => run_string_add_sum w _ _ (by simp only [ByteArray.size_append', ByteArray.size_mk', List.size_toArray, List.length_cons, List.length_nil]; omega)
  have a2 : ∀ w, (Op.stringOp .add (⟨#[116, 97, 98, 32]⟩ ++ name ++ ⟨#[32, 60, 32]⟩) tz).run Tryz.prog w = .ok (.string (⟨#[116, 97, 98, 32]⟩ ++ name ++ ⟨#[32, 60, 32]⟩ ++ tz)) w := fun w => run_string_add_sum w _ _ (by simp only [ByteArray.size_append', ByteArray.size_mk', List.size_toArray, List.length_cons, List.length_nil]; omega)
  have a3 : ∀ w, (Op.stringOp .add (⟨#[116, 97, 98, 32]⟩ ++ name ++ ⟨#[32, 60, 32]⟩ ++ tz) ⟨#[32, 46, 32]⟩).run Tryz.prog w = .ok (.string (⟨#[116, 97, 98, 32]⟩ ++ name ++ ⟨#[32, 60, 32]⟩ ++ tz ++ ⟨#[32, 46, 32]⟩)) w := fun w => run_string_add_sum w _ _ (by simp only [ByteArray.size_append', ByteArray.size_mk', List.size_toArray, List.length_cons, List.length_nil]; omega)
  have a4 : ∀ w, (Op.stringOp .add (⟨#[116, 97, 98, 32]⟩ ++ name ++ ⟨#[32, 60, 32]⟩ ++ tz ++ ⟨#[32, 46, 32]⟩) t0).run Tryz.prog w = .ok (.string (⟨#[116, 97, 98, 32]⟩ ++ name ++ ⟨#[32, 60, 32]⟩ ++ tz ++ ⟨#[32, 46, 32]⟩ ++ t0)) w := fun w => run_string_add_sum w _ _ (by simp only [ByteArray.size_append', ByteArray.size_mk', List.size_toArray, List.length_cons, List.length_nil]; omega)
  have hkl : ∀ a b : World, Below a.heap.size a b → (a.cell? ⟨w.heap.size, 3, none⟩ = some (.string name) ∧ a.cell? ⟨w.heap.size, 4, none⟩ = some (.int .i64 size) ∧ a.cell? ⟨w.heap.size, 5, none⟩ = some (.slice (some ad) 1 c) ∧ a.cell? ad = some (.int .i64 y0.f0) ∧ a.cell? ⟨ad.block, ad.off + 1, none⟩ = some (.string y0.f1.f0) ∧ a.cell? ⟨ad.block, ad.off + 2, none⟩ = some (.string y0.f1.f1) ∧ a.cell? ⟨ad.block, ad.off + 3, none⟩ = some (.string y0.f2) ∧ a.cell? ⟨ad.block, ad.off + 4, none⟩ = some (.int .i64 y0.f3) ∧ a.cell? ⟨ad.block, ad.off + 5, none⟩ = some (.slice A5_0 y0.f4.length c5_0)) → (b.cell? ⟨w.heap.size, 3, none⟩ = some (.string name) ∧ b.cell? ⟨w.heap.size, 4, none⟩ = some (.int .i64 size) ∧ b.cell? ⟨w.heap.size, 5, none⟩ = some (.slice (some ad) 1 c) ∧ b.cell? ad = some (.int .i64 y0.f0) ∧ b.cell? ⟨ad.block, ad.off + 1, none⟩ = some (.string y0.f1.f0) ∧ b.cell? ⟨ad.block, ad.off + 2, none⟩ = some (.string y0.f1.f1) ∧ b.cell? ⟨ad.block, ad.off + 3, none⟩ = some (.string y0.f2) ∧ b.cell? ⟨ad.block, ad.off + 4, none⟩ = some (.int .i64 y0.f3) ∧ b.cell? ⟨ad.block, ad.off + 5, none⟩ = some (.slice A5_0 y0.f4.length c5_0)) := fun a b hb ⟨h0, h1, h2, h3, h4, h5, h6, h7, h8⟩ =>
    ⟨pw_cell_below hb h0, pw_cell_below hb h1, pw_cell_below hb h2, pw_cell_below hb h3, pw_cell_below hb h4, pw_cell_below hb h5, pw_cell_below hb h6, pw_cell_below hb h7, pw_cell_below hb h8⟩
  have HKL := Lib.hid hkl
  clear hkl
  go_enter Tryz.func46, Tryz.ntmps46
  go_wp2_with fail
  have BW := (Below.refl w.heap.size w).alloc (Nat.le_refl _) (.cells #[.int .i64 10, .string num.f0, .string num.f1, .string name, .int .i64 size, .slice (some ad) 1 c] 31)
  generalize hX : w.alloc (.cells #[.int .i64 10, .string num.f0, .string num.f1, .string name, .int .i64 size, .slice (some ad) 1 c] 31) = X at *
  have BW := BW.drew
  have K := HKL.out X X.drew (Below.refl _ X).drew ⟨p3, p4, p5, q0_0, q0_1, q0_2, q0_3, q0_4, q0_5⟩
  have V0 := hvw0.below (Below.refl _ X).drew
  clear hbl p0 p1 p2 p3 p4 p5 xl hvw0 q0_0 q0_1 q0_2 q0_3 q0_4 q0_5
  go_region_held3 (fun w' : World => w'.cell? ⟨w.heap.size, 3, none⟩ = some (.string name) ∧ w'.cell? ⟨w.heap.size, 4, none⟩ = some (.int .i64 size) ∧ w'.cell? ⟨w.heap.size, 5, none⟩ = some (.slice (some ad) 1 c) ∧ w'.cell? ad = some (.int .i64 y0.f0) ∧ w'.cell? ⟨ad.block, ad.off + 1, none⟩ = some (.string y0.f1.f0) ∧ w'.cell? ⟨ad.block, ad.off + 2, none⟩ = some (.string y0.f1.f1) ∧ w'.cell? ⟨ad.block, ad.off + 3, none⟩ = some (.string y0.f2) ∧ w'.cell? ⟨ad.block, ad.off + 4, none⟩ = some (.int .i64 y0.f3) ∧ w'.cell? ⟨ad.block, ad.off + 5, none⟩ = some (.slice A5_0 y0.f4.length c5_0)) (first | exact K) (first | (go_at_call 83; refine (HR0.out _ _ V0).mono ?_; rintro e wq ⟨rfl, hq⟩; clear HR0; have K := HKL.out _ _ hq K; have V0 := V0.below hq; have BW := BW.trans (hq.mono BW.size)) | (go_at_call 84; refine (HZ.out _).mono ?_; rintro e wq ⟨rfl, hq⟩; have K := HKL.out _ _ hq K; have V0 := V0.below hq; have BW := BW.trans (hq.mono BW.size)))
  all_goals
    go_wp2
    go_ret
    exact ⟨rfl, BW⟩
set_option maxRecDepth 100000 in
set_option maxHeartbeats 4000000 in
theorem open_op11 (num : S28) (name : ByteArray) (size : Int) (y0 : S31) (v : Value) (w : World) (hv : Vw w ⟨11, num, name, size, [y0]⟩ v) (hsn : name.size ≤ 1000000) (hz0 : -9 ≤ size) (hz1 : size ≤ 99)
    (hr0 : ∀ v w', Vw w' y0 v → Calls Tryz.prog 83 #[v, .int .i64 0] w' fun e w'' => e = .returned (.string (rtext y0 0)) ∧ Below w'.heap.size w' w'') (hs0 : (rtext y0 0).size ≤ 1000000) :
    Calls Tryz.prog 46 #[v] w fun e w' => e = .returned (.string (⟨#[115, 117, 109, 32]⟩ ++ name ++ ⟨#[32, 60, 32]⟩ ++ (ofR size) ++ ⟨#[32, 46, 32]⟩ ++ rtext y0 0)) ∧ Below w.heap.size w w' := by
  obtain ⟨A, c, rfl, hc1, hc2⟩ := hv.out
  simp only [List.length_cons, List.length_nil, Nat.zero_add, Nat.reduceAdd] at hc1 hc2 hv ⊢
  unfold exV at hv ⊢
  simp only at hv ⊢
  have hb0 := (Below.refl w.heap.size w).alloc (Nat.le_refl _) (.cells #[.int .i64 11, .string num.f0, .string num.f1, .string name, .int .i64 size, .slice A 1 c] 31)
  obtain ⟨ad, A5_0, c5_0, rfl, q0_0, q0_1, q0_2, q0_3, q0_4, q0_5, hvw0⟩ := arg_cells (xs := [y0]) (Kd.C_below hc2 hb0) 0 (by simp)
  simp only [List.getElem_cons_zero, Nat.zero_mul, Addr.add_zero'] at q0_0 q0_1 q0_2 q0_3 q0_4 q0_5 hvw0
  have hbl := blk_new w (.cells #[.int .i64 11, .string num.f0, .string num.f1, .string name, .int .i64 size, .slice (some ad) 1 c] 31)
  obtain ⟨⟨p0, p1, p2, p3, p4, p5⟩, _, xl⟩ := cells6 hbl
  have HR0 := Lib.hid hr0
  have HZ := Lib.hid (fun W => OfInt_calls size hz0 hz1 W)
  have hzz := ofR_size size hz0 hz1
  clear hv hb0 hc1 hc2 hr0
  generalize rtext y0 0 = t0 at *
  generalize ofR size = tz at *
  have a0 : ∀ w, (Op.stringOp .add (⟨#[115, 117, 109, 32]⟩ : ByteArray) name).run Tryz.prog w = .ok (.string (⟨#[115, 117, 109, 32]⟩ ++ name)) w := fun w => run_string_add_sum w _ _ (by simp only [ByteArray.size_append', ByteArray.size_mk', List.size_toArray, List.length_cons, List.length_nil]; omega)
  have a1 : ∀ w, (Op.stringOp .add (⟨#[115, 117, 109, 32]⟩ ++ name) ⟨#[32, 60, 32]⟩).run Tryz.prog w = .ok (.string (⟨#[115, 117, 109, 32]⟩ ++ name ++ ⟨#[32, 60, 32]⟩)) w := fun w => run_string_add_sum w _ _ (by simp only [ByteArray.size_append', ByteArray.size_mk', List.size_toArray, List.length_cons, List.length_nil]; omega)
  have a2 : ∀ w, (Op.stringOp .add (⟨#[115, 117, 109, 32]⟩ ++ name ++ ⟨#[32, 60, 32]⟩) tz).run Tryz.prog w = .ok (.string (⟨#[115, 117, 109, 32]⟩ ++ name ++ ⟨#[32, 60, 32]⟩ ++ tz)) w := fun w => run_string_add_sum w _ _ (by simp only [ByteArray.size_append', ByteArray.size_mk', List.size_toArray, List.length_cons, List.length_nil]; omega)
  have a3 : ∀ w, (Op.stringOp .add (⟨#[115, 117, 109, 32]⟩ ++ name ++ ⟨#[32, 60, 32]⟩ ++ tz) ⟨#[32, 46, 32]⟩).run Tryz.prog w = .ok (.string (⟨#[115, 117, 109, 32]⟩ ++ name ++ ⟨#[32, 60, 32]⟩ ++ tz ++ ⟨#[32, 46, 32]⟩)) w := fun w => run_string_add_sum w _ _ (by simp only [ByteArray.size_append', ByteArray.size_mk', List.size_toArray, List.length_cons, List.length_nil]; omega)
  have a4 : ∀ w, (Op.stringOp .add (⟨#[115, 117, 109, 32]⟩ ++ name ++ ⟨#[32, 60, 32]⟩ ++ tz ++ ⟨#[32, 46, 32]⟩) t0).run Tryz.prog w = .ok (.string (⟨#[115, 117, 109, 32]⟩ ++ name ++ ⟨#[32, 60, 32]⟩ ++ tz ++ ⟨#[32, 46, 32]⟩ ++ t0)) w := fun w => run_string_add_sum w _ _ (by simp only [ByteArray.size_append', ByteArray.size_mk', List.size_toArray, List.length_cons, List.length_nil]; omega)
  have hkl : ∀ a b : World, Below a.heap.size a b → (a.cell? ⟨w.heap.size, 3, none⟩ = some (.string name) ∧ a.cell? ⟨w.heap.size, 4, none⟩ = some (.int .i64 size) ∧ a.cell? ⟨w.heap.size, 5, none⟩ = some (.slice (some ad) 1 c) ∧ a.cell? ad = some (.int .i64 y0.f0) ∧ a.cell? ⟨ad.block, ad.off + 1, none⟩ = some (.string y0.f1.f0) ∧ a.cell? ⟨ad.block, ad.off + 2, none⟩ = some (.string y0.f1.f1) ∧ a.cell? ⟨ad.block, ad.off + 3, none⟩ = some (.string y0.f2) ∧ a.cell? ⟨ad.block, ad.off + 4, none⟩ = some (.int .i64 y0.f3) ∧ a.cell? ⟨ad.block, ad.off + 5, none⟩ = some (.slice A5_0 y0.f4.length c5_0)) → (b.cell? ⟨w.heap.size, 3, none⟩ = some (.string name) ∧ b.cell? ⟨w.heap.size, 4, none⟩ = some (.int .i64 size) ∧ b.cell? ⟨w.heap.size, 5, none⟩ = some (.slice (some ad) 1 c) ∧ b.cell? ad = some (.int .i64 y0.f0) ∧ b.cell? ⟨ad.block, ad.off + 1, none⟩ = some (.string y0.f1.f0) ∧ b.cell? ⟨ad.block, ad.off + 2, none⟩ = some (.string y0.f1.f1) ∧ b.cell? ⟨ad.block, ad.off + 3, none⟩ = some (.string y0.f2) ∧ b.cell? ⟨ad.block, ad.off + 4, none⟩ = some (.int .i64 y0.f3) ∧ b.cell? ⟨ad.block, ad.off + 5, none⟩ = some (.slice A5_0 y0.f4.length c5_0)) := fun a b hb ⟨h0, h1, h2, h3, h4, h5, h6, h7, h8⟩ =>
    ⟨pw_cell_below hb h0, pw_cell_below hb h1, pw_cell_below hb h2, pw_cell_below hb h3, pw_cell_below hb h4, pw_cell_below hb h5, pw_cell_below hb h6, pw_cell_below hb h7, pw_cell_below hb h8⟩
  have HKL := Lib.hid hkl
  clear hkl
  go_enter Tryz.func46, Tryz.ntmps46
  go_wp2_with fail
  have BW := (Below.refl w.heap.size w).alloc (Nat.le_refl _) (.cells #[.int .i64 11, .string num.f0, .string num.f1, .string name, .int .i64 size, .slice (some ad) 1 c] 31)
  generalize hX : w.alloc (.cells #[.int .i64 11, .string num.f0, .string num.f1, .string name, .int .i64 size, .slice (some ad) 1 c] 31) = X at *
  have BW := BW.drew
  have K := HKL.out X X.drew (Below.refl _ X).drew ⟨p3, p4, p5, q0_0, q0_1, q0_2, q0_3, q0_4, q0_5⟩
  have V0 := hvw0.below (Below.refl _ X).drew
  clear hbl p0 p1 p2 p3 p4 p5 xl hvw0 q0_0 q0_1 q0_2 q0_3 q0_4 q0_5
  go_region_held3 (fun w' : World => w'.cell? ⟨w.heap.size, 3, none⟩ = some (.string name) ∧ w'.cell? ⟨w.heap.size, 4, none⟩ = some (.int .i64 size) ∧ w'.cell? ⟨w.heap.size, 5, none⟩ = some (.slice (some ad) 1 c) ∧ w'.cell? ad = some (.int .i64 y0.f0) ∧ w'.cell? ⟨ad.block, ad.off + 1, none⟩ = some (.string y0.f1.f0) ∧ w'.cell? ⟨ad.block, ad.off + 2, none⟩ = some (.string y0.f1.f1) ∧ w'.cell? ⟨ad.block, ad.off + 3, none⟩ = some (.string y0.f2) ∧ w'.cell? ⟨ad.block, ad.off + 4, none⟩ = some (.int .i64 y0.f3) ∧ w'.cell? ⟨ad.block, ad.off + 5, none⟩ = some (.slice A5_0 y0.f4.length c5_0)) (first | exact K) (first | (go_at_call 83; refine (HR0.out _ _ V0).mono ?_; rintro e wq ⟨rfl, hq⟩; clear HR0; have K := HKL.out _ _ hq K; have V0 := V0.below hq; have BW := BW.trans (hq.mono BW.size)) | (go_at_call 84; refine (HZ.out _).mono ?_; rintro e wq ⟨rfl, hq⟩; have K := HKL.out _ _ hq K; have V0 := V0.below hq; have BW := BW.trans (hq.mono BW.size)))
  all_goals
    go_wp2
    go_ret
    exact ⟨rfl, BW⟩
set_option maxRecDepth 100000 in
set_option maxHeartbeats 4000000 in
theorem open_op12 (num : S28) (name : ByteArray) (size : Int) (y0 y1 y2 y3 : S31) (v : Value) (w : World) (hv : Vw w ⟨12, num, name, size, [y0, y1, y2, y3]⟩ v) (hsn : name.size ≤ 1000000)
    (hr0 : ∀ v w', Vw w' y0 v → Calls Tryz.prog 83 #[v, .int .i64 1] w' fun e w'' => e = .returned (.string (rtext y0 1)) ∧ Below w'.heap.size w' w'') (hs0 : (rtext y0 1).size ≤ 1000000) (hr1 : ∀ v w', Vw w' y1 v → Calls Tryz.prog 83 #[v, .int .i64 1] w' fun e w'' => e = .returned (.string (rtext y1 1)) ∧ Below w'.heap.size w' w'') (hs1 : (rtext y1 1).size ≤ 1000000) (hr2 : ∀ v w', Vw w' y2 v → Calls Tryz.prog 83 #[v, .int .i64 0] w' fun e w'' => e = .returned (.string (rtext y2 0)) ∧ Below w'.heap.size w' w'') (hs2 : (rtext y2 0).size ≤ 1000000) (hr3 : ∀ v w', Vw w' y3 v → Calls Tryz.prog 83 #[v, .int .i64 0] w' fun e w'' => e = .returned (.string (rtext y3 0)) ∧ Below w'.heap.size w' w'') (hs3 : (rtext y3 0).size ≤ 1000000) :
    Calls Tryz.prog 46 #[v] w fun e w' => e = .returned (.string (⟨#[105, 102, 32]⟩ ++ rtext y0 1 ++ ⟨#[32, 60, 32]⟩ ++ rtext y1 1 ++ ⟨#[32, 116, 104, 101, 110, 32]⟩ ++ rtext y2 0 ++ ⟨#[32, 101, 108, 115, 101, 32]⟩ ++ rtext y3 0)) ∧ Below w.heap.size w w' := by
  obtain ⟨A, c, rfl, hc1, hc2⟩ := hv.out
  simp only [List.length_cons, List.length_nil, Nat.zero_add, Nat.reduceAdd] at hc1 hc2 hv ⊢
  unfold exV at hv ⊢
  simp only at hv ⊢
  have hb0 := (Below.refl w.heap.size w).alloc (Nat.le_refl _) (.cells #[.int .i64 12, .string num.f0, .string num.f1, .string name, .int .i64 size, .slice A 4 c] 31)
  obtain ⟨ad, A5_0, c5_0, rfl, q0_0, q0_1, q0_2, q0_3, q0_4, q0_5, hvw0⟩ := arg_cells (xs := [y0, y1, y2, y3]) (Kd.C_below hc2 hb0) 0 (by simp)
  simp only [List.getElem_cons_zero, Nat.zero_mul, Addr.add_zero'] at q0_0 q0_1 q0_2 q0_3 q0_4 q0_5 hvw0
  obtain ⟨ad1, A5_1, c5_1, had1, q1_0, q1_1, q1_2, q1_3, q1_4, q1_5, hvw1⟩ := arg_cells (xs := [y0, y1, y2, y3]) (Kd.C_below hc2 hb0) 1 (by simp)
  obtain rfl : ad = ad1 := by injection had1
  simp only [List.getElem_cons_succ, List.getElem_cons_zero, Nat.one_mul, Addr.add_succ'] at q1_0 q1_1 q1_2 q1_3 q1_4 q1_5 hvw1
  obtain ⟨ad2, A5_2, c5_2, had2, q2_0, q2_1, q2_2, q2_3, q2_4, q2_5, hvw2⟩ := arg_cells (xs := [y0, y1, y2, y3]) (Kd.C_below hc2 hb0) 2 (by simp)
  obtain rfl : ad = ad2 := by injection had2
  simp only [List.getElem_cons_succ, List.getElem_cons_zero, Nat.reduceMul, Addr.add_succ'] at q2_0 q2_1 q2_2 q2_3 q2_4 q2_5 hvw2
  obtain ⟨ad3, A5_3, c5_3, had3, q3_0, q3_1, q3_2, q3_3, q3_4, q3_5, hvw3⟩ := arg_cells (xs := [y0, y1, y2, y3]) (Kd.C_below hc2 hb0) 3 (by simp)
  obtain rfl : ad = ad3 := by injection had3
  simp only [List.getElem_cons_succ, List.getElem_cons_zero, Nat.reduceMul, Addr.add_succ'] at q3_0 q3_1 q3_2 q3_3 q3_4 q3_5 hvw3
  have hbl := blk_new w (.cells #[.int .i64 12, .string num.f0, .string num.f1, .string name, .int .i64 size, .slice (some ad) 4 c] 31)
  obtain ⟨⟨p0, p1, p2, p3, p4, p5⟩, _, xl⟩ := cells6 hbl
  have HR0 := Lib.hid hr0
  have HR1 := Lib.hid hr1
  have HR2 := Lib.hid hr2
  have HR3 := Lib.hid hr3
  clear hv hb0 hc1 hc2 hr0 hr1 hr2 hr3
  generalize rtext y0 1 = t0 at *
  generalize rtext y1 1 = t1 at *
  generalize rtext y2 0 = t2 at *
  generalize rtext y3 0 = t3 at *
  have a0 : ∀ w, (Op.stringOp .add (⟨#[105, 102, 32]⟩ : ByteArray) t0).run Tryz.prog w = .ok (.string (⟨#[105, 102, 32]⟩ ++ t0)) w := fun w => run_string_add_sum w _ _ (by simp only [ByteArray.size_append', ByteArray.size_mk', List.size_toArray, List.length_cons, List.length_nil]; omega)
  have a1 : ∀ w, (Op.stringOp .add (⟨#[105, 102, 32]⟩ ++ t0) ⟨#[32, 60, 32]⟩).run Tryz.prog w = .ok (.string (⟨#[105, 102, 32]⟩ ++ t0 ++ ⟨#[32, 60, 32]⟩)) w := fun w => run_string_add_sum w _ _ (by simp only [ByteArray.size_append', ByteArray.size_mk', List.size_toArray, List.length_cons, List.length_nil]; omega)
  have a2 : ∀ w, (Op.stringOp .add (⟨#[105, 102, 32]⟩ ++ t0 ++ ⟨#[32, 60, 32]⟩) t1).run Tryz.prog w = .ok (.string (⟨#[105, 102, 32]⟩ ++ t0 ++ ⟨#[32, 60, 32]⟩ ++ t1)) w := fun w => run_string_add_sum w _ _ (by simp only [ByteArray.size_append', ByteArray.size_mk', List.size_toArray, List.length_cons, List.length_nil]; omega)
  have a3 : ∀ w, (Op.stringOp .add (⟨#[105, 102, 32]⟩ ++ t0 ++ ⟨#[32, 60, 32]⟩ ++ t1) ⟨#[32, 116, 104, 101, 110, 32]⟩).run Tryz.prog w = .ok (.string (⟨#[105, 102, 32]⟩ ++ t0 ++ ⟨#[32, 60, 32]⟩ ++ t1 ++ ⟨#[32, 116, 104, 101, 110, 32]⟩)) w := fun w => run_string_add_sum w _ _ (by simp only [ByteArray.size_append', ByteArray.size_mk', List.size_toArray, List.length_cons, List.length_nil]; omega)
  have a4 : ∀ w, (Op.stringOp .add (⟨#[105, 102, 32]⟩ ++ t0 ++ ⟨#[32, 60, 32]⟩ ++ t1 ++ ⟨#[32, 116, 104, 101, 110, 32]⟩) t2).run Tryz.prog w = .ok (.string (⟨#[105, 102, 32]⟩ ++ t0 ++ ⟨#[32, 60, 32]⟩ ++ t1 ++ ⟨#[32, 116, 104, 101, 110, 32]⟩ ++ t2)) w := fun w => run_string_add_sum w _ _ (by simp only [ByteArray.size_append', ByteArray.size_mk', List.size_toArray, List.length_cons, List.length_nil]; omega)
  have a5 : ∀ w, (Op.stringOp .add (⟨#[105, 102, 32]⟩ ++ t0 ++ ⟨#[32, 60, 32]⟩ ++ t1 ++ ⟨#[32, 116, 104, 101, 110, 32]⟩ ++ t2) ⟨#[32, 101, 108, 115, 101, 32]⟩).run Tryz.prog w = .ok (.string (⟨#[105, 102, 32]⟩ ++ t0 ++ ⟨#[32, 60, 32]⟩ ++ t1 ++ ⟨#[32, 116, 104, 101, 110, 32]⟩ ++ t2 ++ ⟨#[32, 101, 108, 115, 101, 32]⟩)) w := fun w => run_string_add_sum w _ _ (by simp only [ByteArray.size_append', ByteArray.size_mk', List.size_toArray, List.length_cons, List.length_nil]; omega)
  have a6 : ∀ w, (Op.stringOp .add (⟨#[105, 102, 32]⟩ ++ t0 ++ ⟨#[32, 60, 32]⟩ ++ t1 ++ ⟨#[32, 116, 104, 101, 110, 32]⟩ ++ t2 ++ ⟨#[32, 101, 108, 115, 101, 32]⟩) t3).run Tryz.prog w = .ok (.string (⟨#[105, 102, 32]⟩ ++ t0 ++ ⟨#[32, 60, 32]⟩ ++ t1 ++ ⟨#[32, 116, 104, 101, 110, 32]⟩ ++ t2 ++ ⟨#[32, 101, 108, 115, 101, 32]⟩ ++ t3)) w := fun w => run_string_add_sum w _ _ (by simp only [ByteArray.size_append', ByteArray.size_mk', List.size_toArray, List.length_cons, List.length_nil]; omega)
  have hkl : ∀ a b : World, Below a.heap.size a b → (a.cell? ⟨w.heap.size, 5, none⟩ = some (.slice (some ad) 4 c) ∧ a.cell? ad = some (.int .i64 y0.f0) ∧ a.cell? ⟨ad.block, ad.off + 1, none⟩ = some (.string y0.f1.f0) ∧ a.cell? ⟨ad.block, ad.off + 2, none⟩ = some (.string y0.f1.f1) ∧ a.cell? ⟨ad.block, ad.off + 3, none⟩ = some (.string y0.f2) ∧ a.cell? ⟨ad.block, ad.off + 4, none⟩ = some (.int .i64 y0.f3) ∧ a.cell? ⟨ad.block, ad.off + 5, none⟩ = some (.slice A5_0 y0.f4.length c5_0) ∧ a.cell? ⟨ad.block, ad.off + 6, none⟩ = some (.int .i64 y1.f0) ∧ a.cell? ⟨ad.block, ad.off + 6 + 1, none⟩ = some (.string y1.f1.f0) ∧ a.cell? ⟨ad.block, ad.off + 6 + 2, none⟩ = some (.string y1.f1.f1) ∧ a.cell? ⟨ad.block, ad.off + 6 + 3, none⟩ = some (.string y1.f2) ∧ a.cell? ⟨ad.block, ad.off + 6 + 4, none⟩ = some (.int .i64 y1.f3) ∧ a.cell? ⟨ad.block, ad.off + 6 + 5, none⟩ = some (.slice A5_1 y1.f4.length c5_1) ∧ a.cell? ⟨ad.block, ad.off + 12, none⟩ = some (.int .i64 y2.f0) ∧ a.cell? ⟨ad.block, ad.off + 12 + 1, none⟩ = some (.string y2.f1.f0) ∧ a.cell? ⟨ad.block, ad.off + 12 + 2, none⟩ = some (.string y2.f1.f1) ∧ a.cell? ⟨ad.block, ad.off + 12 + 3, none⟩ = some (.string y2.f2) ∧ a.cell? ⟨ad.block, ad.off + 12 + 4, none⟩ = some (.int .i64 y2.f3) ∧ a.cell? ⟨ad.block, ad.off + 12 + 5, none⟩ = some (.slice A5_2 y2.f4.length c5_2) ∧ a.cell? ⟨ad.block, ad.off + 18, none⟩ = some (.int .i64 y3.f0) ∧ a.cell? ⟨ad.block, ad.off + 18 + 1, none⟩ = some (.string y3.f1.f0) ∧ a.cell? ⟨ad.block, ad.off + 18 + 2, none⟩ = some (.string y3.f1.f1) ∧ a.cell? ⟨ad.block, ad.off + 18 + 3, none⟩ = some (.string y3.f2) ∧ a.cell? ⟨ad.block, ad.off + 18 + 4, none⟩ = some (.int .i64 y3.f3) ∧ a.cell? ⟨ad.block, ad.off + 18 + 5, none⟩ = some (.slice A5_3 y3.f4.length c5_3)) → (b.cell? ⟨w.heap.size, 5, none⟩ = some (.slice (some ad) 4 c) ∧ b.cell? ad = some (.int .i64 y0.f0) ∧ b.cell? ⟨ad.block, ad.off + 1, none⟩ = some (.string y0.f1.f0) ∧ b.cell? ⟨ad.block, ad.off + 2, none⟩ = some (.string y0.f1.f1) ∧ b.cell? ⟨ad.block, ad.off + 3, none⟩ = some (.string y0.f2) ∧ b.cell? ⟨ad.block, ad.off + 4, none⟩ = some (.int .i64 y0.f3) ∧ b.cell? ⟨ad.block, ad.off + 5, none⟩ = some (.slice A5_0 y0.f4.length c5_0) ∧ b.cell? ⟨ad.block, ad.off + 6, none⟩ = some (.int .i64 y1.f0) ∧ b.cell? ⟨ad.block, ad.off + 6 + 1, none⟩ = some (.string y1.f1.f0) ∧ b.cell? ⟨ad.block, ad.off + 6 + 2, none⟩ = some (.string y1.f1.f1) ∧ b.cell? ⟨ad.block, ad.off + 6 + 3, none⟩ = some (.string y1.f2) ∧ b.cell? ⟨ad.block, ad.off + 6 + 4, none⟩ = some (.int .i64 y1.f3) ∧ b.cell? ⟨ad.block, ad.off + 6 + 5, none⟩ = some (.slice A5_1 y1.f4.length c5_1) ∧ b.cell? ⟨ad.block, ad.off + 12, none⟩ = some (.int .i64 y2.f0) ∧ b.cell? ⟨ad.block, ad.off + 12 + 1, none⟩ = some (.string y2.f1.f0) ∧ b.cell? ⟨ad.block, ad.off + 12 + 2, none⟩ = some (.string y2.f1.f1) ∧ b.cell? ⟨ad.block, ad.off + 12 + 3, none⟩ = some (.string y2.f2) ∧ b.cell? ⟨ad.block, ad.off + 12 + 4, none⟩ = some (.int .i64 y2.f3) ∧ b.cell? ⟨ad.block, ad.off + 12 + 5, none⟩ = some (.slice A5_2 y2.f4.length c5_2) ∧ b.cell? ⟨ad.block, ad.off + 18, none⟩ = some (.int .i64 y3.f0) ∧ b.cell? ⟨ad.block, ad.off + 18 + 1, none⟩ = some (.string y3.f1.f0) ∧ b.cell? ⟨ad.block, ad.off + 18 + 2, none⟩ = some (.string y3.f1.f1) ∧ b.cell? ⟨ad.block, ad.off + 18 + 3, none⟩ = some (.string y3.f2) ∧ b.cell? ⟨ad.block, ad.off + 18 + 4, none⟩ = some (.int .i64 y3.f3) ∧ b.cell? ⟨ad.block, ad.off + 18 + 5, none⟩ = some (.slice A5_3 y3.f4.length c5_3)) := fun a b hb ⟨h0, h1, h2, h3, h4, h5, h6, h7, h8, h9, h10, h11, h12, h13, h14, h15, h16, h17, h18, h19, h20, h21, h22, h23, h24⟩ =>
    ⟨pw_cell_below hb h0, pw_cell_below hb h1, pw_cell_below hb h2, pw_cell_below hb h3, pw_cell_below hb h4, pw_cell_below hb h5, pw_cell_below hb h6, pw_cell_below hb h7, pw_cell_below hb h8, pw_cell_below hb h9, pw_cell_below hb h10, pw_cell_below hb h11, pw_cell_below hb h12, pw_cell_below hb h13, pw_cell_below hb h14, pw_cell_below hb h15, pw_cell_below hb h16, pw_cell_below hb h17, pw_cell_below hb h18, pw_cell_below hb h19, pw_cell_below hb h20, pw_cell_below hb h21, pw_cell_below hb h22, pw_cell_below hb h23, pw_cell_below hb h24⟩
  have HKL := Lib.hid hkl
  clear hkl
  go_enter Tryz.func46, Tryz.ntmps46
  go_wp2_with fail
  have BW := (Below.refl w.heap.size w).alloc (Nat.le_refl _) (.cells #[.int .i64 12, .string num.f0, .string num.f1, .string name, .int .i64 size, .slice (some ad) 4 c] 31)
  generalize hX : w.alloc (.cells #[.int .i64 12, .string num.f0, .string num.f1, .string name, .int .i64 size, .slice (some ad) 4 c] 31) = X at *
  have BW := BW.drew
  have K := HKL.out X X.drew (Below.refl _ X).drew ⟨p5, q0_0, q0_1, q0_2, q0_3, q0_4, q0_5, q1_0, q1_1, q1_2, q1_3, q1_4, q1_5, q2_0, q2_1, q2_2, q2_3, q2_4, q2_5, q3_0, q3_1, q3_2, q3_3, q3_4, q3_5⟩
  have V0 := hvw0.below (Below.refl _ X).drew
  have V1 := hvw1.below (Below.refl _ X).drew
  have V2 := hvw2.below (Below.refl _ X).drew
  have V3 := hvw3.below (Below.refl _ X).drew
  clear hbl p0 p1 p2 p3 p4 p5 xl hvw0 q0_0 q0_1 q0_2 q0_3 q0_4 q0_5 hvw1 q1_0 q1_1 q1_2 q1_3 q1_4 q1_5 hvw2 q2_0 q2_1 q2_2 q2_3 q2_4 q2_5 hvw3 q3_0 q3_1 q3_2 q3_3 q3_4 q3_5
  go_region_held3 (fun w' : World => w'.cell? ⟨w.heap.size, 5, none⟩ = some (.slice (some ad) 4 c) ∧ w'.cell? ad = some (.int .i64 y0.f0) ∧ w'.cell? ⟨ad.block, ad.off + 1, none⟩ = some (.string y0.f1.f0) ∧ w'.cell? ⟨ad.block, ad.off + 2, none⟩ = some (.string y0.f1.f1) ∧ w'.cell? ⟨ad.block, ad.off + 3, none⟩ = some (.string y0.f2) ∧ w'.cell? ⟨ad.block, ad.off + 4, none⟩ = some (.int .i64 y0.f3) ∧ w'.cell? ⟨ad.block, ad.off + 5, none⟩ = some (.slice A5_0 y0.f4.length c5_0) ∧ w'.cell? ⟨ad.block, ad.off + 6, none⟩ = some (.int .i64 y1.f0) ∧ w'.cell? ⟨ad.block, ad.off + 6 + 1, none⟩ = some (.string y1.f1.f0) ∧ w'.cell? ⟨ad.block, ad.off + 6 + 2, none⟩ = some (.string y1.f1.f1) ∧ w'.cell? ⟨ad.block, ad.off + 6 + 3, none⟩ = some (.string y1.f2) ∧ w'.cell? ⟨ad.block, ad.off + 6 + 4, none⟩ = some (.int .i64 y1.f3) ∧ w'.cell? ⟨ad.block, ad.off + 6 + 5, none⟩ = some (.slice A5_1 y1.f4.length c5_1) ∧ w'.cell? ⟨ad.block, ad.off + 12, none⟩ = some (.int .i64 y2.f0) ∧ w'.cell? ⟨ad.block, ad.off + 12 + 1, none⟩ = some (.string y2.f1.f0) ∧ w'.cell? ⟨ad.block, ad.off + 12 + 2, none⟩ = some (.string y2.f1.f1) ∧ w'.cell? ⟨ad.block, ad.off + 12 + 3, none⟩ = some (.string y2.f2) ∧ w'.cell? ⟨ad.block, ad.off + 12 + 4, none⟩ = some (.int .i64 y2.f3) ∧ w'.cell? ⟨ad.block, ad.off + 12 + 5, none⟩ = some (.slice A5_2 y2.f4.length c5_2) ∧ w'.cell? ⟨ad.block, ad.off + 18, none⟩ = some (.int .i64 y3.f0) ∧ w'.cell? ⟨ad.block, ad.off + 18 + 1, none⟩ = some (.string y3.f1.f0) ∧ w'.cell? ⟨ad.block, ad.off + 18 + 2, none⟩ = some (.string y3.f1.f1) ∧ w'.cell? ⟨ad.block, ad.off + 18 + 3, none⟩ = some (.string y3.f2) ∧ w'.cell? ⟨ad.block, ad.off + 18 + 4, none⟩ = some (.int .i64 y3.f3) ∧ w'.cell? ⟨ad.block, ad.off + 18 + 5, none⟩ = some (.slice A5_3 y3.f4.length c5_3)) (first | exact K) (first | (go_at_call 83; refine (HR0.out _ _ V0).mono ?_; rintro e wq ⟨rfl, hq⟩; clear HR0; have K := HKL.out _ _ hq K; have V0 := V0.below hq; have V1 := V1.below hq; have V2 := V2.below hq; have V3 := V3.below hq; have BW := BW.trans (hq.mono BW.size)) | (go_at_call 83; refine (HR1.out _ _ V1).mono ?_; rintro e wq ⟨rfl, hq⟩; clear HR1; have K := HKL.out _ _ hq K; have V0 := V0.below hq; have V1 := V1.below hq; have V2 := V2.below hq; have V3 := V3.below hq; have BW := BW.trans (hq.mono BW.size)) | (go_at_call 83; refine (HR2.out _ _ V2).mono ?_; rintro e wq ⟨rfl, hq⟩; clear HR2; have K := HKL.out _ _ hq K; have V0 := V0.below hq; have V1 := V1.below hq; have V2 := V2.below hq; have V3 := V3.below hq; have BW := BW.trans (hq.mono BW.size)) | (go_at_call 83; refine (HR3.out _ _ V3).mono ?_; rintro e wq ⟨rfl, hq⟩; clear HR3; have K := HKL.out _ _ hq K; have V0 := V0.below hq; have V1 := V1.below hq; have V2 := V2.below hq; have V3 := V3.below hq; have BW := BW.trans (hq.mono BW.size)))
  all_goals
    go_wp2
    go_ret
    exact ⟨rfl, BW⟩
set_option maxRecDepth 100000 in
set_option maxHeartbeats 4000000 in
theorem open_op13 (num : S28) (name : ByteArray) (size : Int) (y0 y1 : S31) (v : Value) (w : World) (hv : Vw w ⟨13, num, name, size, [y0, y1]⟩ v) (hsn : name.size ≤ 1000000)
    (hr0 : ∀ v w', Vw w' y0 v → Calls Tryz.prog 83 #[v, .int .i64 0] w' fun e w'' => e = .returned (.string (rtext y0 0)) ∧ Below w'.heap.size w' w'') (hs0 : (rtext y0 0).size ≤ 1000000) (hr1 : ∀ v w', Vw w' y1 v → Calls Tryz.prog 83 #[v, .int .i64 0] w' fun e w'' => e = .returned (.string (rtext y1 0)) ∧ Below w'.heap.size w' w'') (hs1 : (rtext y1 0).size ≤ 1000000) :
    Calls Tryz.prog 46 #[v] w fun e w' => e = .returned (.string (⟨#[108, 101, 116, 32]⟩ ++ name ++ ⟨#[32, 61, 32]⟩ ++ rtext y0 0 ++ ⟨#[32, 105, 110, 32]⟩ ++ rtext y1 0)) ∧ Below w.heap.size w w' := by
  obtain ⟨A, c, rfl, hc1, hc2⟩ := hv.out
  simp only [List.length_cons, List.length_nil, Nat.zero_add, Nat.reduceAdd] at hc1 hc2 hv ⊢
  unfold exV at hv ⊢
  simp only at hv ⊢
  have hb0 := (Below.refl w.heap.size w).alloc (Nat.le_refl _) (.cells #[.int .i64 13, .string num.f0, .string num.f1, .string name, .int .i64 size, .slice A 2 c] 31)
  obtain ⟨ad, A5_0, c5_0, rfl, q0_0, q0_1, q0_2, q0_3, q0_4, q0_5, hvw0⟩ := arg_cells (xs := [y0, y1]) (Kd.C_below hc2 hb0) 0 (by simp)
  simp only [List.getElem_cons_zero, Nat.zero_mul, Addr.add_zero'] at q0_0 q0_1 q0_2 q0_3 q0_4 q0_5 hvw0
  obtain ⟨ad1, A5_1, c5_1, had1, q1_0, q1_1, q1_2, q1_3, q1_4, q1_5, hvw1⟩ := arg_cells (xs := [y0, y1]) (Kd.C_below hc2 hb0) 1 (by simp)
  obtain rfl : ad = ad1 := by injection had1
  simp only [List.getElem_cons_succ, List.getElem_cons_zero, Nat.one_mul, Addr.add_succ'] at q1_0 q1_1 q1_2 q1_3 q1_4 q1_5 hvw1
  have hbl := blk_new w (.cells #[.int .i64 13, .string num.f0, .string num.f1, .string name, .int .i64 size, .slice (some ad) 2 c] 31)
  obtain ⟨⟨p0, p1, p2, p3, p4, p5⟩, _, xl⟩ := cells6 hbl
  have HR0 := Lib.hid hr0
  have HR1 := Lib.hid hr1
  clear hv hb0 hc1 hc2 hr0 hr1
  generalize rtext y0 0 = t0 at *
  generalize rtext y1 0 = t1 at *
  have a0 : ∀ w, (Op.stringOp .add (⟨#[108, 101, 116, 32]⟩ : ByteArray) name).run Tryz.prog w = .ok (.string (⟨#[108, 101, 116, 32]⟩ ++ name)) w := fun w => run_string_add_sum w _ _ (by simp only [ByteArray.size_append', ByteArray.size_mk', List.size_toArray, List.length_cons, List.length_nil]; omega)
  have a1 : ∀ w, (Op.stringOp .add (⟨#[108, 101, 116, 32]⟩ ++ name) ⟨#[32, 61, 32]⟩).run Tryz.prog w = .ok (.string (⟨#[108, 101, 116, 32]⟩ ++ name ++ ⟨#[32, 61, 32]⟩)) w := fun w => run_string_add_sum w _ _ (by simp only [ByteArray.size_append', ByteArray.size_mk', List.size_toArray, List.length_cons, List.length_nil]; omega)
  have a2 : ∀ w, (Op.stringOp .add (⟨#[108, 101, 116, 32]⟩ ++ name ++ ⟨#[32, 61, 32]⟩) t0).run Tryz.prog w = .ok (.string (⟨#[108, 101, 116, 32]⟩ ++ name ++ ⟨#[32, 61, 32]⟩ ++ t0)) w := fun w => run_string_add_sum w _ _ (by simp only [ByteArray.size_append', ByteArray.size_mk', List.size_toArray, List.length_cons, List.length_nil]; omega)
  have a3 : ∀ w, (Op.stringOp .add (⟨#[108, 101, 116, 32]⟩ ++ name ++ ⟨#[32, 61, 32]⟩ ++ t0) ⟨#[32, 105, 110, 32]⟩).run Tryz.prog w = .ok (.string (⟨#[108, 101, 116, 32]⟩ ++ name ++ ⟨#[32, 61, 32]⟩ ++ t0 ++ ⟨#[32, 105, 110, 32]⟩)) w := fun w => run_string_add_sum w _ _ (by simp only [ByteArray.size_append', ByteArray.size_mk', List.size_toArray, List.length_cons, List.length_nil]; omega)
  have a4 : ∀ w, (Op.stringOp .add (⟨#[108, 101, 116, 32]⟩ ++ name ++ ⟨#[32, 61, 32]⟩ ++ t0 ++ ⟨#[32, 105, 110, 32]⟩) t1).run Tryz.prog w = .ok (.string (⟨#[108, 101, 116, 32]⟩ ++ name ++ ⟨#[32, 61, 32]⟩ ++ t0 ++ ⟨#[32, 105, 110, 32]⟩ ++ t1)) w := fun w => run_string_add_sum w _ _ (by simp only [ByteArray.size_append', ByteArray.size_mk', List.size_toArray, List.length_cons, List.length_nil]; omega)
  have hkl : ∀ a b : World, Below a.heap.size a b → (a.cell? ⟨w.heap.size, 3, none⟩ = some (.string name) ∧ a.cell? ⟨w.heap.size, 5, none⟩ = some (.slice (some ad) 2 c) ∧ a.cell? ad = some (.int .i64 y0.f0) ∧ a.cell? ⟨ad.block, ad.off + 1, none⟩ = some (.string y0.f1.f0) ∧ a.cell? ⟨ad.block, ad.off + 2, none⟩ = some (.string y0.f1.f1) ∧ a.cell? ⟨ad.block, ad.off + 3, none⟩ = some (.string y0.f2) ∧ a.cell? ⟨ad.block, ad.off + 4, none⟩ = some (.int .i64 y0.f3) ∧ a.cell? ⟨ad.block, ad.off + 5, none⟩ = some (.slice A5_0 y0.f4.length c5_0) ∧ a.cell? ⟨ad.block, ad.off + 6, none⟩ = some (.int .i64 y1.f0) ∧ a.cell? ⟨ad.block, ad.off + 6 + 1, none⟩ = some (.string y1.f1.f0) ∧ a.cell? ⟨ad.block, ad.off + 6 + 2, none⟩ = some (.string y1.f1.f1) ∧ a.cell? ⟨ad.block, ad.off + 6 + 3, none⟩ = some (.string y1.f2) ∧ a.cell? ⟨ad.block, ad.off + 6 + 4, none⟩ = some (.int .i64 y1.f3) ∧ a.cell? ⟨ad.block, ad.off + 6 + 5, none⟩ = some (.slice A5_1 y1.f4.length c5_1)) → (b.cell? ⟨w.heap.size, 3, none⟩ = some (.string name) ∧ b.cell? ⟨w.heap.size, 5, none⟩ = some (.slice (some ad) 2 c) ∧ b.cell? ad = some (.int .i64 y0.f0) ∧ b.cell? ⟨ad.block, ad.off + 1, none⟩ = some (.string y0.f1.f0) ∧ b.cell? ⟨ad.block, ad.off + 2, none⟩ = some (.string y0.f1.f1) ∧ b.cell? ⟨ad.block, ad.off + 3, none⟩ = some (.string y0.f2) ∧ b.cell? ⟨ad.block, ad.off + 4, none⟩ = some (.int .i64 y0.f3) ∧ b.cell? ⟨ad.block, ad.off + 5, none⟩ = some (.slice A5_0 y0.f4.length c5_0) ∧ b.cell? ⟨ad.block, ad.off + 6, none⟩ = some (.int .i64 y1.f0) ∧ b.cell? ⟨ad.block, ad.off + 6 + 1, none⟩ = some (.string y1.f1.f0) ∧ b.cell? ⟨ad.block, ad.off + 6 + 2, none⟩ = some (.string y1.f1.f1) ∧ b.cell? ⟨ad.block, ad.off + 6 + 3, none⟩ = some (.string y1.f2) ∧ b.cell? ⟨ad.block, ad.off + 6 + 4, none⟩ = some (.int .i64 y1.f3) ∧ b.cell? ⟨ad.block, ad.off + 6 + 5, none⟩ = some (.slice A5_1 y1.f4.length c5_1)) := fun a b hb ⟨h0, h1, h2, h3, h4, h5, h6, h7, h8, h9, h10, h11, h12, h13⟩ =>
    ⟨pw_cell_below hb h0, pw_cell_below hb h1, pw_cell_below hb h2, pw_cell_below hb h3, pw_cell_below hb h4, pw_cell_below hb h5, pw_cell_below hb h6, pw_cell_below hb h7, pw_cell_below hb h8, pw_cell_below hb h9, pw_cell_below hb h10, pw_cell_below hb h11, pw_cell_below hb h12, pw_cell_below hb h13⟩
  have HKL := Lib.hid hkl
  clear hkl
  go_enter Tryz.func46, Tryz.ntmps46
  go_wp2_with fail
  have BW := (Below.refl w.heap.size w).alloc (Nat.le_refl _) (.cells #[.int .i64 13, .string num.f0, .string num.f1, .string name, .int .i64 size, .slice (some ad) 2 c] 31)
  generalize hX : w.alloc (.cells #[.int .i64 13, .string num.f0, .string num.f1, .string name, .int .i64 size, .slice (some ad) 2 c] 31) = X at *
  have BW := BW.drew
  have K := HKL.out X X.drew (Below.refl _ X).drew ⟨p3, p5, q0_0, q0_1, q0_2, q0_3, q0_4, q0_5, q1_0, q1_1, q1_2, q1_3, q1_4, q1_5⟩
  have V0 := hvw0.below (Below.refl _ X).drew
  have V1 := hvw1.below (Below.refl _ X).drew
  clear hbl p0 p1 p2 p3 p4 p5 xl hvw0 q0_0 q0_1 q0_2 q0_3 q0_4 q0_5 hvw1 q1_0 q1_1 q1_2 q1_3 q1_4 q1_5
  go_region_held3 (fun w' : World => w'.cell? ⟨w.heap.size, 3, none⟩ = some (.string name) ∧ w'.cell? ⟨w.heap.size, 5, none⟩ = some (.slice (some ad) 2 c) ∧ w'.cell? ad = some (.int .i64 y0.f0) ∧ w'.cell? ⟨ad.block, ad.off + 1, none⟩ = some (.string y0.f1.f0) ∧ w'.cell? ⟨ad.block, ad.off + 2, none⟩ = some (.string y0.f1.f1) ∧ w'.cell? ⟨ad.block, ad.off + 3, none⟩ = some (.string y0.f2) ∧ w'.cell? ⟨ad.block, ad.off + 4, none⟩ = some (.int .i64 y0.f3) ∧ w'.cell? ⟨ad.block, ad.off + 5, none⟩ = some (.slice A5_0 y0.f4.length c5_0) ∧ w'.cell? ⟨ad.block, ad.off + 6, none⟩ = some (.int .i64 y1.f0) ∧ w'.cell? ⟨ad.block, ad.off + 6 + 1, none⟩ = some (.string y1.f1.f0) ∧ w'.cell? ⟨ad.block, ad.off + 6 + 2, none⟩ = some (.string y1.f1.f1) ∧ w'.cell? ⟨ad.block, ad.off + 6 + 3, none⟩ = some (.string y1.f2) ∧ w'.cell? ⟨ad.block, ad.off + 6 + 4, none⟩ = some (.int .i64 y1.f3) ∧ w'.cell? ⟨ad.block, ad.off + 6 + 5, none⟩ = some (.slice A5_1 y1.f4.length c5_1)) (first | exact K) (first | (go_at_call 83; refine (HR0.out _ _ V0).mono ?_; rintro e wq ⟨rfl, hq⟩; clear HR0; have K := HKL.out _ _ hq K; have V0 := V0.below hq; have V1 := V1.below hq; have BW := BW.trans (hq.mono BW.size)) | (go_at_call 83; refine (HR1.out _ _ V1).mono ?_; rintro e wq ⟨rfl, hq⟩; clear HR1; have K := HKL.out _ _ hq K; have V0 := V0.below hq; have V1 := V1.below hq; have BW := BW.trans (hq.mono BW.size)))
  all_goals
    go_wp2
    go_ret
    exact ⟨rfl, BW⟩
end Go.Proofs.YtjaobihcdkjmbaaGreatDoor
end
