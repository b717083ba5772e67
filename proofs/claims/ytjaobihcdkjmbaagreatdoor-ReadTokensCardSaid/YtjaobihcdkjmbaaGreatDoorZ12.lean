/- A part of the proof that the law ReadTokens answers true for every input. -/
import Derived.Deep.RegionHeld3
import Derived.Test.YtjaobihcdkjmbaaGreatDoorZ11
section
namespace Go.Proofs.YtjaobihcdkjmbaaGreatDoor
open Go.RowKit Go.Proofs.YtjaobihcdkjmbaaGreatDoorW.PrintWords Go.Proofs.YtjaobihcdkjmbaaGreatDoor.PReadTokens
set_option maxRecDepth 100000 in
set_option maxHeartbeats 4000000 in
theorem text_op3 (x y z : S31) (hop : x.f0 = 3) (hxs : x.f4 = [y, z]) (least : Int) (v : Value) (w : World) (hv : Vw w x v) (hsz : (openX x).size ≤ 1000000)
    (hrec : ∀ v w' ls, Vw w' y v → Below w.heap.size w w' → Calls Tryz.prog 58 #[v, .int .i64 ls] w' fun e w'' => e = .returned (.string (textX y ls)) ∧ Below w'.heap.size w' w'')
    (hrec2 : ∀ v w' ls, Vw w' z v → Below w.heap.size w w' → Calls Tryz.prog 58 #[v, .int .i64 ls] w' fun e w'' => e = .returned (.string (textX z ls)) ∧ Below w'.heap.size w' w'') :
    Calls Tryz.prog 58 #[v, .int .i64 least] w fun e w' => e = .returned (.string (textX x least)) ∧ Below w.heap.size w w' := by
  obtain ⟨A, c, rfl, hc1, hc2⟩ := hv.out
  obtain ⟨op, num, name, size, xs⟩ := x
  simp only at *
  subst hop hxs
  obtain ⟨r, hr⟩ : ∃ r, r = openX ⟨3, num, name, size, [y, z]⟩ := ⟨_, rfl⟩
  obtain ⟨R, hR⟩ : ∃ R, R = textX ⟨3, num, name, size, [y, z]⟩ least := ⟨_, rfl⟩
  have hR2 : R = wrapB r 1 least := by rw [hR, hr]; rfl
  rw [← hR]
  rw [← hr] at hsz
  have HR2 := Lib.hid hR2
  have hcat : r = cat [textX y 1, ⟨#[32]⟩, ⟨#[43]⟩, ⟨#[32]⟩, textX z 2] := hr
  have HCAT := Lib.hid hcat
  have HSZ := Lib.hid hsz
  clear hR hR2 hr hcat hsz
  have hk := kindOf_calls ⟨3, num, name, size, [y, z]⟩ A 2 c
  unfold exV at *
  simp only [List.length_cons, List.length_nil, Nat.zero_add, Nat.reduceAdd] at *
  have t0 := ta152_150
  have t1 := ta152_152
  have HK := Lib.hid hk
  have HC := Lib.hid hc2
  have HV := Lib.hid hv
  clear hk hc2 hv
  have HR := Lib.hid hrec
  have HR2' := Lib.hid hrec2
  clear hrec hrec2
  go_enter Tryz.func58, Tryz.ntmps58
  go_wp2_with fail
  refine (HK.out _).mono ?_
  rintro e w1 ⟨rfl, hb1⟩
  have hk2 : kindT (S31.mk 3 num name size [y, z]).f0 = 152 := rfl
  rw [hk2]
  have hbw := ((Below.refl _ w).alloc (Nat.le_refl _) (.cells #[.int .i64 3, .string num.f0, .string num.f1, .string name, .int .i64 size, .slice A 2 c] 31)).trans (hb1.mono (by simp))
  have hbw2 := hbw.alloc hbw.size (.cells #[.int .i64 3, .string num.f0, .string num.f1, .string name, .int .i64 size, .slice A 2 c] 152)
  obtain ⟨ad, A5, c5, rfl, q0, q1, q2, q3, q4, q5, hvw⟩ := arg_cells (xs := [y, z]) (Kd.C_below HC.out hbw2) 0 (by simp)
  simp only [List.getElem_cons_zero, Nat.zero_mul, Addr.add_zero'] at q0 q1 q2 q3 q4 q5 hvw
  have hbl := blk_new w1 (.cells #[.int .i64 3, .string num.f0, .string num.f1, .string name, .int .i64 size, .slice (some ad) 2 c] 152)
  obtain ⟨ad2, A7, c7, had, s0, s1, s2, s3, s4, s5, hvw2⟩ := arg_cells (xs := [y, z]) (Kd.C_below HC.out hbw2) 1 (by simp)
  obtain rfl : ad = ad2 := by injection had
  simp only [List.getElem_cons_succ, List.getElem_cons_zero, Nat.one_mul, Addr.add_succ'] at s0 s1 s2 s3 s4 s5 hvw2
  have hkl : ∀ a b : World, Below a.heap.size a b → (a.cell? ⟨w1.heap.size, 0, none⟩ = some (.int .i64 3) ∧ a.cell? ⟨w1.heap.size, 1, none⟩ = some (.string num.f0) ∧ a.cell? ⟨w1.heap.size, 2, none⟩ = some (.string num.f1) ∧ a.cell? ⟨w1.heap.size, 3, none⟩ = some (.string name) ∧ a.cell? ⟨w1.heap.size, 4, none⟩ = some (.int .i64 size) ∧ a.cell? ⟨w1.heap.size, 5, none⟩ = some (.slice (some ad) 2 c) ∧ a.cell? ad = some (.int .i64 y.f0) ∧ a.cell? ⟨ad.block, ad.off + 1, none⟩ = some (.string y.f1.f0) ∧ a.cell? ⟨ad.block, ad.off + 2, none⟩ = some (.string y.f1.f1) ∧ a.cell? ⟨ad.block, ad.off + 3, none⟩ = some (.string y.f2) ∧ a.cell? ⟨ad.block, ad.off + 4, none⟩ = some (.int .i64 y.f3) ∧ a.cell? ⟨ad.block, ad.off + 5, none⟩ = some (.slice A5 y.f4.length c5) ∧ a.cell? ⟨ad.block, ad.off + 6, none⟩ = some (.int .i64 z.f0) ∧ a.cell? ⟨ad.block, ad.off + 6 + 1, none⟩ = some (.string z.f1.f0) ∧ a.cell? ⟨ad.block, ad.off + 6 + 2, none⟩ = some (.string z.f1.f1) ∧ a.cell? ⟨ad.block, ad.off + 6 + 3, none⟩ = some (.string z.f2) ∧ a.cell? ⟨ad.block, ad.off + 6 + 4, none⟩ = some (.int .i64 z.f3) ∧ a.cell? ⟨ad.block, ad.off + 6 + 5, none⟩ = some (.slice A7 z.f4.length c7)) → (b.cell? ⟨w1.heap.size, 0, none⟩ = some (.int .i64 3) ∧ b.cell? ⟨w1.heap.size, 1, none⟩ = some (.string num.f0) ∧ b.cell? ⟨w1.heap.size, 2, none⟩ = some (.string num.f1) ∧ b.cell? ⟨w1.heap.size, 3, none⟩ = some (.string name) ∧ b.cell? ⟨w1.heap.size, 4, none⟩ = some (.int .i64 size) ∧ b.cell? ⟨w1.heap.size, 5, none⟩ = some (.slice (some ad) 2 c) ∧ b.cell? ad = some (.int .i64 y.f0) ∧ b.cell? ⟨ad.block, ad.off + 1, none⟩ = some (.string y.f1.f0) ∧ b.cell? ⟨ad.block, ad.off + 2, none⟩ = some (.string y.f1.f1) ∧ b.cell? ⟨ad.block, ad.off + 3, none⟩ = some (.string y.f2) ∧ b.cell? ⟨ad.block, ad.off + 4, none⟩ = some (.int .i64 y.f3) ∧ b.cell? ⟨ad.block, ad.off + 5, none⟩ = some (.slice A5 y.f4.length c5) ∧ b.cell? ⟨ad.block, ad.off + 6, none⟩ = some (.int .i64 z.f0) ∧ b.cell? ⟨ad.block, ad.off + 6 + 1, none⟩ = some (.string z.f1.f0) ∧ b.cell? ⟨ad.block, ad.off + 6 + 2, none⟩ = some (.string z.f1.f1) ∧ b.cell? ⟨ad.block, ad.off + 6 + 3, none⟩ = some (.string z.f2) ∧ b.cell? ⟨ad.block, ad.off + 6 + 4, none⟩ = some (.int .i64 z.f3) ∧ b.cell? ⟨ad.block, ad.off + 6 + 5, none⟩ = some (.slice A7 z.f4.length c7)) := fun a b hb ⟨h0, h1, h2, h3, h4, h5, h6, h7, h8, h9, h10, h11, h12, h13, h14, h15, h16, h17⟩ =>
    ⟨pw_cell_below hb h0, pw_cell_below hb h1, pw_cell_below hb h2, pw_cell_below hb h3, pw_cell_below hb h4, pw_cell_below hb h5, pw_cell_below hb h6, pw_cell_below hb h7, pw_cell_below hb h8, pw_cell_below hb h9, pw_cell_below hb h10, pw_cell_below hb h11, pw_cell_below hb h12, pw_cell_below hb h13, pw_cell_below hb h14, pw_cell_below hb h15, pw_cell_below hb h16, pw_cell_below hb h17⟩
  obtain ⟨⟨p0, p1, p2, p3, p4, p5⟩, _, xl⟩ := cells6 hbl
  have HL : Hid (∀ b c d e f w', Calls Tryz.prog 99 #[.agg #[.int .i64 3, b, c, d, e, f]] w' fun en w'' => en = .returned (.int .i64 1) ∧ Below w'.heap.size w' w'') := Lib.hid (fun b c d e f w' => lev152 3 (by simp) b c d e f w')
  have HJ : Hid (∀ W : World, Calls Tryz.prog 98 #[.slice (some ⟨W.heap.size, 0, none⟩) 5 5] (W.alloc (.cells #[.string (textX y 1), .string ⟨#[32]⟩, .string (Utf8.encode 43), .string ⟨#[32]⟩, .string (textX z 2)] 9)) fun en w'' => en = .returned (.string r) ∧ Below (W.alloc (.cells #[.string (textX y 1), .string ⟨#[32]⟩, .string (Utf8.encode 43), .string ⟨#[32]⟩, .string (textX z 2)] 9)).heap.size (W.alloc (.cells #[.string (textX y 1), .string ⟨#[32]⟩, .string (Utf8.encode 43), .string ⟨#[32]⟩, .string (textX z 2)] 9)) w'') := Lib.hid (fun W => by
    have hu : Utf8.encode 43 = ⟨#[43]⟩ := rfl
    rw [hu]
    have hj := joined_calls W.heap.size [textX y 1, ⟨#[32]⟩, ⟨#[43]⟩, ⟨#[32]⟩, textX z 2] 9 _ (blk_new W _) (by simp) (by rw [← HCAT.out]; have := HSZ.out; omega)
    rw [← HCAT.out] at hj
    simp only [List.length_cons, List.length_nil] at hj
    exact hj)
  go_wp2_with fail
  rw [show ∀ h, (⟨#[43, 45, 42, 47]⟩ : ByteArray)[0]'h = 43 from fun _ => rfl]
  generalize hX : w1.alloc (.cells #[.int .i64 3, .string num.f0, .string num.f1, .string name, .int .i64 size, .slice (some ad) 2 c] 152) = X at *
  have K := hkl X X.drew (Below.refl _ X).drew ⟨p0, p1, p2, p3, p4, p5, q0, q1, q2, q3, q4, q5, s0, s1, s2, s3, s4, s5⟩
  have V1 := hvw.below (Below.refl _ X).drew
  have V2 := hvw2.below (Below.refl _ X).drew
  have BW := hbw2.drew
  have HKL := Lib.hid hkl
  clear hkl p0 p1 p2 p3 p4 p5 q0 q1 q2 q3 q4 q5 s0 s1 s2 s3 s4 s5 hvw hvw2 hbl t0 t1
  go_region_held3 (fun w' : World => w'.cell? ⟨w1.heap.size, 0, none⟩ = some (.int .i64 3) ∧ w'.cell? ⟨w1.heap.size, 1, none⟩ = some (.string num.f0) ∧ w'.cell? ⟨w1.heap.size, 2, none⟩ = some (.string num.f1) ∧ w'.cell? ⟨w1.heap.size, 3, none⟩ = some (.string name) ∧ w'.cell? ⟨w1.heap.size, 4, none⟩ = some (.int .i64 size) ∧ w'.cell? ⟨w1.heap.size, 5, none⟩ = some (.slice (some ad) 2 c) ∧ w'.cell? ad = some (.int .i64 y.f0) ∧ w'.cell? ⟨ad.block, ad.off + 1, none⟩ = some (.string y.f1.f0) ∧ w'.cell? ⟨ad.block, ad.off + 2, none⟩ = some (.string y.f1.f1) ∧ w'.cell? ⟨ad.block, ad.off + 3, none⟩ = some (.string y.f2) ∧ w'.cell? ⟨ad.block, ad.off + 4, none⟩ = some (.int .i64 y.f3) ∧ w'.cell? ⟨ad.block, ad.off + 5, none⟩ = some (.slice A5 y.f4.length c5) ∧ w'.cell? ⟨ad.block, ad.off + 6, none⟩ = some (.int .i64 z.f0) ∧ w'.cell? ⟨ad.block, ad.off + 6 + 1, none⟩ = some (.string z.f1.f0) ∧ w'.cell? ⟨ad.block, ad.off + 6 + 2, none⟩ = some (.string z.f1.f1) ∧ w'.cell? ⟨ad.block, ad.off + 6 + 3, none⟩ = some (.string z.f2) ∧ w'.cell? ⟨ad.block, ad.off + 6 + 4, none⟩ = some (.int .i64 z.f3) ∧ w'.cell? ⟨ad.block, ad.off + 6 + 5, none⟩ = some (.slice A7 z.f4.length c7)) (first | exact K | exact HKL.out _ _ ((Below.refl _ _).alloc (Nat.le_refl _) _) K) (first
    | (go_at_call 99; refine (HL.out _ _ _ _ _ _).mono ?_; rintro e wq ⟨rfl, hq⟩; have K := HKL.out _ _ hq K; have V1 := V1.below hq; have V2 := V2.below hq; have BW := BW.trans (hq.mono BW.size))
    | (go_at_call 58; refine (HR.out _ _ _ V1 BW).mono ?_; rintro e wq ⟨rfl, hq⟩; clear HR; have K := HKL.out _ _ hq K; have V1 := V1.below hq; have V2 := V2.below hq; have BW := BW.trans (hq.mono BW.size))
    | (go_at_call 58; refine (HR2'.out _ _ _ V2 BW).mono ?_; rintro e wq ⟨rfl, hq⟩; have K := HKL.out _ _ hq K; have V1 := V1.below hq; have V2 := V2.below hq; have BW := BW.trans (hq.mono BW.size))
    | (go_at_call 98; refine (HJ.out _).mono ?_; rintro e w3 ⟨rfl, hq⟩; have K := HKL.out _ _ hq (HKL.out _ _ ((Below.refl _ _).alloc (Nat.le_refl _) _) K); have BW := (BW.alloc BW.size _).trans (hq.mono (by simp; have := BW.size; omega))))
  clear HC HK HR2' HJ HKL K V1 V2 hX hbw hbw2 hb1
  have hm := m152
  have HB := Lib.hid BW
  have hrs : (cat [⟨#[40]⟩, r, ⟨#[41]⟩]).size ≤ 1000002 := by
    have hsz := HSZ.out
    rw [cat_size]
    simp
    have e1 : (⟨#[40]⟩ : ByteArray).size = 1 := rfl
    have e2 : (⟨#[41]⟩ : ByteArray).size = 1 := rfl
    omega
  have HS := Lib.hid hrs
  clear hrs
  cases hl' : decide (1 < least)
  · have hl := Lib.hid (of_decide_eq_false hl')
    go_wp2_with (go_at_call 99; refine (HL.out _ _ _ _ _ _).mono ?_; rintro e w4 ⟨rfl, hb4⟩)
    go_ret
    exact ⟨by rw [HR2.out, wrapB_no (by have := hl.out; omega)]; rfl, HB.out.trans (hb4.mono HB.out.size)⟩
  · have hl := Lib.hid (of_decide_eq_true hl')
    go_wp2_with fail
    refine (HL.out _ _ _ _ _ _).mono ?_
    rintro e w4 ⟨rfl, hb4⟩
    go_wp2_with fail
    have hj := joined_calls w4.heap.size [⟨#[40]⟩, r, ⟨#[41]⟩] 9 _ (blk_new w4 _) (by simp) (Nat.le_trans HS.out (by omega))
    simp only [List.length_cons, List.length_nil] at hj
    refine hj.mono ?_
    rintro e w5 ⟨rfl, hb5⟩
    go_wp2
    go_ret
    have h4 := HB.out.trans (hb4.mono HB.out.size)
    exact ⟨by rw [HR2.out, wrapB_yes (by have := hl.out; omega)]; rfl, (h4.alloc h4.size (.cells #[.string ⟨#[40]⟩, .string r, .string ⟨#[41]⟩] 9)).trans (hb5.mono (by simp; have := h4.size; omega))⟩
set_option maxRecDepth 100000 in
set_option maxHeartbeats 4000000 in
theorem text_op4 (x y z : S31) (hop : x.f0 = 4) (hxs : x.f4 = [y, z]) (least : Int) (v : Value) (w : World) (hv : Vw w x v) (hsz : (openX x).size ≤ 1000000)
    (hrec : ∀ v w' ls, Vw w' y v → Below w.heap.size w w' → Calls Tryz.prog 58 #[v, .int .i64 ls] w' fun e w'' => e = .returned (.string (textX y ls)) ∧ Below w'.heap.size w' w'')
    (hrec2 : ∀ v w' ls, Vw w' z v → Below w.heap.size w w' → Calls Tryz.prog 58 #[v, .int .i64 ls] w' fun e w'' => e = .returned (.string (textX z ls)) ∧ Below w'.heap.size w' w'') :
    Calls Tryz.prog 58 #[v, .int .i64 least] w fun e w' => e = .returned (.string (textX x least)) ∧ Below w.heap.size w w' := by
  obtain ⟨A, c, rfl, hc1, hc2⟩ := hv.out
  obtain ⟨op, num, name, size, xs⟩ := x
  simp only at *
  subst hop hxs
  obtain ⟨r, hr⟩ : ∃ r, r = openX ⟨4, num, name, size, [y, z]⟩ := ⟨_, rfl⟩
  obtain ⟨R, hR⟩ : ∃ R, R = textX ⟨4, num, name, size, [y, z]⟩ least := ⟨_, rfl⟩
  have hR2 : R = wrapB r 1 least := by rw [hR, hr]; rfl
  rw [← hR]
  rw [← hr] at hsz
  have HR2 := Lib.hid hR2
  have hcat : r = cat [textX y 1, ⟨#[32]⟩, ⟨#[45]⟩, ⟨#[32]⟩, textX z 2] := hr
  have HCAT := Lib.hid hcat
  have HSZ := Lib.hid hsz
  clear hR hR2 hr hcat hsz
  have hk := kindOf_calls ⟨4, num, name, size, [y, z]⟩ A 2 c
  unfold exV at *
  simp only [List.length_cons, List.length_nil, Nat.zero_add, Nat.reduceAdd] at *
  have t0 := ta152_150
  have t1 := ta152_152
  have HK := Lib.hid hk
  have HC := Lib.hid hc2
  have HV := Lib.hid hv
  clear hk hc2 hv
  have HR := Lib.hid hrec
  have HR2' := Lib.hid hrec2
  clear hrec hrec2
  go_enter Tryz.func58, Tryz.ntmps58
  go_wp2_with fail
  refine (HK.out _).mono ?_
  rintro e w1 ⟨rfl, hb1⟩
  have hk2 : kindT (S31.mk 4 num name size [y, z]).f0 = 152 := rfl
  rw [hk2]
  have hbw := ((Below.refl _ w).alloc (Nat.le_refl _) (.cells #[.int .i64 4, .string num.f0, .string num.f1, .string name, .int .i64 size, .slice A 2 c] 31)).trans (hb1.mono (by simp))
  have hbw2 := hbw.alloc hbw.size (.cells #[.int .i64 4, .string num.f0, .string num.f1, .string name, .int .i64 size, .slice A 2 c] 152)
  obtain ⟨ad, A5, c5, rfl, q0, q1, q2, q3, q4, q5, hvw⟩ := arg_cells (xs := [y, z]) (Kd.C_below HC.out hbw2) 0 (by simp)
  simp only [List.getElem_cons_zero, Nat.zero_mul, Addr.add_zero'] at q0 q1 q2 q3 q4 q5 hvw
  have hbl := blk_new w1 (.cells #[.int .i64 4, .string num.f0, .string num.f1, .string name, .int .i64 size, .slice (some ad) 2 c] 152)
  obtain ⟨ad2, A7, c7, had, s0, s1, s2, s3, s4, s5, hvw2⟩ := arg_cells (xs := [y, z]) (Kd.C_below HC.out hbw2) 1 (by simp)
  obtain rfl : ad = ad2 := by injection had
  simp only [List.getElem_cons_succ, List.getElem_cons_zero, Nat.one_mul, Addr.add_succ'] at s0 s1 s2 s3 s4 s5 hvw2
  have hkl : ∀ a b : World, Below a.heap.size a b → (a.cell? ⟨w1.heap.size, 0, none⟩ = some (.int .i64 4) ∧ a.cell? ⟨w1.heap.size, 1, none⟩ = some (.string num.f0) ∧ a.cell? ⟨w1.heap.size, 2, none⟩ = some (.string num.f1) ∧ a.cell? ⟨w1.heap.size, 3, none⟩ = some (.string name) ∧ a.cell? ⟨w1.heap.size, 4, none⟩ = some (.int .i64 size) ∧ a.cell? ⟨w1.heap.size, 5, none⟩ = some (.slice (some ad) 2 c) ∧ a.cell? ad = some (.int .i64 y.f0) ∧ a.cell? ⟨ad.block, ad.off + 1, none⟩ = some (.string y.f1.f0) ∧ a.cell? ⟨ad.block, ad.off + 2, none⟩ = some (.string y.f1.f1) ∧ a.cell? ⟨ad.block, ad.off + 3, none⟩ = some (.string y.f2) ∧ a.cell? ⟨ad.block, ad.off + 4, none⟩ = some (.int .i64 y.f3) ∧ a.cell? ⟨ad.block, ad.off + 5, none⟩ = some (.slice A5 y.f4.length c5) ∧ a.cell? ⟨ad.block, ad.off + 6, none⟩ = some (.int .i64 z.f0) ∧ a.cell? ⟨ad.block, ad.off + 6 + 1, none⟩ = some (.string z.f1.f0) ∧ a.cell? ⟨ad.block, ad.off + 6 + 2, none⟩ = some (.string z.f1.f1) ∧ a.cell? ⟨ad.block, ad.off + 6 + 3, none⟩ = some (.string z.f2) ∧ a.cell? ⟨ad.block, ad.off + 6 + 4, none⟩ = some (.int .i64 z.f3) ∧ a.cell? ⟨ad.block, ad.off + 6 + 5, none⟩ = some (.slice A7 z.f4.length c7)) → (b.cell? ⟨w1.heap.size, 0, none⟩ = some (.int .i64 4) ∧ b.cell? ⟨w1.heap.size, 1, none⟩ = some (.string num.f0) ∧ b.cell? ⟨w1.heap.size, 2, none⟩ = some (.string num.f1) ∧ b.cell? ⟨w1.heap.size, 3, none⟩ = some (.string name) ∧ b.cell? ⟨w1.heap.size, 4, none⟩ = some (.int .i64 size) ∧ b.cell? ⟨w1.heap.size, 5, none⟩ = some (.slice (some ad) 2 c) ∧ b.cell? ad = some (.int .i64 y.f0) ∧ b.cell? ⟨ad.block, ad.off + 1, none⟩ = some (.string y.f1.f0) ∧ b.cell? ⟨ad.block, ad.off + 2, none⟩ = some (.string y.f1.f1) ∧ b.cell? ⟨ad.block, ad.off + 3, none⟩ = some (.string y.f2) ∧ b.cell? ⟨ad.block, ad.off + 4, none⟩ = some (.int .i64 y.f3) ∧ b.cell? ⟨ad.block, ad.off + 5, none⟩ = some (.slice A5 y.f4.length c5) ∧ b.cell? ⟨ad.block, ad.off + 6, none⟩ = some (.int .i64 z.f0) ∧ b.cell? ⟨ad.block, ad.off + 6 + 1, none⟩ = some (.string z.f1.f0) ∧ b.cell? ⟨ad.block, ad.off + 6 + 2, none⟩ = some (.string z.f1.f1) ∧ b.cell? ⟨ad.block, ad.off + 6 + 3, none⟩ = some (.string z.f2) ∧ b.cell? ⟨ad.block, ad.off + 6 + 4, none⟩ = some (.int .i64 z.f3) ∧ b.cell? ⟨ad.block, ad.off + 6 + 5, none⟩ = some (.slice A7 z.f4.length c7)) := fun a b hb ⟨h0, h1, h2, h3, h4, h5, h6, h7, h8, h9, h10, h11, h12, h13, h14, h15, h16, h17⟩ =>
    ⟨pw_cell_below hb h0, pw_cell_below hb h1, pw_cell_below hb h2, pw_cell_below hb h3, pw_cell_below hb h4, pw_cell_below hb h5, pw_cell_below hb h6, pw_cell_below hb h7, pw_cell_below hb h8, pw_cell_below hb h9, pw_cell_below hb h10, pw_cell_below hb h11, pw_cell_below hb h12, pw_cell_below hb h13, pw_cell_below hb h14, pw_cell_below hb h15, pw_cell_below hb h16, pw_cell_below hb h17⟩
  obtain ⟨⟨p0, p1, p2, p3, p4, p5⟩, _, xl⟩ := cells6 hbl
  have HL : Hid (∀ b c d e f w', Calls Tryz.prog 99 #[.agg #[.int .i64 4, b, c, d, e, f]] w' fun en w'' => en = .returned (.int .i64 1) ∧ Below w'.heap.size w' w'') := Lib.hid (fun b c d e f w' => lev152 4 (by simp) b c d e f w')
  have HJ : Hid (∀ W : World, Calls Tryz.prog 98 #[.slice (some ⟨W.heap.size, 0, none⟩) 5 5] (W.alloc (.cells #[.string (textX y 1), .string ⟨#[32]⟩, .string (Utf8.encode 45), .string ⟨#[32]⟩, .string (textX z 2)] 9)) fun en w'' => en = .returned (.string r) ∧ Below (W.alloc (.cells #[.string (textX y 1), .string ⟨#[32]⟩, .string (Utf8.encode 45), .string ⟨#[32]⟩, .string (textX z 2)] 9)).heap.size (W.alloc (.cells #[.string (textX y 1), .string ⟨#[32]⟩, .string (Utf8.encode 45), .string ⟨#[32]⟩, .string (textX z 2)] 9)) w'') := Lib.hid (fun W => by
    have hu : Utf8.encode 45 = ⟨#[45]⟩ := rfl
    rw [hu]
    have hj := joined_calls W.heap.size [textX y 1, ⟨#[32]⟩, ⟨#[45]⟩, ⟨#[32]⟩, textX z 2] 9 _ (blk_new W _) (by simp) (by rw [← HCAT.out]; have := HSZ.out; omega)
    rw [← HCAT.out] at hj
    simp only [List.length_cons, List.length_nil] at hj
    exact hj)
  go_wp2_with fail
  rw [show ∀ h, (⟨#[43, 45, 42, 47]⟩ : ByteArray)[1]'h = 45 from fun _ => rfl]
  generalize hX : w1.alloc (.cells #[.int .i64 4, .string num.f0, .string num.f1, .string name, .int .i64 size, .slice (some ad) 2 c] 152) = X at *
  have K := hkl X X.drew (Below.refl _ X).drew ⟨p0, p1, p2, p3, p4, p5, q0, q1, q2, q3, q4, q5, s0, s1, s2, s3, s4, s5⟩
  have V1 := hvw.below (Below.refl _ X).drew
  have V2 := hvw2.below (Below.refl _ X).drew
  have BW := hbw2.drew
  have HKL := Lib.hid hkl
  clear hkl p0 p1 p2 p3 p4 p5 q0 q1 q2 q3 q4 q5 s0 s1 s2 s3 s4 s5 hvw hvw2 hbl t0 t1
  go_region_held3 (fun w' : World => w'.cell? ⟨w1.heap.size, 0, none⟩ = some (.int .i64 4) ∧ w'.cell? ⟨w1.heap.size, 1, none⟩ = some (.string num.f0) ∧ w'.cell? ⟨w1.heap.size, 2, none⟩ = some (.string num.f1) ∧ w'.cell? ⟨w1.heap.size, 3, none⟩ = some (.string name) ∧ w'.cell? ⟨w1.heap.size, 4, none⟩ = some (.int .i64 size) ∧ w'.cell? ⟨w1.heap.size, 5, none⟩ = some (.slice (some ad) 2 c) ∧ w'.cell? ad = some (.int .i64 y.f0) ∧ w'.cell? ⟨ad.block, ad.off + 1, none⟩ = some (.string y.f1.f0) ∧ w'.cell? ⟨ad.block, ad.off + 2, none⟩ = some (.string y.f1.f1) ∧ w'.cell? ⟨ad.block, ad.off + 3, none⟩ = some (.string y.f2) ∧ w'.cell? ⟨ad.block, ad.off + 4, none⟩ = some (.int .i64 y.f3) ∧ w'.cell? ⟨ad.block, ad.off + 5, none⟩ = some (.slice A5 y.f4.length c5) ∧ w'.cell? ⟨ad.block, ad.off + 6, none⟩ = some (.int .i64 z.f0) ∧ w'.cell? ⟨ad.block, ad.off + 6 + 1, none⟩ = some (.string z.f1.f0) ∧ w'.cell? ⟨ad.block, ad.off + 6 + 2, none⟩ = some (.string z.f1.f1) ∧ w'.cell? ⟨ad.block, ad.off + 6 + 3, none⟩ = some (.string z.f2) ∧ w'.cell? ⟨ad.block, ad.off + 6 + 4, none⟩ = some (.int .i64 z.f3) ∧ w'.cell? ⟨ad.block, ad.off + 6 + 5, none⟩ = some (.slice A7 z.f4.length c7)) (first | exact K | exact HKL.out _ _ ((Below.refl _ _).alloc (Nat.le_refl _) _) K) (first
    | (go_at_call 99; refine (HL.out _ _ _ _ _ _).mono ?_; rintro e wq ⟨rfl, hq⟩; have K := HKL.out _ _ hq K; have V1 := V1.below hq; have V2 := V2.below hq; have BW := BW.trans (hq.mono BW.size))
    | (go_at_call 58; refine (HR.out _ _ _ V1 BW).mono ?_; rintro e wq ⟨rfl, hq⟩; clear HR; have K := HKL.out _ _ hq K; have V1 := V1.below hq; have V2 := V2.below hq; have BW := BW.trans (hq.mono BW.size))
    | (go_at_call 58; refine (HR2'.out _ _ _ V2 BW).mono ?_; rintro e wq ⟨rfl, hq⟩; have K := HKL.out _ _ hq K; have V1 := V1.below hq; have V2 := V2.below hq; have BW := BW.trans (hq.mono BW.size))
    | (go_at_call 98; refine (HJ.out _).mono ?_; rintro e w3 ⟨rfl, hq⟩; have K := HKL.out _ _ hq (HKL.out _ _ ((Below.refl _ _).alloc (Nat.le_refl _) _) K); have BW := (BW.alloc BW.size _).trans (hq.mono (by simp; have := BW.size; omega))))
  clear HC HK HR2' HJ HKL K V1 V2 hX hbw hbw2 hb1
  have hm := m152
  have HB := Lib.hid BW
  have hrs : (cat [⟨#[40]⟩, r, ⟨#[41]⟩]).size ≤ 1000002 := by
    have hsz := HSZ.out
    rw [cat_size]
    simp
    have e1 : (⟨#[40]⟩ : ByteArray).size = 1 := rfl
    have e2 : (⟨#[41]⟩ : ByteArray).size = 1 := rfl
    omega
  have HS := Lib.hid hrs
  clear hrs
  cases hl' : decide (1 < least)
  · have hl := Lib.hid (of_decide_eq_false hl')
    go_wp2_with (go_at_call 99; refine (HL.out _ _ _ _ _ _).mono ?_; rintro e w4 ⟨rfl, hb4⟩)
    go_ret
    exact ⟨by rw [HR2.out, wrapB_no (by have := hl.out; omega)]; rfl, HB.out.trans (hb4.mono HB.out.size)⟩
  · have hl := Lib.hid (of_decide_eq_true hl')
    go_wp2_with fail
    refine (HL.out _ _ _ _ _ _).mono ?_
    rintro e w4 ⟨rfl, hb4⟩
    go_wp2_with fail
    have hj := joined_calls w4.heap.size [⟨#[40]⟩, r, ⟨#[41]⟩] 9 _ (blk_new w4 _) (by simp) (Nat.le_trans HS.out (by omega))
    simp only [List.length_cons, List.length_nil] at hj
    refine hj.mono ?_
    rintro e w5 ⟨rfl, hb5⟩
    go_wp2
    go_ret
    have h4 := HB.out.trans (hb4.mono HB.out.size)
    exact ⟨by rw [HR2.out, wrapB_yes (by have := hl.out; omega)]; rfl, (h4.alloc h4.size (.cells #[.string ⟨#[40]⟩, .string r, .string ⟨#[41]⟩] 9)).trans (hb5.mono (by simp; have := h4.size; omega))⟩
set_option maxRecDepth 100000 in
set_option maxHeartbeats 4000000 in
theorem text_op5 (x y z : S31) (hop : x.f0 = 5) (hxs : x.f4 = [y, z]) (least : Int) (v : Value) (w : World) (hv : Vw w x v) (hsz : (openX x).size ≤ 1000000)
    (hrec : ∀ v w' ls, Vw w' y v → Below w.heap.size w w' → Calls Tryz.prog 58 #[v, .int .i64 ls] w' fun e w'' => e = .returned (.string (textX y ls)) ∧ Below w'.heap.size w' w'')
    (hrec2 : ∀ v w' ls, Vw w' z v → Below w.heap.size w w' → Calls Tryz.prog 58 #[v, .int .i64 ls] w' fun e w'' => e = .returned (.string (textX z ls)) ∧ Below w'.heap.size w' w'') :
    Calls Tryz.prog 58 #[v, .int .i64 least] w fun e w' => e = .returned (.string (textX x least)) ∧ Below w.heap.size w w' := by
  obtain ⟨A, c, rfl, hc1, hc2⟩ := hv.out
  obtain ⟨op, num, name, size, xs⟩ := x
  simp only at *
  subst hop hxs
  obtain ⟨r, hr⟩ : ∃ r, r = openX ⟨5, num, name, size, [y, z]⟩ := ⟨_, rfl⟩
  obtain ⟨R, hR⟩ : ∃ R, R = textX ⟨5, num, name, size, [y, z]⟩ least := ⟨_, rfl⟩
  have hR2 : R = wrapB r 2 least := by rw [hR, hr]; rfl
  rw [← hR]
  rw [← hr] at hsz
  have HR2 := Lib.hid hR2
  have hcat : r = cat [textX y 2, ⟨#[32]⟩, ⟨#[42]⟩, ⟨#[32]⟩, textX z 3] := hr
  have HCAT := Lib.hid hcat
  have HSZ := Lib.hid hsz
  clear hR hR2 hr hcat hsz
  have hk := kindOf_calls ⟨5, num, name, size, [y, z]⟩ A 2 c
  unfold exV at *
  simp only [List.length_cons, List.length_nil, Nat.zero_add, Nat.reduceAdd] at *
  have t0 := ta152_150
  have t1 := ta152_152
  have HK := Lib.hid hk
  have HC := Lib.hid hc2
  have HV := Lib.hid hv
  clear hk hc2 hv
  have HR := Lib.hid hrec
  have HR2' := Lib.hid hrec2
  clear hrec hrec2
  go_enter Tryz.func58, Tryz.ntmps58
  go_wp2_with fail
  refine (HK.out _).mono ?_
  rintro e w1 ⟨rfl, hb1⟩
  have hk2 : kindT (S31.mk 5 num name size [y, z]).f0 = 152 := rfl
  rw [hk2]
  have hbw := ((Below.refl _ w).alloc (Nat.le_refl _) (.cells #[.int .i64 5, .string num.f0, .string num.f1, .string name, .int .i64 size, .slice A 2 c] 31)).trans (hb1.mono (by simp))
  have hbw2 := hbw.alloc hbw.size (.cells #[.int .i64 5, .string num.f0, .string num.f1, .string name, .int .i64 size, .slice A 2 c] 152)
  obtain ⟨ad, A5, c5, rfl, q0, q1, q2, q3, q4, q5, hvw⟩ := arg_cells (xs := [y, z]) (Kd.C_below HC.out hbw2) 0 (by simp)
  simp only [List.getElem_cons_zero, Nat.zero_mul, Addr.add_zero'] at q0 q1 q2 q3 q4 q5 hvw
  have hbl := blk_new w1 (.cells #[.int .i64 5, .string num.f0, .string num.f1, .string name, .int .i64 size, .slice (some ad) 2 c] 152)
  obtain ⟨ad2, A7, c7, had, s0, s1, s2, s3, s4, s5, hvw2⟩ := arg_cells (xs := [y, z]) (Kd.C_below HC.out hbw2) 1 (by simp)
  obtain rfl : ad = ad2 := by injection had
  simp only [List.getElem_cons_succ, List.getElem_cons_zero, Nat.one_mul, Addr.add_succ'] at s0 s1 s2 s3 s4 s5 hvw2
  have hkl : ∀ a b : World, Below a.heap.size a b → (a.cell? ⟨w1.heap.size, 0, none⟩ = some (.int .i64 5) ∧ a.cell? ⟨w1.heap.size, 1, none⟩ = some (.string num.f0) ∧ a.cell? ⟨w1.heap.size, 2, none⟩ = some (.string num.f1) ∧ a.cell? ⟨w1.heap.size, 3, none⟩ = some (.string name) ∧ a.cell? ⟨w1.heap.size, 4, none⟩ = some (.int .i64 size) ∧ a.cell? ⟨w1.heap.size, 5, none⟩ = some (.slice (some ad) 2 c) ∧ a.cell? ad = some (.int .i64 y.f0) ∧ a.cell? ⟨ad.block, ad.off + 1, none⟩ = some (.string y.f1.f0) ∧ a.cell? ⟨ad.block, ad.off + 2, none⟩ = some (.string y.f1.f1) ∧ a.cell? ⟨ad.block, ad.off + 3, none⟩ = some (.string y.f2) ∧ a.cell? ⟨ad.block, ad.off + 4, none⟩ = some (.int .i64 y.f3) ∧ a.cell? ⟨ad.block, ad.off + 5, none⟩ = some (.slice A5 y.f4.length c5) ∧ a.cell? ⟨ad.block, ad.off + 6, none⟩ = some (.int .i64 z.f0) ∧ a.cell? ⟨ad.block, ad.off + 6 + 1, none⟩ = some (.string z.f1.f0) ∧ a.cell? ⟨ad.block, ad.off + 6 + 2, none⟩ = some (.string z.f1.f1) ∧ a.cell? ⟨ad.block, ad.off + 6 + 3, none⟩ = some (.string z.f2) ∧ a.cell? ⟨ad.block, ad.off + 6 + 4, none⟩ = some (.int .i64 z.f3) ∧ a.cell? ⟨ad.block, ad.off + 6 + 5, none⟩ = some (.slice A7 z.f4.length c7)) → (b.cell? ⟨w1.heap.size, 0, none⟩ = some (.int .i64 5) ∧ b.cell? ⟨w1.heap.size, 1, none⟩ = some (.string num.f0) ∧ b.cell? ⟨w1.heap.size, 2, none⟩ = some (.string num.f1) ∧ b.cell? ⟨w1.heap.size, 3, none⟩ = some (.string name) ∧ b.cell? ⟨w1.heap.size, 4, none⟩ = some (.int .i64 size) ∧ b.cell? ⟨w1.heap.size, 5, none⟩ = some (.slice (some ad) 2 c) ∧ b.cell? ad = some (.int .i64 y.f0) ∧ b.cell? ⟨ad.block, ad.off + 1, none⟩ = some (.string y.f1.f0) ∧ b.cell? ⟨ad.block, ad.off + 2, none⟩ = some (.string y.f1.f1) ∧ b.cell? ⟨ad.block, ad.off + 3, none⟩ = some (.string y.f2) ∧ b.cell? ⟨ad.block, ad.off + 4, none⟩ = some (.int .i64 y.f3) ∧ b.cell? ⟨ad.block, ad.off + 5, none⟩ = some (.slice A5 y.f4.length c5) ∧ b.cell? ⟨ad.block, ad.off + 6, none⟩ = some (.int .i64 z.f0) ∧ b.cell? ⟨ad.block, ad.off + 6 + 1, none⟩ = some (.string z.f1.f0) ∧ b.cell? ⟨ad.block, ad.off + 6 + 2, none⟩ = some (.string z.f1.f1) ∧ b.cell? ⟨ad.block, ad.off + 6 + 3, none⟩ = some (.string z.f2) ∧ b.cell? ⟨ad.block, ad.off + 6 + 4, none⟩ = some (.int .i64 z.f3) ∧ b.cell? ⟨ad.block, ad.off + 6 + 5, none⟩ = some (.slice A7 z.f4.length c7)) := fun a b hb ⟨h0, h1, h2, h3, h4, h5, h6, h7, h8, h9, h10, h11, h12, h13, h14, h15, h16, h17⟩ =>
    ⟨pw_cell_below hb h0, pw_cell_below hb h1, pw_cell_below hb h2, pw_cell_below hb h3, pw_cell_below hb h4, pw_cell_below hb h5, pw_cell_below hb h6, pw_cell_below hb h7, pw_cell_below hb h8, pw_cell_below hb h9, pw_cell_below hb h10, pw_cell_below hb h11, pw_cell_below hb h12, pw_cell_below hb h13, pw_cell_below hb h14, pw_cell_below hb h15, pw_cell_below hb h16, pw_cell_below hb h17⟩
  obtain ⟨⟨p0, p1, p2, p3, p4, p5⟩, _, xl⟩ := cells6 hbl
  have HL : Hid (∀ b c d e f w', Calls Tryz.prog 99 #[.agg #[.int .i64 5, b, c, d, e, f]] w' fun en w'' => en = .returned (.int .i64 2) ∧ Below w'.heap.size w' w'') := Lib.hid (fun b c d e f w' => lev152 5 (by simp) b c d e f w')
  have HJ : Hid (∀ W : World, Calls Tryz.prog 98 #[.slice (some ⟨W.heap.size, 0, none⟩) 5 5] (W.alloc (.cells #[.string (textX y 2), .string ⟨#[32]⟩, .string (Utf8.encode 42), .string ⟨#[32]⟩, .string (textX z 3)] 9)) fun en w'' => en = .returned (.string r) ∧ Below (W.alloc (.cells #[.string (textX y 2), .string ⟨#[32]⟩, .string (Utf8.encode 42), .string ⟨#[32]⟩, .string (textX z 3)] 9)).heap.size (W.alloc (.cells #[.string (textX y 2), .string ⟨#[32]⟩, .string (Utf8.encode 42), .string ⟨#[32]⟩, .string (textX z 3)] 9)) w'') := Lib.hid (fun W => by
    have hu : Utf8.encode 42 = ⟨#[42]⟩ := rfl
    rw [hu]
    have hj := joined_calls W.heap.size [textX y 2, ⟨#[32]⟩, ⟨#[42]⟩, ⟨#[32]⟩, textX z 3] 9 _ (blk_new W _) (by simp) (by rw [← HCAT.out]; have := HSZ.out; omega)
    rw [← HCAT.out] at hj
    simp only [List.length_cons, List.length_nil] at hj
    exact hj)
  go_wp2_with fail
  rw [show ∀ h, (⟨#[43, 45, 42, 47]⟩ : ByteArray)[2]'h = 42 from fun _ => rfl]
  generalize hX : w1.alloc (.cells #[.int .i64 5, .string num.f0, .string num.f1, .string name, .int .i64 size, .slice (some ad) 2 c] 152) = X at *
  have K := hkl X X.drew (Below.refl _ X).drew ⟨p0, p1, p2, p3, p4, p5, q0, q1, q2, q3, q4, q5, s0, s1, s2, s3, s4, s5⟩
  have V1 := hvw.below (Below.refl _ X).drew
  have V2 := hvw2.below (Below.refl _ X).drew
  have BW := hbw2.drew
  have HKL := Lib.hid hkl
  clear hkl p0 p1 p2 p3 p4 p5 q0 q1 q2 q3 q4 q5 s0 s1 s2 s3 s4 s5 hvw hvw2 hbl t0 t1
  go_region_held3 (fun w' : World => w'.cell? ⟨w1.heap.size, 0, none⟩ = some (.int .i64 5) ∧ w'.cell? ⟨w1.heap.size, 1, none⟩ = some (.string num.f0) ∧ w'.cell? ⟨w1.heap.size, 2, none⟩ = some (.string num.f1) ∧ w'.cell? ⟨w1.heap.size, 3, none⟩ = some (.string name) ∧ w'.cell? ⟨w1.heap.size, 4, none⟩ = some (.int .i64 size) ∧ w'.cell? ⟨w1.heap.size, 5, none⟩ = some (.slice (some ad) 2 c) ∧ w'.cell? ad = some (.int .i64 y.f0) ∧ w'.cell? ⟨ad.block, ad.off + 1, none⟩ = some (.string y.f1.f0) ∧ w'.cell? ⟨ad.block, ad.off + 2, none⟩ = some (.string y.f1.f1) ∧ w'.cell? ⟨ad.block, ad.off + 3, none⟩ = some (.string y.f2) ∧ w'.cell? ⟨ad.block, ad.off + 4, none⟩ = some (.int .i64 y.f3) ∧ w'.cell? ⟨ad.block, ad.off + 5, none⟩ = some (.slice A5 y.f4.length c5) ∧ w'.cell? ⟨ad.block, ad.off + 6, none⟩ = some (.int .i64 z.f0) ∧ w'.cell? ⟨ad.block, ad.off + 6 + 1, none⟩ = some (.string z.f1.f0) ∧ w'.cell? ⟨ad.block, ad.off + 6 + 2, none⟩ = some (.string z.f1.f1) ∧ w'.cell? ⟨ad.block, ad.off + 6 + 3, none⟩ = some (.string z.f2) ∧ w'.cell? ⟨ad.block, ad.off + 6 + 4, none⟩ = some (.int .i64 z.f3) ∧ w'.cell? ⟨ad.block, ad.off + 6 + 5, none⟩ = some (.slice A7 z.f4.length c7)) (first | exact K | exact HKL.out _ _ ((Below.refl _ _).alloc (Nat.le_refl _) _) K) (first
    | (go_at_call 99; refine (HL.out _ _ _ _ _ _).mono ?_; rintro e wq ⟨rfl, hq⟩; have K := HKL.out _ _ hq K; have V1 := V1.below hq; have V2 := V2.below hq; have BW := BW.trans (hq.mono BW.size))
    | (go_at_call 58; refine (HR.out _ _ _ V1 BW).mono ?_; rintro e wq ⟨rfl, hq⟩; clear HR; have K := HKL.out _ _ hq K; have V1 := V1.below hq; have V2 := V2.below hq; have BW := BW.trans (hq.mono BW.size))
    | (go_at_call 58; refine (HR2'.out _ _ _ V2 BW).mono ?_; rintro e wq ⟨rfl, hq⟩; have K := HKL.out _ _ hq K; have V1 := V1.below hq; have V2 := V2.below hq; have BW := BW.trans (hq.mono BW.size))
    | (go_at_call 98; refine (HJ.out _).mono ?_; rintro e w3 ⟨rfl, hq⟩; have K := HKL.out _ _ hq (HKL.out _ _ ((Below.refl _ _).alloc (Nat.le_refl _) _) K); have BW := (BW.alloc BW.size _).trans (hq.mono (by simp; have := BW.size; omega))))
  clear HC HK HR2' HJ HKL K V1 V2 hX hbw hbw2 hb1
  have hm := m152
  have HB := Lib.hid BW
  have hrs : (cat [⟨#[40]⟩, r, ⟨#[41]⟩]).size ≤ 1000002 := by
    have hsz := HSZ.out
    rw [cat_size]
    simp
    have e1 : (⟨#[40]⟩ : ByteArray).size = 1 := rfl
    have e2 : (⟨#[41]⟩ : ByteArray).size = 1 := rfl
    omega
  have HS := Lib.hid hrs
  clear hrs
  cases hl' : decide (2 < least)
  · have hl := Lib.hid (of_decide_eq_false hl')
    go_wp2_with (go_at_call 99; refine (HL.out _ _ _ _ _ _).mono ?_; rintro e w4 ⟨rfl, hb4⟩)
    go_ret
    exact ⟨by rw [HR2.out, wrapB_no (by have := hl.out; omega)]; rfl, HB.out.trans (hb4.mono HB.out.size)⟩
  · have hl := Lib.hid (of_decide_eq_true hl')
    go_wp2_with fail
    refine (HL.out _ _ _ _ _ _).mono ?_
    rintro e w4 ⟨rfl, hb4⟩
    go_wp2_with fail
    have hj := joined_calls w4.heap.size [⟨#[40]⟩, r, ⟨#[41]⟩] 9 _ (blk_new w4 _) (by simp) (Nat.le_trans HS.out (by omega))
    simp only [List.length_cons, List.length_nil] at hj
    refine hj.mono ?_
    rintro e w5 ⟨rfl, hb5⟩
    go_wp2
    go_ret
    have h4 := HB.out.trans (hb4.mono HB.out.size)
    exact ⟨by rw [HR2.out, wrapB_yes (by have := hl.out; omega)]; rfl, (h4.alloc h4.size (.cells #[.string ⟨#[40]⟩, .string r, .string ⟨#[41]⟩] 9)).trans (hb5.mono (by simp; have := h4.size; omega))⟩
set_option maxRecDepth 100000 in
set_option maxHeartbeats 4000000 in
theorem text_op6 (x y z : S31) (hop : x.f0 = 6) (hxs : x.f4 = [y, z]) (least : Int) (v : Value) (w : World) (hv : Vw w x v) (hsz : (openX x).size ≤ 1000000)
    (hrec : ∀ v w' ls, Vw w' y v → Below w.heap.size w w' → Calls Tryz.prog 58 #[v, .int .i64 ls] w' fun e w'' => e = .returned (.string (textX y ls)) ∧ Below w'.heap.size w' w'')
    (hrec2 : ∀ v w' ls, Vw w' z v → Below w.heap.size w w' → Calls Tryz.prog 58 #[v, .int .i64 ls] w' fun e w'' => e = .returned (.string (textX z ls)) ∧ Below w'.heap.size w' w'') :
    Calls Tryz.prog 58 #[v, .int .i64 least] w fun e w' => e = .returned (.string (textX x least)) ∧ Below w.heap.size w w' := by
  obtain ⟨A, c, rfl, hc1, hc2⟩ := hv.out
  obtain ⟨op, num, name, size, xs⟩ := x
  simp only at *
  subst hop hxs
  obtain ⟨r, hr⟩ : ∃ r, r = openX ⟨6, num, name, size, [y, z]⟩ := ⟨_, rfl⟩
  obtain ⟨R, hR⟩ : ∃ R, R = textX ⟨6, num, name, size, [y, z]⟩ least := ⟨_, rfl⟩
  have hR2 : R = wrapB r 2 least := by rw [hR, hr]; rfl
  rw [← hR]
  rw [← hr] at hsz
  have HR2 := Lib.hid hR2
  have hcat : r = cat [textX y 2, ⟨#[32]⟩, ⟨#[47]⟩, ⟨#[32]⟩, textX z 3] := hr
  have HCAT := Lib.hid hcat
  have HSZ := Lib.hid hsz
  clear hR hR2 hr hcat hsz
  have hk := kindOf_calls ⟨6, num, name, size, [y, z]⟩ A 2 c
  unfold exV at *
  simp only [List.length_cons, List.length_nil, Nat.zero_add, Nat.reduceAdd] at *
  have t0 := ta152_150
  have t1 := ta152_152
  have HK := Lib.hid hk
  have HC := Lib.hid hc2
  have HV := Lib.hid hv
  clear hk hc2 hv
  have HR := Lib.hid hrec
  have HR2' := Lib.hid hrec2
  clear hrec hrec2
  go_enter Tryz.func58, Tryz.ntmps58
  go_wp2_with fail
  refine (HK.out _).mono ?_
  rintro e w1 ⟨rfl, hb1⟩
  have hk2 : kindT (S31.mk 6 num name size [y, z]).f0 = 152 := rfl
  rw [hk2]
  have hbw := ((Below.refl _ w).alloc (Nat.le_refl _) (.cells #[.int .i64 6, .string num.f0, .string num.f1, .string name, .int .i64 size, .slice A 2 c] 31)).trans (hb1.mono (by simp))
  have hbw2 := hbw.alloc hbw.size (.cells #[.int .i64 6, .string num.f0, .string num.f1, .string name, .int .i64 size, .slice A 2 c] 152)
  obtain ⟨ad, A5, c5, rfl, q0, q1, q2, q3, q4, q5, hvw⟩ := arg_cells (xs := [y, z]) (Kd.C_below HC.out hbw2) 0 (by simp)
  simp only [List.getElem_cons_zero, Nat.zero_mul, Addr.add_zero'] at q0 q1 q2 q3 q4 q5 hvw
  have hbl := blk_new w1 (.cells #[.int .i64 6, .string num.f0, .string num.f1, .string name, .int .i64 size, .slice (some ad) 2 c] 152)
  obtain ⟨ad2, A7, c7, had, s0, s1, s2, s3, s4, s5, hvw2⟩ := arg_cells (xs := [y, z]) (Kd.C_below HC.out hbw2) 1 (by simp)
  obtain rfl : ad = ad2 := by injection had
  simp only [List.getElem_cons_succ, List.getElem_cons_zero, Nat.one_mul, Addr.add_succ'] at s0 s1 s2 s3 s4 s5 hvw2
  have hkl : ∀ a b : World, Below a.heap.size a b → (a.cell? ⟨w1.heap.size, 0, none⟩ = some (.int .i64 6) ∧ a.cell? ⟨w1.heap.size, 1, none⟩ = some (.string num.f0) ∧ a.cell? ⟨w1.heap.size, 2, none⟩ = some (.string num.f1) ∧ a.cell? ⟨w1.heap.size, 3, none⟩ = some (.string name) ∧ a.cell? ⟨w1.heap.size, 4, none⟩ = some (.int .i64 size) ∧ a.cell? ⟨w1.heap.size, 5, none⟩ = some (.slice (some ad) 2 c) ∧ a.cell? ad = some (.int .i64 y.f0) ∧ a.cell? ⟨ad.block, ad.off + 1, none⟩ = some (.string y.f1.f0) ∧ a.cell? ⟨ad.block, ad.off + 2, none⟩ = some (.string y.f1.f1) ∧ a.cell? ⟨ad.block, ad.off + 3, none⟩ = some (.string y.f2) ∧ a.cell? ⟨ad.block, ad.off + 4, none⟩ = some (.int .i64 y.f3) ∧ a.cell? ⟨ad.block, ad.off + 5, none⟩ = some (.slice A5 y.f4.length c5) ∧ a.cell? ⟨ad.block, ad.off + 6, none⟩ = some (.int .i64 z.f0) ∧ a.cell? ⟨ad.block, ad.off + 6 + 1, none⟩ = some (.string z.f1.f0) ∧ a.cell? ⟨ad.block, ad.off + 6 + 2, none⟩ = some (.string z.f1.f1) ∧ a.cell? ⟨ad.block, ad.off + 6 + 3, none⟩ = some (.string z.f2) ∧ a.cell? ⟨ad.block, ad.off + 6 + 4, none⟩ = some (.int .i64 z.f3) ∧ a.cell? ⟨ad.block, ad.off + 6 + 5, none⟩ = some (.slice A7 z.f4.length c7)) → (b.cell? ⟨w1.heap.size, 0, none⟩ = some (.int .i64 6) ∧ b.cell? ⟨w1.heap.size, 1, none⟩ = some (.string num.f0) ∧ b.cell? ⟨w1.heap.size, 2, none⟩ = some (.string num.f1) ∧ b.cell? ⟨w1.heap.size, 3, none⟩ = some (.string name) ∧ b.cell? ⟨w1.heap.size, 4, none⟩ = some (.int .i64 size) ∧ b.cell? ⟨w1.heap.size, 5, none⟩ = some (.slice (some ad) 2 c) ∧ b.cell? ad = some (.int .i64 y.f0) ∧ b.cell? ⟨ad.block, ad.off + 1, none⟩ = some (.string y.f1.f0) ∧ b.cell? ⟨ad.block, ad.off + 2, none⟩ = some (.string y.f1.f1) ∧ b.cell? ⟨ad.block, ad.off + 3, none⟩ = some (.string y.f2) ∧ b.cell? ⟨ad.block, ad.off + 4, none⟩ = some (.int .i64 y.f3) ∧ b.cell? ⟨ad.block, ad.off + 5, none⟩ = some (.slice A5 y.f4.length c5) ∧ b.cell? ⟨ad.block, ad.off + 6, none⟩ = some (.int .i64 z.f0) ∧ b.cell? ⟨ad.block, ad.off + 6 + 1, none⟩ = some (.string z.f1.f0) ∧ b.cell? ⟨ad.block, ad.off + 6 + 2, none⟩ = some (.string z.f1.f1) ∧ b.cell? ⟨ad.block, ad.off + 6 + 3, none⟩ = some (.string z.f2) ∧ b.cell? ⟨ad.block, ad.off + 6 + 4, none⟩ = some (.int .i64 z.f3) ∧ b.cell? ⟨ad.block, ad.off + 6 + 5, none⟩ = some (.slice A7 z.f4.length c7)) := fun a b hb ⟨h0, h1, h2, h3, h4, h5, h6, h7, h8, h9, h10, h11, h12, h13, h14, h15, h16, h17⟩ =>
    ⟨pw_cell_below hb h0, pw_cell_below hb h1, pw_cell_below hb h2, pw_cell_below hb h3, pw_cell_below hb h4, pw_cell_below hb h5, pw_cell_below hb h6, pw_cell_below hb h7, pw_cell_below hb h8, pw_cell_below hb h9, pw_cell_below hb h10, pw_cell_below hb h11, pw_cell_below hb h12, pw_cell_below hb h13, pw_cell_below hb h14, pw_cell_below hb h15, pw_cell_below hb h16, pw_cell_below hb h17⟩
  obtain ⟨⟨p0, p1, p2, p3, p4, p5⟩, _, xl⟩ := cells6 hbl
  have HL : Hid (∀ b c d e f w', Calls Tryz.prog 99 #[.agg #[.int .i64 6, b, c, d, e, f]] w' fun en w'' => en = .returned (.int .i64 2) ∧ Below w'.heap.size w' w'') := Lib.hid (fun b c d e f w' => lev152 6 (by simp) b c d e f w')
  have HJ : Hid (∀ W : World, Calls Tryz.prog 98 #[.slice (some ⟨W.heap.size, 0, none⟩) 5 5] (W.alloc (.cells #[.string (textX y 2), .string ⟨#[32]⟩, .string (Utf8.encode 47), .string ⟨#[32]⟩, .string (textX z 3)] 9)) fun en w'' => en = .returned (.string r) ∧ Below (W.alloc (.cells #[.string (textX y 2), .string ⟨#[32]⟩, .string (Utf8.encode 47), .string ⟨#[32]⟩, .string (textX z 3)] 9)).heap.size (W.alloc (.cells #[.string (textX y 2), .string ⟨#[32]⟩, .string (Utf8.encode 47), .string ⟨#[32]⟩, .string (textX z 3)] 9)) w'') := Lib.hid (fun W => by
    have hu : Utf8.encode 47 = ⟨#[47]⟩ := rfl
    rw [hu]
    have hj := joined_calls W.heap.size [textX y 2, ⟨#[32]⟩, ⟨#[47]⟩, ⟨#[32]⟩, textX z 3] 9 _ (blk_new W _) (by simp) (by rw [← HCAT.out]; have := HSZ.out; omega)
    rw [← HCAT.out] at hj
    simp only [List.length_cons, List.length_nil] at hj
    exact hj)
  go_wp2_with fail
  rw [show ∀ h, (⟨#[43, 45, 42, 47]⟩ : ByteArray)[3]'h = 47 from fun _ => rfl]
  generalize hX : w1.alloc (.cells #[.int .i64 6, .string num.f0, .string num.f1, .string name, .int .i64 size, .slice (some ad) 2 c] 152) = X at *
  have K := hkl X X.drew (Below.refl _ X).drew ⟨p0, p1, p2, p3, p4, p5, q0, q1, q2, q3, q4, q5, s0, s1, s2, s3, s4, s5⟩
  have V1 := hvw.below (Below.refl _ X).drew
  have V2 := hvw2.below (Below.refl _ X).drew
  have BW := hbw2.drew
  have HKL := Lib.hid hkl
  clear hkl p0 p1 p2 p3 p4 p5 q0 q1 q2 q3 q4 q5 s0 s1 s2 s3 s4 s5 hvw hvw2 hbl t0 t1
  go_region_held3 (fun w' : World => w'.cell? ⟨w1.heap.size, 0, none⟩ = some (.int .i64 6) ∧ w'.cell? ⟨w1.heap.size, 1, none⟩ = some (.string num.f0) ∧ w'.cell? ⟨w1.heap.size, 2, none⟩ = some (.string num.f1) ∧ w'.cell? ⟨w1.heap.size, 3, none⟩ = some (.string name) ∧ w'.cell? ⟨w1.heap.size, 4, none⟩ = some (.int .i64 size) ∧ w'.cell? ⟨w1.heap.size, 5, none⟩ = some (.slice (some ad) 2 c) ∧ w'.cell? ad = some (.int .i64 y.f0) ∧ w'.cell? ⟨ad.block, ad.off + 1, none⟩ = some (.string y.f1.f0) ∧ w'.cell? ⟨ad.block, ad.off + 2, none⟩ = some (.string y.f1.f1) ∧ w'.cell? ⟨ad.block, ad.off + 3, none⟩ = some (.string y.f2) ∧ w'.cell? ⟨ad.block, ad.off + 4, none⟩ = some (.int .i64 y.f3) ∧ w'.cell? ⟨ad.block, ad.off + 5, none⟩ = some (.slice A5 y.f4.length c5) ∧ w'.cell? ⟨ad.block, ad.off + 6, none⟩ = some (.int .i64 z.f0) ∧ w'.cell? ⟨ad.block, ad.off + 6 + 1, none⟩ = some (.string z.f1.f0) ∧ w'.cell? ⟨ad.block, ad.off + 6 + 2, none⟩ = some (.string z.f1.f1) ∧ w'.cell? ⟨ad.block, ad.off + 6 + 3, none⟩ = some (.string z.f2) ∧ w'.cell? ⟨ad.block, ad.off + 6 + 4, none⟩ = some (.int .i64 z.f3) ∧ w'.cell? ⟨ad.block, ad.off + 6 + 5, none⟩ = some (.slice A7 z.f4.length c7)) (first | exact K | exact HKL.out _ _ ((Below.refl _ _).alloc (Nat.le_refl _) _) K) (first
    | (go_at_call 99; refine (HL.out _ _ _ _ _ _).mono ?_; rintro e wq ⟨rfl, hq⟩; have K := HKL.out _ _ hq K; have V1 := V1.below hq; have V2 := V2.below hq; have BW := BW.trans (hq.mono BW.size))
    | (go_at_call 58; refine (HR.out _ _ _ V1 BW).mono ?_; rintro e wq ⟨rfl, hq⟩; clear HR; have K := HKL.out _ _ hq K; have V1 := V1.below hq; have V2 := V2.below hq; have BW := BW.trans (hq.mono BW.size))
    | (go_at_call 58; refine (HR2'.out _ _ _ V2 BW).mono ?_; rintro e wq ⟨rfl, hq⟩; have K := HKL.out _ _ hq K; have V1 := V1.below hq; have V2 := V2.below hq; have BW := BW.trans (hq.mono BW.size))
    | (go_at_call 98; refine (HJ.out _).mono ?_; rintro e w3 ⟨rfl, hq⟩; have K := HKL.out _ _ hq (HKL.out _ _ ((Below.refl _ _).alloc (Nat.le_refl _) _) K); have BW := (BW.alloc BW.size _).trans (hq.mono (by simp; have := BW.size; omega))))
  clear HC HK HR2' HJ HKL K V1 V2 hX hbw hbw2 hb1
  have hm := m152
  have HB := Lib.hid BW
  have hrs : (cat [⟨#[40]⟩, r, ⟨#[41]⟩]).size ≤ 1000002 := by
    have hsz := HSZ.out
    rw [cat_size]
    simp
    have e1 : (⟨#[40]⟩ : ByteArray).size = 1 := rfl
    have e2 : (⟨#[41]⟩ : ByteArray).size = 1 := rfl
    omega
  have HS := Lib.hid hrs
  clear hrs
  cases hl' : decide (2 < least)
  · have hl := Lib.hid (of_decide_eq_false hl')
    go_wp2_with (go_at_call 99; refine (HL.out _ _ _ _ _ _).mono ?_; rintro e w4 ⟨rfl, hb4⟩)
    go_ret
    exact ⟨by rw [HR2.out, wrapB_no (by have := hl.out; omega)]; rfl, HB.out.trans (hb4.mono HB.out.size)⟩
  · have hl := Lib.hid (of_decide_eq_true hl')
    go_wp2_with fail
    refine (HL.out _ _ _ _ _ _).mono ?_
    rintro e w4 ⟨rfl, hb4⟩
    go_wp2_with fail
    have hj := joined_calls w4.heap.size [⟨#[40]⟩, r, ⟨#[41]⟩] 9 _ (blk_new w4 _) (by simp) (Nat.le_trans HS.out (by omega))
    simp only [List.length_cons, List.length_nil] at hj
    refine hj.mono ?_
    rintro e w5 ⟨rfl, hb5⟩
    go_wp2
    go_ret
    have h4 := HB.out.trans (hb4.mono HB.out.size)
    exact ⟨by rw [HR2.out, wrapB_yes (by have := hl.out; omega)]; rfl, (h4.alloc h4.size (.cells #[.string ⟨#[40]⟩, .string r, .string ⟨#[41]⟩] 9)).trans (hb5.mono (by simp; have := h4.size; omega))⟩
end Go.Proofs.YtjaobihcdkjmbaaGreatDoor
end
section
namespace Go.Proofs.YtjaobihcdkjmbaaGreatDoor
open Go.RowKit Go.Proofs.YtjaobihcdkjmbaaGreatDoorW.PrintWords Go.Proofs.YtjaobihcdkjmbaaGreatDoor.PReadTokens
def txt1 (x : S31) : Bool :=
  decide ((openX x).size ≤ 1000000) && ((decide (x.f0 = 1) && decide (x.f4.length = 0)) || (decide (x.f0 = 2) && decide (x.f4.length = 1)) || ((decide (x.f0 = 3) || decide (x.f0 = 4) || decide (x.f0 = 5) || decide (x.f0 = 6)) && decide (x.f4.length = 2)) ||
    (decide (x.f0 = 7) && decide (x.f4.length = 1) && decide (-9 ≤ x.f3) && decide (x.f3 ≤ 9)))
mutual
def txtB : S31 → Bool
  | ⟨a, b, c, d, l⟩ => txt1 ⟨a, b, c, d, l⟩ && txtL l
def txtL : List S31 → Bool
  | [] => true
  | x :: l => txtB x && txtL l
end
theorem txtB_eq (x : S31) : txtB x = (txt1 x && txtL x.f4) := by cases x; rfl
theorem len0 {l : List S31} (h : l.length = 0) : l = [] := List.eq_nil_of_length_eq_zero h
theorem len1 {l : List S31} (h : l.length = 1) : ∃ y, l = [y] := List.length_eq_one_iff.1 h
theorem len2 {l : List S31} (h : l.length = 2) : ∃ y z, l = [y, z] := by
  match l, h with
  | [y, z], _ => exact ⟨y, z, rfl⟩
theorem text_calls : ∀ (n : Nat) (x : S31), depthX x ≤ n → txtB x = true → ∀ (least : Int) (v : Value) (w : World), Vw w x v → Tab w →
    Calls Tryz.prog 58 #[v, .int .i64 least] w fun e w' => e = .returned (.string (textX x least)) ∧ Below w.heap.size w w' := by
  intro n
  induction n with
  | zero => intro x h; rw [depthX_eq] at h; omega
  | succ n ih =>
    intro x hd hx least v w hv hT
    rw [txtB_eq, Bool.and_eq_true] at hx
    obtain ⟨h1, h2⟩ := hx
    unfold txt1 at h1
    simp only [Bool.and_eq_true, Bool.or_eq_true, decide_eq_true_eq] at h1
    obtain ⟨hsz, hk⟩ := h1
    rw [depthX_eq] at hd
    have hrec : ∀ y, y ∈ x.f4 → txtB y = true → ∀ v w' ls, Vw w' y v → Below w.heap.size w w' → Calls Tryz.prog 58 #[v, .int .i64 ls] w' fun e w'' => e = .returned (.string (textX y ls)) ∧ Below w'.heap.size w' w'' := by
      intro y hy hty v w' ls hv' hb
      have := depthX_mem hy
      exact ih y (by omega) hty ls v w' hv' (hT.below hb)
    rcases hk with ((⟨ho, hl⟩ | ⟨ho, hl⟩) | ⟨ho, hl⟩) | ⟨⟨⟨ho, hl⟩, hs0⟩, hs1⟩
    · exact text_ref x ho (len0 hl) least v w hv hsz
    · obtain ⟨y, hy⟩ := len1 hl
      rw [hy] at h2 hrec
      simp only [txtL, Bool.and_eq_true] at h2
      exact text_ahead x y ho hy least v w hv hsz (hrec y (by simp) h2.1)
    · obtain ⟨y, z, hy⟩ := len2 hl
      rw [hy] at h2 hrec
      simp only [txtL, Bool.and_eq_true] at h2
      rcases ho with ((ho | ho) | ho) | ho
      · exact text_op3 x y z ho hy least v w hv hsz (hrec y (by simp) h2.1) (hrec z (by simp) h2.2.1)
      · exact text_op4 x y z ho hy least v w hv hsz (hrec y (by simp) h2.1) (hrec z (by simp) h2.2.1)
      · exact text_op5 x y z ho hy least v w hv hsz (hrec y (by simp) h2.1) (hrec z (by simp) h2.2.1)
      · exact text_op6 x y z ho hy least v w hv hsz (hrec y (by simp) h2.1) (hrec z (by simp) h2.2.1)
    · obtain ⟨y, hy⟩ := len1 hl
      rw [hy] at h2 hrec
      simp only [txtL, Bool.and_eq_true] at h2
      exact text_pow x y ho hy (by omega) (by omega) least v w hv hsz hT (hrec y (by simp) h2.1)
set_option maxRecDepth 100000 in
set_option maxHeartbeats 2000000 in
theorem PrintExpr_ok (chk : S28 → Int) (hchk : ∀ r, chk r = 0 → ChkIs chk r) (x : S31) (hd : depthX x ≤ 30) (hn : nodesX x ≤ 4611686018427387904) (hall : allB chk x = true) (htx : txtB x = true) (hlen : (textX x 0).size ≤ 2000) (v : Value) (w : World) (hv : Vw w x v) (hS : Start w) (hT : Tab w) :
    Calls Tryz.prog 20 #[v] w fun e w' => e = .returned (.tuple #[.string (textX x 0), .int .i64 0]) ∧ Below w.heap.size w w' := by
  obtain ⟨A, c, rfl, hc1, hc2⟩ := hv.out
  have hck := fun w' (hb : Below w.heap.size w w') => CheckExpr_ok chk hchk x hd hn hall _ w' (hv.below hb) (hS.below hb)
  have htt := fun w' (hb : Below w.heap.size w w') => text_calls _ x (Nat.le_refl _) htx 0 _ w' (hv.below hb) (hT.below hb)
  have hbig : decide (2000 < ((textX x 0).size : Int)) = false := decide_eq_false (by omega)
  generalize textX x 0 = r at *
  obtain ⟨f0, f1, f2, f3, xs⟩ := x
  simp only at *
  unfold exV at *
  simp only at *
  have HC := Lib.hid hck
  have HT := Lib.hid htt
  clear hck htt hv hS hc2 hall htx hT hchk
  go_enter Tryz.func20, Tryz.ntmps20
  go_wp2_with fail
  have hb0 := (Below.refl _ w).alloc (Nat.le_refl _) (.cells #[.int .i64 f0, .string f1.f0, .string f1.f1, .string f2, .int .i64 f3, .slice A xs.length c] 31)
  have hbl := blk_new w (.cells #[.int .i64 f0, .string f1.f0, .string f1.f1, .string f2, .int .i64 f3, .slice A xs.length c] 31)
  refine (HC.out _ hb0).mono ?_
  rintro e w1 ⟨rfl, hb1⟩
  have hbl1 := bcell hb1 hbl
  obtain ⟨⟨q0, q1, q2, q3, q4, q5⟩, _, xl⟩ := cells6 hbl1
  have hbw := hb0.trans (hb1.mono (by simp))
  clear hbl hbl1
  go_wp2_with fail
  refine (HT.out _ hbw).mono ?_
  rintro e w2 ⟨rfl, hb2⟩
  go_wp2
  refine bodyPost_ret (results_tmp2 rfl _ _ _) rfl ⟨rfl, hbw.trans (hb2.mono hbw.size)⟩
end Go.Proofs.YtjaobihcdkjmbaaGreatDoor
end
section
namespace Go.Proofs.YtjaobihcdkjmbaaGreatDoor
open Go.RowKit Go.Proofs.YtjaobihcdkjmbaaGreatDoorW.PrintWords Go.Proofs.YtjaobihcdkjmbaaGreatDoor.PReadTokens
set_option maxRecDepth 100000 in
set_option maxHeartbeats 2000000 in
theorem shown_ok (chk : S28 → Int) (hchk : ∀ r, chk r = 0 → ChkIs chk r) (s : ByteArray) (h : Readable chk s) (x : S31) (hr : readS chk s = (x, 0, 0)) (hp : parseS chk s = .ok (x, (allToks s).length)) (hd : depthX x ≤ 30) (hn : nodesX x ≤ 4611686018427387904) (hall : allB chk x = true) (htx : txtB x = true) (hlen : (textX x 0).size ≤ 2000)
    (w : World) (hS : Start w) (hT : Tab w) :
    Calls Tryz.prog 44 #[.string s] w fun e w' => e = .returned (.string (textX x 0)) ∧ Below w.heap.size w w' := by
  have hrd := ReadExpr_calls chk s h w hS (fun _ => ⟨x, hp, hn⟩)
  unfold ReadPost at hrd
  rw [hr] at hrd
  simp only at hrd
  have hpr := fun v w' (hb : Below w.heap.size w w') (hv : Vw w' x v) => PrintExpr_ok chk hchk x hd hn hall htx hlen v w' hv (hS.below hb) (hT.below hb)
  generalize textX x 0 = r at *
  have HP := Lib.hid hpr
  clear hpr h hr hp hall htx hS hT hchk
  go_enter Tryz.func44, Tryz.ntmps44
  go_wp2_with fail
  refine hrd.mono ?_
  rintro e w1 ⟨v5, rfl, hx, hb1⟩
  obtain ⟨A, c, hv5, hc1, hc2⟩ := hx.vw.out
  obtain rfl := exV_inj hv5
  have hvw := hx.vw
  have HX := Lib.hid hvw
  clear hx hvw hv5 hc2
  have hex : exV x (.slice A x.f4.length c) = .agg #[.int .i64 x.f0, .string x.f1.f0, .string x.f1.f1, .string x.f2, .int .i64 x.f3, .slice A x.f4.length c] := rfl
  rw [hex] at HX ⊢
  have hb2 := hb1.alloc hb1.size (.cells #[.int .i64 x.f0, .string x.f1.f0, .string x.f1.f1, .string x.f2, .int .i64 x.f3, .slice A x.f4.length c] 31)
  go_wp2_with fail
  refine (HP.out _ _ hb2 (HX.out.below ((Below.refl _ w1).alloc (Nat.le_refl _) _))).mono ?_
  rintro e w2 ⟨rfl, hb3⟩
  go_wp2
  go_ret
  exact ⟨rfl, hb2.trans (hb3.mono hb2.size)⟩
set_option maxRecDepth 100000 in
set_option maxHeartbeats 2000000 in
theorem wrong_ok (chk : S28 → Int) (s : ByteArray) (h : Readable chk s) (at_ : Int) (hr : readS chk s = (z31, at_, 1)) (hpl : 0 ≤ placeS chk s) (w : World) (hS : Start w) :
    Calls Tryz.prog 45 #[.string s, .int .i64 at_] w fun e w' => e = .returned (.bool true) ∧ Below w.heap.size w w' := by
  have hrd := ReadExpr_calls chk s h w hS (fun hl => by omega)
  unfold ReadPost at hrd
  rw [hr] at hrd
  simp only at hrd
  have heq : (at_ == at_) = true := by simp
  go_enter Tryz.func45, Tryz.ntmps45
  go_wp2_with fail
  refine hrd.mono ?_
  rintro e w1 ⟨v5, rfl, hx, hb1⟩
  obtain ⟨A, c, hv5, hc1, hc2⟩ := hx.vw.out
  obtain rfl := exV_inj hv5
  have hex : exV z31 (.slice A z31.f4.length c) = .agg #[.int .i64 0, .string ⟨#[]⟩, .string ⟨#[]⟩, .string ⟨#[]⟩, .int .i64 0, .slice A 0 c] := rfl
  rw [hex]
  clear hx hv5 hc1 hc2
  go_wp2
  go_ret
  exact ⟨rfl, hb1.alloc hb1.size _⟩
set_option maxRecDepth 100000 in
set_option maxHeartbeats 2000000 in
theorem Size_ok (chk : S28 → Int) (hchk : ∀ r, chk r = 0 → ChkIs chk r) (x : S31) (hd : depthX x ≤ 30) (hn : nodesX x ≤ 4611686018427387904) (hall : allB chk x = true) (v : Value) (w : World) (hv : Vw w x v) (hS : Start w) :
    Calls Tryz.prog 35 #[v] w fun e w' => e = .returned (.tuple #[.int .i64 (nodesX x), .int .i64 (depthX x), .int .i64 0]) ∧ Below w.heap.size w w' := by
  obtain ⟨A, c, rfl, hc1, hc2⟩ := hv.out
  have hck := fun w' (hb : Below w.heap.size w w') => CheckExpr_ok chk hchk x hd hn hall _ w' (hv.below hb) (hS.below hb)
  have hdp := fun w' (hb : Below w.heap.size w w') => deep_calls _ x (Nat.le_refl _) hn _ w' (hv.below hb)
  generalize depthX x = dd at *
  generalize nodesX x = nn at *
  obtain ⟨f0, f1, f2, f3, xs⟩ := x
  simp only at *
  unfold exV at *
  simp only at *
  have HC := Lib.hid hck
  have HT := Lib.hid hdp
  clear hck hdp hv hS hc2 hall hchk
  go_enter Tryz.func35, Tryz.ntmps35
  go_wp2_with fail
  have hb0 := (Below.refl _ w).alloc (Nat.le_refl _) (.cells #[.int .i64 f0, .string f1.f0, .string f1.f1, .string f2, .int .i64 f3, .slice A xs.length c] 31)
  have hbl := blk_new w (.cells #[.int .i64 f0, .string f1.f0, .string f1.f1, .string f2, .int .i64 f3, .slice A xs.length c] 31)
  refine (HC.out _ hb0).mono ?_
  rintro e w1 ⟨rfl, hb1⟩
  have hbl1 := bcell hb1 hbl
  obtain ⟨⟨q0, q1, q2, q3, q4, q5⟩, _, xl⟩ := cells6 hbl1
  have hbw := hb0.trans (hb1.mono (by simp))
  clear hbl hbl1
  go_wp2_with fail
  refine (HT.out _ hbw).mono ?_
  rintro e w2 ⟨rfl, hb2⟩
  have hbx := hbw.trans (hb2.mono hbw.size)
  go_wp2
  go_quiet (fail)
  go_wp2
  refine bodyPost_ret (results_tmp3 rfl _ _ _) rfl ⟨rfl, ?_⟩
  have h9 := hbx.alloc hbx.size (.cells #[.int .i64 nn, .int .i64 dd] 100)
  first | exact pw_below_drewN h9 _ | exact h9.drew | exact h9
end Go.Proofs.YtjaobihcdkjmbaaGreatDoor
end
