/- A part of the proof that the law ReadTokens answers true for every input. -/
import Derived.Test.YtjaobihcdkjmbaaGreatDoorZ3
import Derived.Test.YtjaobihcdkjmbaaGreatDoorZ16
section
namespace Go.Proofs.YtjaobihcdkjmbaaGreatDoor
open Go.RowKit Go.Proofs.YtjaobihcdkjmbaaGreatDoorW.PrintWords Go.Proofs.YtjaobihcdkjmbaaGreatDoor.PReadTokens
theorem toks_told (w : World) : Calls Tryz.prog 15 #[.string ⟨#[97, 49, 43, 50, 123, 109, 47, 115, 125]⟩] w fun e w' => ∃ A c, e = .returned (.tuple #[.slice A 4 c, .int .i64 0, .int .i64 0]) ∧ 4 ≤ c ∧
    Kd.C k47 w' A 4 [⟨0, ⟨#[97, 49]⟩, 0⟩, ⟨4, ⟨#[43]⟩, 2⟩, ⟨2, ⟨#[50]⟩, 3⟩, ⟨3, ⟨#[109, 47, 115]⟩, 4⟩] ∧ Below w.heap.size w w' := by
  refine (Tokens_calls _ (by show 9 ≤ 2000; omega) w).mono ?_
  intro e w' h
  unfold TokPost at h
  rw [toks1] at h
  have hb : badOf [⟨0, ⟨#[97, 49]⟩, 0⟩, ⟨4, ⟨#[43]⟩, 2⟩, ⟨2, ⟨#[50]⟩, 3⟩, ⟨3, ⟨#[109, 47, 115]⟩, 4⟩] = none := rfl
  rw [hb] at h
  obtain ⟨v, h1, h2, h3⟩ := h
  obtain ⟨A, c, rfl, h4, h5⟩ := h2.C
  exact ⟨A, c, h1, h4, h5, h3⟩
theorem lenA : (allToks tA).length = 5 := by kernel_rfl
theorem lenB : (allToks tB).length = 7 := by kernel_rfl
theorem lenC : (allToks tC).length = 7 := by kernel_rfl
theorem lenD : (allToks tD).length = 7 := by kernel_rfl
theorem placeE : placeS chk0 tE = 2 := by kernel_rfl
theorem read_told (s : ByteArray) (h : plainText s = true) (x : S31) (hr : readS chk0 s = (x, 0, 0)) (hp : parseS chk0 s = .ok (x, (allToks s).length)) (hn : nodesX x ≤ 4611686018427387904) (w : World) (hS : Start w) :
    Calls Tryz.prog 18 #[.string s] w fun e w' => ∃ A c, e = .returned (.tuple #[.agg #[.int .i64 x.f0, .string x.f1.f0, .string x.f1.f1, .string x.f2, .int .i64 x.f3, .slice A x.f4.length c], .int .i64 0, .int .i64 0]) ∧
      Vw w' x (.agg #[.int .i64 x.f0, .string x.f1.f0, .string x.f1.f1, .string x.f2, .int .i64 x.f3, .slice A x.f4.length c]) ∧ Below w.heap.size w w' := by
  have hrd := ReadExpr_calls chk0 s (readable_plain chk0 s h) w hS (fun _ => ⟨x, hp, hn⟩)
  unfold ReadPost at hrd
  rw [hr] at hrd
  simp only at hrd
  refine hrd.mono ?_
  rintro e w1 ⟨v5, rfl, hx, hb1⟩
  obtain ⟨A, c, hv5, hc1, hc2⟩ := hx.vw.out
  obtain rfl := exV_inj hv5
  exact ⟨A, c, rfl, hx.vw, hb1⟩
theorem free_told (v : Value) (w : World) (hv : Vw w xB v) (hS : Start w) :
    Calls Tryz.prog 33 #[v] w fun e w' => ∃ A c, e = .returned (.tuple #[.slice A 2 c, .int .i64 0]) ∧ 2 ≤ c ∧ Kd.C Kd.string w' A 2 [⟨#[97]⟩, ⟨#[105]⟩] ∧ Below w.heap.size w w' := by
  refine (Free_ok chk0 chk0_ok xB (by rw [sizesA.2.2.2.1]; omega) (by rw [sizesA.2.2.1]; omega) allXB bareXB v w hv hS).mono ?_
  rintro e w' ⟨u, ss, base, rfl, hp, ho, _, hb⟩
  rw [keysB] at hp
  obtain ⟨h1, h2⟩ := sorted2 ss hp
  rw [h1, h2] at ho
  obtain ⟨A, c, rfl, h4, h5⟩ := own_texts (xs := [⟨#[97]⟩, ⟨#[105]⟩]) ho
  exact ⟨A, c, rfl, h4, h5, hb⟩
set_option maxRecDepth 100000 in
set_option maxHeartbeats 4000000 in
theorem told_calls (w : World) (hS : Start w) (hT : Tab w) : Calls Tryz.prog 10 #[] w fun e w' => e = .returned (.bool true) ∧ Below w.heap.size w w' := by
  have H1 := Lib.hid (toks_told)
  have HRA := Lib.hid (fun w (hS : Start w) => read_told tA plainA xA readA (by rw [lenA]; exact parseA chk0) (by rw [sizesA.1]; omega) w hS)
  have HRB := Lib.hid (fun w (hS : Start w) => read_told tB plainB xB readB (by rw [lenB]; exact parseB chk0) (by rw [sizesA.2.2.1]; omega) w hS)
  have HSZ := Lib.hid (fun v w (hv : Vw w xA v) (hS : Start w) => (by simpa [sizesA.1, sizesA.2.1] using Size_ok chk0 chk0_ok xA (by rw [sizesA.2.1]; omega) (by rw [sizesA.1]; omega) allA v w hv hS : Calls Tryz.prog 35 #[v] w fun e w' => e = .returned (.tuple #[.int .i64 5, .int .i64 3, .int .i64 0]) ∧ Below w.heap.size w w'))
  have HFR := Lib.hid (fun v w (hv : Vw w xB v) (hS : Start w) => free_told v w hv hS)
  have HSC := Lib.hid (fun w (hS : Start w) (hT : Tab w) => (by rw [← textC]; exact shown_ok chk0 chk0_ok tC (readable_plain chk0 _ plainC) xC readC (by rw [lenC]; exact parseC chk0) (by rw [sizesA.2.2.2.2.2.1]; omega) (by rw [sizesA.2.2.2.2.1]; omega) allC txtC (by rw [textC]; show 9 ≤ 2000; omega) w hS hT : Calls Tryz.prog 44 #[.string tC] w fun e w' => e = .returned (.string ⟨#[45, 97, 32, 42, 32, 98, 94, 45, 50]⟩) ∧ Below w.heap.size w w'))
  have HSD := Lib.hid (fun w (hS : Start w) (hT : Tab w) => (by rw [← textD]; exact shown_ok chk0 chk0_ok tD (readable_plain chk0 _ plainD) xD readD (by rw [lenD]; exact parseD chk0) (by rw [sizesA.2.2.2.2.2.2.2]; omega) (by rw [sizesA.2.2.2.2.2.2.1]; omega) allD txtD (by rw [textD]; show 11 ≤ 2000; omega) w hS hT : Calls Tryz.prog 44 #[.string tD] w fun e w' => e = .returned (.string ⟨#[97, 32, 45, 32, 40, 98, 32, 45, 32, 99, 41]⟩) ∧ Below w.heap.size w w'))
  have HWE := Lib.hid (fun w (hS : Start w) => wrong_ok chk0 tE (readable_plain chk0 _ plainE) 2 readE (by rw [placeE]; decide) w hS)
  go_enter Tryz.func10, Tryz.ntmps10
  go_wp2_with fail
  refine (H1.out _).mono ?_
  rintro e w1 ⟨A1, c1, rfl, hc1, hk1, hb1⟩
  clear H1
  have hk1 := Lib.hid hk1
  go_wp2_with fail
  refine (HRA.out _ (hS.below hb1)).mono ?_
  rintro e w2 ⟨A2, c2, rfl, hv2, hb2⟩
  clear HRA
  have hk2 := Lib.hid (Kd.C_below hk1.out hb2)
  have hb := hb1.trans (hb2.mono hb1.size)
  clear hk1 hb1 hb2
  have hl2 : xA.f4.length = 2 := rfl
  rw [hl2] at hv2 ⊢
  have hv2 := Lib.hid hv2
  generalize xA.f0 = a0 at *
  generalize xA.f1.f0 = a1 at *
  generalize xA.f1.f1 = a2 at *
  generalize xA.f2 = a3 at *
  generalize xA.f3 = a4 at *
  go_wp2_with fail
  have hb3 := hb.alloc hb.size (.cells #[.int .i64 a0, .string a1, .string a2, .string a3, .int .i64 a4, .slice A2 2 c2] 31)
  have hk3 := Lib.hid (Kd.C_alloc hk2.out (.cells #[.int .i64 a0, .string a1, .string a2, .string a3, .int .i64 a4, .slice A2 2 c2] 31))
  refine (HSZ.out _ _ (hv2.out.below ((Below.refl _ w2).alloc (Nat.le_refl _) _)) (hS.below hb3)).mono ?_
  rintro e w3 ⟨rfl, hb4⟩
  have hk4 := Lib.hid (Kd.C_below hk3.out hb4)
  have hb := hb3.trans (hb4.mono hb3.size)
  clear hk2 hk3 hb3 hb4 hv2 HSZ
  go_wp2_with fail
  refine (HRB.out _ (hS.below hb)).mono ?_
  rintro e w4 ⟨A4, c4, rfl, hv4, hb4⟩
  clear HRB
  have hk5 := Lib.hid (Kd.C_below hk4.out hb4)
  have hb := hb.trans (hb4.mono hb.size)
  clear hk4 hb4
  have hl4 : xB.f4.length = 2 := rfl
  rw [hl4] at hv4 ⊢
  have hv4 := Lib.hid hv4
  generalize xB.f0 = b0 at *
  generalize xB.f1.f0 = b1 at *
  generalize xB.f1.f1 = b2 at *
  generalize xB.f2 = b3 at *
  generalize xB.f3 = b4 at *
  go_wp2_with fail
  have hb3 := hb.alloc hb.size (.cells #[.int .i64 b0, .string b1, .string b2, .string b3, .int .i64 b4, .slice A4 2 c4] 31)
  have hk3 := Lib.hid (Kd.C_alloc hk5.out (.cells #[.int .i64 b0, .string b1, .string b2, .string b3, .int .i64 b4, .slice A4 2 c4] 31))
  refine (HFR.out _ _ (hv4.out.below ((Below.refl _ w4).alloc (Nat.le_refl _) _)) (hS.below hb3)).mono ?_
  rintro e w5 ⟨A5, c5, rfl, hc5, hf5, hb4⟩
  have hk4 := Lib.hid (Kd.C_below hk3.out hb4)
  have hb := hb3.trans (hb4.mono hb3.size)
  have hf5 := Lib.hid hf5
  clear hk3 hk5 hb3 hb4 hv4 HFR
  go_wp2_with fail
  refine (HSC.out _ (hS.below hb) (hT.below hb)).mono ?_
  rintro e w6 ⟨rfl, hb6⟩
  have hk6 := Lib.hid (Kd.C_below hk4.out hb6)
  have hf6 := Lib.hid (Kd.C_below hf5.out hb6)
  have hb := hb.trans (hb6.mono hb.size)
  clear hb6 hk4 hf5 HSC
  go_wp2_with fail
  refine (HSD.out _ (hS.below hb) (hT.below hb)).mono ?_
  rintro e w7 ⟨rfl, hb6⟩
  have hk7 := Lib.hid (Kd.C_below hk6.out hb6)
  have hf7 := Lib.hid (Kd.C_below hf6.out hb6)
  have hb := hb.trans (hb6.mono hb.size)
  clear hb6 hk6 hf6 HSD
  go_wp2_with fail
  refine (HWE.out _ (hS.below hb)).mono ?_
  rintro e w8 ⟨rfl, hb6⟩
  have hk8 := Lib.hid (Kd.C_below hk7.out hb6)
  have hf8 := Lib.hid (Kd.C_below hf7.out hb6)
  have hb := hb.trans (hb6.mono hb.size)
  clear hb6 hk7 hf7 HWE
  go_wp2_with fail
  have hb := hb.alloc hb.size (.cells #[.string ⟨#[97]⟩, .string ⟨#[105]⟩] 9)
  have hk9 := Lib.hid (Kd.C_alloc hk8.out (.cells #[.string ⟨#[97]⟩, .string ⟨#[105]⟩] 9))
  refine (metewandkit_EqTexts.calls 10 A5 c5 [⟨#[97]⟩, ⟨#[105]⟩] (some ⟨w8.heap.size, 0, none⟩) 2 [⟨#[97]⟩, ⟨#[105]⟩] true _ (Kd.C_alloc hf8.out _) hc5 (lit_texts w8 [⟨#[97]⟩, ⟨#[105]⟩] (by decide)) (Nat.le_refl _) eqt).mono ?_
  rintro e w9 ⟨rfl, hd9⟩
  obtain ⟨k9, hd9⟩ := hd9.out
  subst hd9
  have hk10 := Lib.hid (Kd.C_drewN hk9.out k9)
  have hb := pw_below_drewN hb k9
  clear hk8 hk9 hf8
  go_wp2_with fail
  have hlit := lit_toks ((w8.alloc (.cells #[.string ⟨#[97]⟩, .string ⟨#[105]⟩] 9)).drewN k9) [⟨0, ⟨#[97, 49]⟩, 0⟩, ⟨4, ⟨#[43]⟩, 2⟩, ⟨2, ⟨#[50]⟩, 3⟩, ⟨3, ⟨#[109, 47, 115]⟩, 4⟩] (by decide)
  rw [show ((w8.alloc (.cells #[.string ⟨#[97]⟩, .string ⟨#[105]⟩] 9)).drewN k9).heap.size = w8.heap.size + 1 from by simp] at hlit
  have hb := hb.alloc hb.size (.cells (flat [⟨0, ⟨#[97, 49]⟩, 0⟩, ⟨4, ⟨#[43]⟩, 2⟩, ⟨2, ⟨#[50]⟩, 3⟩, ⟨3, ⟨#[109, 47, 115]⟩, 4⟩]).toArray 47)
  refine (metewandkit_EqTokens.calls 10 A1 c1 [⟨0, ⟨#[97, 49]⟩, 0⟩, ⟨4, ⟨#[43]⟩, 2⟩, ⟨2, ⟨#[50]⟩, 3⟩, ⟨3, ⟨#[109, 47, 115]⟩, 4⟩] (some ⟨w8.heap.size + 1, 0, none⟩) 4 [⟨0, ⟨#[97, 49]⟩, 0⟩, ⟨4, ⟨#[43]⟩, 2⟩, ⟨2, ⟨#[50]⟩, 3⟩, ⟨3, ⟨#[109, 47, 115]⟩, 4⟩] true _ (Kd.C_alloc hk10.out _) hc1 hlit (Nat.le_refl _) eqk).mono ?_
  rintro e w10 ⟨rfl, hd⟩
  obtain ⟨k10, hd⟩ := hd.out
  subst hd
  have hb := pw_below_drewN hb k10
  go_wp2
  go_ret
  exact ⟨rfl, hb⟩
end Go.Proofs.YtjaobihcdkjmbaaGreatDoor
end
section
namespace Go.Proofs.YtjaobihcdkjmbaaGreatDoor.PReadTokens
open Go.RowKit Go.Proofs.YtjaobihcdkjmbaaGreatDoorW.PrintWords Go.Proofs.YtjaobihcdkjmbaaGreatDoorW.PrintLast Go.Proofs.YtjaobihcdkjmbaaGreatDoorW.PrintMore
attribute [local go_sem] max2_int min2_int max_two min_two max_three min_three max_four min_four   -- for this text's walks alone
set_option linter.unusedVariables false
set_option linter.unusedSimpArgs false
def metewandref13_small.f (a0 : Int) : Option (Bool) := if a0 ≥ 97 then (some (decide (a0 ≤ 122))) else (some false)
set_option maxHeartbeats 8000000 in
set_option maxRecDepth 100000 in
theorem metewandref13_small.calls (a0 : Int) (r : Bool) (w : World) (h : metewandref13_small.f a0 = some r) :
    Calls Tryz.prog 115 #[.int .u8 a0] w fun e w' => e = .returned (.bool r) ∧ Drawn0 w w' := by
  have H : (if a0 ≥ 97 then (some (decide (a0 ≤ 122))) else (some false)) = some r := h
  clear h
  by_cases c2 : a0 ≥ 97
  · rw [if_pos c2] at H
    have c2b0 : decide (97 ≤ a0) = true := decide_eq_true c2
    clear c2
    obtain rfl := Option.some.inj H
    go_enter Tryz.func115, Tryz.ntmps115
    go_wp2
    go_ret
    exact ⟨by first | rfl | (simp; done) | (simp [*]; done), by repeat (first | exact Drawn0.refl _ | apply Drawn0.step)⟩
  · rw [if_neg c2] at H
    have c2b0 : decide (97 ≤ a0) = false := decide_eq_false c2
    clear c2
    obtain rfl := Option.some.inj H
    go_enter Tryz.func115, Tryz.ntmps115
    go_wp2
    go_ret
    exact ⟨by first | rfl | (simp; done) | (simp [*]; done), by repeat (first | exact Drawn0.refl _ | apply Drawn0.step)⟩
def metewandref13_Word.f (a0 : ByteArray) : Option (Bool) := if a0.toList = ([102, 117, 110] : List UInt8) then (some true) else (if a0.toList = ([108, 101, 116] : List UInt8) then (some true) else (if a0.toList = ([115, 104, 111, 119] : List UInt8) then (some true) else (if a0.toList = ([105, 102] : List UInt8) then (some true) else (if a0.toList = ([116, 104, 101, 110] : List UInt8) then (some true) else (if a0.toList = ([101, 108, 115, 101] : List UInt8) then (some true) else (if a0.toList = ([105, 110] : List UInt8) then (some true) else (if a0.toList = ([116, 97, 98] : List UInt8) then (some true) else (some (a0.toList == ([115, 117, 109] : List UInt8))))))))))
set_option maxHeartbeats 8000000 in
set_option maxRecDepth 100000 in
theorem metewandref13_Word.calls (a0 : ByteArray) (r : Bool) (w : World) (h : metewandref13_Word.f a0 = some r) :
    Calls Tryz.prog 116 #[.string a0] w fun e w' => e = .returned (.bool r) ∧ Drawn0 w w' := by
  have H : (if a0.toList = ([102, 117, 110] : List UInt8) then (some true) else (if a0.toList = ([108, 101, 116] : List UInt8) then (some true) else (if a0.toList = ([115, 104, 111, 119] : List UInt8) then (some true) else (if a0.toList = ([105, 102] : List UInt8) then (some true) else (if a0.toList = ([116, 104, 101, 110] : List UInt8) then (some true) else (if a0.toList = ([101, 108, 115, 101] : List UInt8) then (some true) else (if a0.toList = ([105, 110] : List UInt8) then (some true) else (if a0.toList = ([116, 97, 98] : List UInt8) then (some true) else (some (a0.toList == ([115, 117, 109] : List UInt8))))))))))) = some r := h
  clear h
  by_cases c2 : a0.toList = ([102, 117, 110] : List UInt8)
  · rw [if_pos c2] at H
    have c2b0 : (a0.toList == ([102, 117, 110] : List UInt8)) = true := beq_iff_eq.mpr c2
    have c2b1 : (a0.toList != ([102, 117, 110] : List UInt8)) = false := bne_eq_false_iff_eq.mpr c2
    clear c2
    obtain rfl := Option.some.inj H
    go_enter Tryz.func116, Tryz.ntmps116
    go_wp2
    go_ret
    exact ⟨by first | rfl | (simp; done) | (simp [*]; done), by repeat (first | exact Drawn0.refl _ | apply Drawn0.step)⟩
  · rw [if_neg c2] at H
    have c2b0 : (a0.toList == ([102, 117, 110] : List UInt8)) = false := beq_eq_false_iff_ne.mpr c2
    have c2b1 : (a0.toList != ([102, 117, 110] : List UInt8)) = true := bne_iff_ne.mpr c2
    by_cases c3 : a0.toList = ([108, 101, 116] : List UInt8)
    · rw [if_pos c3] at H
      have c3b0 : (a0.toList == ([108, 101, 116] : List UInt8)) = true := beq_iff_eq.mpr c3
      have c3b1 : (a0.toList != ([108, 101, 116] : List UInt8)) = false := bne_eq_false_iff_eq.mpr c3
      clear c3
      obtain rfl := Option.some.inj H
      go_enter Tryz.func116, Tryz.ntmps116
      go_wp2
      go_ret
      exact ⟨by first | rfl | (simp; done) | (simp [*]; done), by repeat (first | exact Drawn0.refl _ | apply Drawn0.step)⟩
    · rw [if_neg c3] at H
      have c3b0 : (a0.toList == ([108, 101, 116] : List UInt8)) = false := beq_eq_false_iff_ne.mpr c3
      have c3b1 : (a0.toList != ([108, 101, 116] : List UInt8)) = true := bne_iff_ne.mpr c3
      by_cases c4 : a0.toList = ([115, 104, 111, 119] : List UInt8)
      · rw [if_pos c4] at H
        have c4b0 : (a0.toList == ([115, 104, 111, 119] : List UInt8)) = true := beq_iff_eq.mpr c4
        have c4b1 : (a0.toList != ([115, 104, 111, 119] : List UInt8)) = false := bne_eq_false_iff_eq.mpr c4
        clear c4
        obtain rfl := Option.some.inj H
        go_enter Tryz.func116, Tryz.ntmps116
        go_wp2
        go_ret
        exact ⟨by first | rfl | (simp; done) | (simp [*]; done), by repeat (first | exact Drawn0.refl _ | apply Drawn0.step)⟩
      · rw [if_neg c4] at H
        have c4b0 : (a0.toList == ([115, 104, 111, 119] : List UInt8)) = false := beq_eq_false_iff_ne.mpr c4
        have c4b1 : (a0.toList != ([115, 104, 111, 119] : List UInt8)) = true := bne_iff_ne.mpr c4
        by_cases c5 : a0.toList = ([105, 102] : List UInt8)
        · rw [if_pos c5] at H
          have c5b0 : (a0.toList == ([105, 102] : List UInt8)) = true := beq_iff_eq.mpr c5
          have c5b1 : (a0.toList != ([105, 102] : List UInt8)) = false := bne_eq_false_iff_eq.mpr c5
          clear c5
          obtain rfl := Option.some.inj H
          go_enter Tryz.func116, Tryz.ntmps116
          go_wp2
          go_ret
          exact ⟨by first | rfl | (simp; done) | (simp [*]; done), by repeat (first | exact Drawn0.refl _ | apply Drawn0.step)⟩
        · rw [if_neg c5] at H
          have c5b0 : (a0.toList == ([105, 102] : List UInt8)) = false := beq_eq_false_iff_ne.mpr c5
          have c5b1 : (a0.toList != ([105, 102] : List UInt8)) = true := bne_iff_ne.mpr c5
          by_cases c6 : a0.toList = ([116, 104, 101, 110] : List UInt8)
          · rw [if_pos c6] at H
            have c6b0 : (a0.toList == ([116, 104, 101, 110] : List UInt8)) = true := beq_iff_eq.mpr c6
            have c6b1 : (a0.toList != ([116, 104, 101, 110] : List UInt8)) = false := bne_eq_false_iff_eq.mpr c6
            clear c6
            obtain rfl := Option.some.inj H
            go_enter Tryz.func116, Tryz.ntmps116
            go_wp2
            go_ret
            exact ⟨by first | rfl | (simp; done) | (simp [*]; done), by repeat (first | exact Drawn0.refl _ | apply Drawn0.step)⟩
          · rw [if_neg c6] at H
            have c6b0 : (a0.toList == ([116, 104, 101, 110] : List UInt8)) = false := beq_eq_false_iff_ne.mpr c6
            have c6b1 : (a0.toList != ([116, 104, 101, 110] : List UInt8)) = true := bne_iff_ne.mpr c6
            by_cases c7 : a0.toList = ([101, 108, 115, 101] : List UInt8)
            · rw [if_pos c7] at H
              have c7b0 : (a0.toList == ([101, 108, 115, 101] : List UInt8)) = true := beq_iff_eq.mpr c7
              have c7b1 : (a0.toList != ([101, 108, 115, 101] : List UInt8)) = false := bne_eq_false_iff_eq.mpr c7
              clear c7
              obtain rfl := Option.some.inj H
              go_enter Tryz.func116, Tryz.ntmps116
              go_wp2
              go_ret
              exact ⟨by first | rfl | (simp; done) | (simp [*]; done), by repeat (first | exact Drawn0.refl _ | apply Drawn0.step)⟩
            · rw [if_neg c7] at H
              have c7b0 : (a0.toList == ([101, 108, 115, 101] : List UInt8)) = false := beq_eq_false_iff_ne.mpr c7
              have c7b1 : (a0.toList != ([101, 108, 115, 101] : List UInt8)) = true := bne_iff_ne.mpr c7
              by_cases c8 : a0.toList = ([105, 110] : List UInt8)
              · rw [if_pos c8] at H
                have c8b0 : (a0.toList == ([105, 110] : List UInt8)) = true := beq_iff_eq.mpr c8
                have c8b1 : (a0.toList != ([105, 110] : List UInt8)) = false := bne_eq_false_iff_eq.mpr c8
                clear c8
                obtain rfl := Option.some.inj H
                go_enter Tryz.func116, Tryz.ntmps116
                go_wp2
                go_ret
                exact ⟨by first | rfl | (simp; done) | (simp [*]; done), by repeat (first | exact Drawn0.refl _ | apply Drawn0.step)⟩
              · rw [if_neg c8] at H
                have c8b0 : (a0.toList == ([105, 110] : List UInt8)) = false := beq_eq_false_iff_ne.mpr c8
                have c8b1 : (a0.toList != ([105, 110] : List UInt8)) = true := bne_iff_ne.mpr c8
                by_cases c9 : a0.toList = ([116, 97, 98] : List UInt8)
                · rw [if_pos c9] at H
                  have c9b0 : (a0.toList == ([116, 97, 98] : List UInt8)) = true := beq_iff_eq.mpr c9
                  have c9b1 : (a0.toList != ([116, 97, 98] : List UInt8)) = false := bne_eq_false_iff_eq.mpr c9
                  clear c9
                  obtain rfl := Option.some.inj H
                  go_enter Tryz.func116, Tryz.ntmps116
                  go_wp2
                  go_ret
                  exact ⟨by first | rfl | (simp; done) | (simp [*]; done), by repeat (first | exact Drawn0.refl _ | apply Drawn0.step)⟩
                · rw [if_neg c9] at H
                  have c9b0 : (a0.toList == ([116, 97, 98] : List UInt8)) = false := beq_eq_false_iff_ne.mpr c9
                  have c9b1 : (a0.toList != ([116, 97, 98] : List UInt8)) = true := bne_iff_ne.mpr c9
                  obtain rfl := Option.some.inj H
                  go_enter Tryz.func116, Tryz.ntmps116
                  go_wp2
                  go_ret
                  exact ⟨by first | rfl | (simp; done) | (simp [*]; done), by repeat (first | exact Drawn0.refl _ | apply Drawn0.step)⟩
def metewandref13_digit.f (a0 : Int) : Option (Bool) := if a0 ≥ 48 then (some (decide (a0 ≤ 57))) else (some false)
set_option maxHeartbeats 8000000 in
set_option maxRecDepth 100000 in
theorem metewandref13_digit.calls (a0 : Int) (r : Bool) (w : World) (h : metewandref13_digit.f a0 = some r) :
    Calls Tryz.prog 117 #[.int .u8 a0] w fun e w' => e = .returned (.bool r) ∧ Drawn0 w w' := by
  have H : (if a0 ≥ 48 then (some (decide (a0 ≤ 57))) else (some false)) = some r := h
  clear h
  by_cases c2 : a0 ≥ 48
  · rw [if_pos c2] at H
    have c2b0 : decide (48 ≤ a0) = true := decide_eq_true c2
    clear c2
    obtain rfl := Option.some.inj H
    go_enter Tryz.func117, Tryz.ntmps117
    go_wp2
    go_ret
    exact ⟨by first | rfl | (simp; done) | (simp [*]; done), by repeat (first | exact Drawn0.refl _ | apply Drawn0.step)⟩
  · rw [if_neg c2] at H
    have c2b0 : decide (48 ≤ a0) = false := decide_eq_false c2
    clear c2
    obtain rfl := Option.some.inj H
    go_enter Tryz.func117, Tryz.ntmps117
    go_wp2
    go_ret
    exact ⟨by first | rfl | (simp; done) | (simp [*]; done), by repeat (first | exact Drawn0.refl _ | apply Drawn0.step)⟩
end Go.Proofs.YtjaobihcdkjmbaaGreatDoor.PReadTokens
end
