/- A part of the proof that the law ReadTokens answers true for every input. -/
import Derived.Test.YtjaobihcdkjmbaaGreatDoorZ10
section
namespace Go.Proofs.YtjaobihcdkjmbaaGreatDoor
open Go.RowKit Go.Proofs.YtjaobihcdkjmbaaGreatDoorW.PrintWords Go.Proofs.YtjaobihcdkjmbaaGreatDoor.PReadTokens
def plainTok (t : S47) : Bool := !isTok t ⟨#[124]⟩ && !isTok t ⟨#[108, 101, 116]⟩ && !isTok t ⟨#[105, 102]⟩ && !isTok t ⟨#[116, 97, 98]⟩ && !isTok t ⟨#[115, 117, 109]⟩
theorem plain_of {ts : List S47} (en : Nat) (h : ts.all plainTok = true) : Plain ts en := by
  have key : ∀ i, plainTok (tokP ts en i) = true := by
    intro i
    unfold tokP
    split
    · rename_i hi; exact List.all_eq_true.1 h _ (List.getElem_mem _)
    · rfl
  have k2 : ∀ i, isTok (tokP ts en i) ⟨#[124]⟩ = false ∧ isTok (tokP ts en i) ⟨#[108, 101, 116]⟩ = false ∧ isTok (tokP ts en i) ⟨#[105, 102]⟩ = false ∧ isTok (tokP ts en i) ⟨#[116, 97, 98]⟩ = false ∧ isTok (tokP ts en i) ⟨#[115, 117, 109]⟩ = false := by
    intro i
    have := key i
    unfold plainTok at this
    simpa [Bool.and_eq_true, and_assoc] using this
  exact ⟨fun i => (k2 i).1, fun i => (k2 i).2.1, fun i => (k2 i).2.2.1, fun i => (k2 i).2.2.2.1, fun i => (k2 i).2.2.2.2⟩
def plainText (s : ByteArray) : Bool := decide (s.size ≤ 2000) && decide ((allToks s).length ≤ 100000) && (allToks s).all (fun t => decide (t.f1.size ≤ 2000)) && (allToks s).all plainTok
theorem readable_plain (chk : S28 → Int) (s : ByteArray) (h : plainText s = true) : Readable chk s := by
  unfold plainText at h
  simp only [Bool.and_eq_true, decide_eq_true_eq] at h
  obtain ⟨⟨⟨h1, h2⟩, h3⟩, h4⟩ := h
  refine ⟨h1, h2, fun t ht => of_decide_eq_true (List.all_eq_true.1 h3 t ht), fun W0 R B E => ?_⟩
  exact pars_plain W0 R B (allToks s) s.size chk E (plain_of _ h4) _ 0 (by omega)
abbrev tA : ByteArray := ⟨#[49, 32, 43, 32, 120, 32, 42, 32, 50]⟩
abbrev tB : ByteArray := ⟨#[102, 40, 97, 41, 91, 105, 93]⟩
abbrev tC : ByteArray := ⟨#[45, 97, 42, 98, 94, 45, 50]⟩
abbrev tD : ByteArray := ⟨#[97, 45, 40, 98, 45, 99, 41]⟩
abbrev tE : ByteArray := ⟨#[49, 32, 50]⟩
def lit1 : S31 := ⟨0, ⟨⟨#[49]⟩, ⟨#[49]⟩⟩, ⟨#[]⟩, 0, []⟩
def lit2 : S31 := ⟨0, ⟨⟨#[50]⟩, ⟨#[49]⟩⟩, ⟨#[]⟩, 0, []⟩
def refX (n : ByteArray) : S31 := ⟨1, z28, n, 0, []⟩
def xA : S31 := twoX 3 lit1 (twoX 5 (refX ⟨#[120]⟩) lit2)
def xB : S31 := twoX 9 ⟨14, z28, ⟨#[102]⟩, 0, [refX ⟨#[97]⟩]⟩ (refX ⟨#[105]⟩)
def xC : S31 := ⟨2, z28, ⟨#[]⟩, 0, [twoX 5 (refX ⟨#[97]⟩) ⟨7, z28, ⟨#[]⟩, -2, [refX ⟨#[98]⟩]⟩]⟩
def xD : S31 := twoX 4 (refX ⟨#[97]⟩) (twoX 4 (refX ⟨#[98]⟩) (refX ⟨#[99]⟩))
theorem plainA : plainText tA = true := by kernel_rfl
theorem plainB : plainText tB = true := by kernel_rfl
theorem plainC : plainText tC = true := by kernel_rfl
theorem plainD : plainText tD = true := by kernel_rfl
theorem plainE : plainText tE = true := by kernel_rfl
theorem parseA (chk : S28 → Int) : parseS chk tA = .ok (xA, 5) := by kernel_rfl
theorem parseB (chk : S28 → Int) : parseS chk tB = .ok (xB, 7) := by kernel_rfl
theorem parseC (chk : S28 → Int) : parseS chk tC = .ok (xC, 7) := by kernel_rfl
theorem parseD (chk : S28 → Int) : parseS chk tD = .ok (xD, 7) := by kernel_rfl
end Go.Proofs.YtjaobihcdkjmbaaGreatDoor
end
section
namespace Go.Proofs.YtjaobihcdkjmbaaGreatDoor
open Go.RowKit Go.Proofs.YtjaobihcdkjmbaaGreatDoorW.PrintWords Go.Proofs.YtjaobihcdkjmbaaGreatDoor.PReadTokens
set_option maxHeartbeats 1000000 in
theorem fail_no (e : Int) (w : World) : Calls Tryz.prog 67 #[.bool false, .int .i64 e] w fun en w' => en = .returned (.tuple #[]) ∧ w' = w := by
  go_enter Tryz.func67, Tryz.ntmps67
  go_wp2
  exact bodyPost_end (results_none rfl _ _ _) rfl ⟨rfl, rfl⟩
def argLo (op : Int) : Int := if op = 0 ∨ op = 1 then 0 else if op = 2 ∨ op = 7 ∨ op = 10 ∨ op = 11 then 1 else if op = 12 then 4 else if op = 8 then 1 else if op = 14 then 0 else 2
def argHi (op : Int) : Int := if op = 0 ∨ op = 1 then 0 else if op = 2 ∨ op = 7 ∨ op = 10 ∨ op = 11 then 1 else if op = 12 then 4 else if op = 8 ∨ op = 14 then 8 else 2
def sizeLo (op : Int) : Int := if op = 7 then -9 else if op = 10 ∨ op = 11 then 1 else 0
def sizeHi (op : Int) : Int := if op = 7 then 9 else if op = 10 ∨ op = 11 then 99 else 0
theorem size198 : (Tryz.prog.info? 198).map (·.size) = some 2 := by kernel_rfl
theorem beq_no {a b : Int} (h : a ≠ b) : (a == b) = false := beq_eq_false_iff_ne.2 h
set_option maxRecDepth 100000 in
set_option maxHeartbeats 4000000 in
theorem sizes_calls (op : Int) (w : World) : Calls Tryz.prog 142 #[.int .i64 op] w fun e w' => e = .returned (.agg #[.int .i64 (sizeLo op), .int .i64 (sizeHi op)]) ∧ Below w.heap.size w w' := by
  by_cases h7 : op = 7
  · subst h7
    go_enter Tryz.func142, Tryz.ntmps142
    go_wp2
    exact bodyPost_ret (results_c Tryz.results142 _ _ w.heap.size 198 _ (0, 0) _ rfl (blk_new w _) Tryz.underlying198 rfl size198) rfl ⟨rfl, (Below.refl _ w).alloc (Nat.le_refl _) _⟩
  by_cases h10 : op = 10
  · subst h10
    go_enter Tryz.func142, Tryz.ntmps142
    go_wp2
    exact bodyPost_ret (results_c Tryz.results142 _ _ w.heap.size 198 _ (0, 0) _ rfl (blk_new w _) Tryz.underlying198 rfl size198) rfl ⟨rfl, (Below.refl _ w).alloc (Nat.le_refl _) _⟩
  by_cases h11 : op = 11
  · subst h11
    go_enter Tryz.func142, Tryz.ntmps142
    go_wp2
    exact bodyPost_ret (results_c Tryz.results142 _ _ w.heap.size 198 _ (0, 0) _ rfl (blk_new w _) Tryz.underlying198 rfl size198) rfl ⟨rfl, (Below.refl _ w).alloc (Nat.le_refl _) _⟩
  have e : sizeLo op = 0 ∧ sizeHi op = 0 := by unfold sizeLo sizeHi; simp [h7, h10, h11]
  rw [e.1, e.2]
  have h7' := beq_no h7
  have h10' := beq_no h10
  have h11' := beq_no h11
  clear e h7 h10 h11
  go_enter Tryz.func142, Tryz.ntmps142
  go_wp2
  exact bodyPost_ret (results_c Tryz.results142 _ _ w.heap.size 198 _ (0, 0) _ rfl (blk_new w _) Tryz.underlying198 rfl size198) rfl ⟨rfl, (Below.refl _ w).alloc (Nat.le_refl _) _⟩
set_option maxRecDepth 100000 in
set_option maxHeartbeats 4000000 in
theorem arguments_calls (op : Int) (w : World) : Calls Tryz.prog 140 #[.int .i64 op] w fun e w' => e = .returned (.agg #[.int .i64 (argLo op), .int .i64 (argHi op)]) ∧ Below w.heap.size w w' := by
  by_cases h : op = 0 ∨ op = 1 ∨ op = 2 ∨ op = 7 ∨ op = 8 ∨ op = 10 ∨ op = 11 ∨ op = 12 ∨ op = 14
  · rcases h with rfl | rfl | rfl | rfl | rfl | rfl | rfl | rfl | rfl
    all_goals
      go_enter Tryz.func140, Tryz.ntmps140
      go_wp2
      exact bodyPost_ret (results_c Tryz.results140 _ _ w.heap.size 198 _ (0, 0) _ rfl ((Below.heap_alloc _ _ _ (by simp)).trans (blk_new w _)) Tryz.underlying198 rfl size198) rfl ⟨rfl, ((Below.refl _ w).alloc (Nat.le_refl _) _).alloc (by simp) _⟩
  · have e : argLo op = 2 ∧ argHi op = 2 := by unfold argLo argHi; constructor <;> (repeat' split) <;> omega
    rw [e.1, e.2]
    have h0 := beq_no (a := op) (b := 0) (by omega)
    have h1 := beq_no (a := op) (b := 1) (by omega)
    have h2 := beq_no (a := op) (b := 2) (by omega)
    have h7 := beq_no (a := op) (b := 7) (by omega)
    have h8 := beq_no (a := op) (b := 8) (by omega)
    have h10 := beq_no (a := op) (b := 10) (by omega)
    have h11 := beq_no (a := op) (b := 11) (by omega)
    have h12 := beq_no (a := op) (b := 12) (by omega)
    have h14 := beq_no (a := op) (b := 14) (by omega)
    clear e h
    go_enter Tryz.func140, Tryz.ntmps140
    go_wp2
    exact bodyPost_ret (results_c Tryz.results140 _ _ w.heap.size 198 _ (0, 0) _ rfl ((Below.heap_alloc _ _ _ (by simp)).trans (blk_new w _)) Tryz.underlying198 rfl size198) rfl ⟨rfl, ((Below.refl _ w).alloc (Nat.le_refl _) _).alloc (by simp) _⟩
end Go.Proofs.YtjaobihcdkjmbaaGreatDoor
end
section
namespace Go.Proofs.YtjaobihcdkjmbaaGreatDoor
open Go.RowKit Go.Proofs.YtjaobihcdkjmbaaGreatDoorW.PrintWords Go.Proofs.YtjaobihcdkjmbaaGreatDoor.PReadTokens
def ChkIs (chk : S28 → Int) (r : S28) : Prop := ∀ w, Start w → Calls Tryz.prog 141 #[.agg #[.string r.f0, .string r.f1]] w fun e w' => e = .returned (.int .i64 (chk r)) ∧ Below w.heap.size w w'
theorem eq198_0 (w : World) : (Op.equalIn 10000 198 (.agg #[.int .i64 0, .int .i64 0]) (.agg #[.int .i64 0, .int .i64 0])).run Tryz.prog w = .ok true w := by kernel_rfl
theorem eq198_9 (w : World) : (Op.equalIn 10000 198 (.agg #[.int .i64 (-9), .int .i64 9]) (.agg #[.int .i64 0, .int .i64 0])).run Tryz.prog w = .ok false w := by kernel_rfl
theorem eq198_99 (w : World) : (Op.equalIn 10000 198 (.agg #[.int .i64 1, .int .i64 99]) (.agg #[.int .i64 0, .int .i64 0])).run Tryz.prog w = .ok false w := by kernel_rfl
theorem sizes3 (op : Int) : (sizeLo op = 0 ∧ sizeHi op = 0) ∨ (sizeLo op = -9 ∧ sizeHi op = 9) ∨ (sizeLo op = 1 ∧ sizeHi op = 99) := by
  unfold sizeLo sizeHi
  by_cases h7 : op = 7
  · simp [h7]
  · by_cases h10 : op = 10 ∨ op = 11
    · simp [h7, h10]
    · simp [h7, h10]
set_option maxRecDepth 100000 in
set_option maxHeartbeats 4000000 in
theorem look_other (x : S31) (v5 : Value) (w : World) (A : Option Addr) (c : Nat) (hv5 : v5 = .slice A x.f4.length c) (h0 : 0 ≤ x.f0) (h1 : x.f0 ≤ 14) (hlo : argLo x.f0 ≤ x.f4.length) (hhi : (x.f4.length : Int) ≤ argHi x.f0)
    (hop : x.f0 ≠ 0 ∧ x.f0 ≠ 1 ∧ x.f0 ≠ 10 ∧ x.f0 ≠ 11 ∧ x.f0 ≠ 13 ∧ x.f0 ≠ 14) (hnum : x.f1 = z28) (hname : x.f2 = ⟨#[]⟩) (hs0 : sizeLo x.f0 ≤ x.f3) (hs1 : x.f3 ≤ sizeHi x.f0) :
    Calls Tryz.prog 102 #[exV x v5] w fun e w' => e = .returned (.tuple #[]) ∧ Below w.heap.size w w' := by
  obtain ⟨op, num, name, size, xs⟩ := x
  subst hv5
  simp only at *
  subst hnum hname
  obtain ⟨n0, n1, n10, n11, n13, n14⟩ := hop
  have b0 := beq_no n0
  have b1 := beq_no n1
  have b10 := beq_no n10
  have b11 := beq_no n11
  have b13 := beq_no n13
  have b14 := beq_no n14
  have hin := in_any op 0 14
  rw [decide_eq_true h0, decide_eq_true h1] at hin
  have hin2 := in_any size (sizeLo op) (sizeHi op)
  rw [decide_eq_true hs0, decide_eq_true hs1] at hin2
  have l1 : decide ((xs.length : Int) < argLo op) = false := decide_eq_false (by omega)
  have l2 : decide (argHi op < (xs.length : Int)) = false := decide_eq_false (by omega)
  have hz := sizes3 op
  have E0 := eq198_0
  have E9 := eq198_9
  have E99 := eq198_99
  have hA := arguments_calls op
  have hZ := sizes_calls op
  generalize argLo op = aL at *
  generalize argHi op = aH at *
  generalize sizeLo op = sL at *
  generalize sizeHi op = sH at *
  clear h0 h1 hlo hhi n0 n1 n10 n11 n13 n14
  unfold exV z28
  simp only
  go_enter Tryz.func102, Tryz.ntmps102
  go_wp2_with (first
    | (go_at_call 104; refine (hin _).mono ?_; rintro e wq ⟨rfl, hq⟩; subst wq)
    | (go_at_call 67; refine (fail_no _ _).mono ?_; rintro e wq ⟨rfl, hq⟩; subst wq))
  refine (hA _).mono ?_
  rintro e w1 ⟨rfl, hb1⟩
  have hx1 := bcell hb1 (blk_new w (.cells #[.int .i64 op, .string ⟨#[]⟩, .string ⟨#[]⟩, .string ⟨#[]⟩, .int .i64 size, .slice A xs.length c] 31))
  obtain ⟨⟨q0, q1, q2, q3, q4, q5⟩, _, xl⟩ := cells6 hx1
  have hbw : Below w.heap.size w w1 := ((Below.refl _ w).alloc (Nat.le_refl _) _).trans (hb1.mono (by simp))
  have HX := Lib.hid hx1
  clear hx1
  go_wp2_with (first
    | (go_at_call 104; refine (hin _).mono ?_; rintro e wq ⟨rfl, hq⟩; subst wq)
    | (go_at_call 67; refine (fail_no _ _).mono ?_; rintro e wq ⟨rfl, hq⟩; subst wq))
  refine (hZ _).mono ?_
  rintro e w2 ⟨rfl, hb2⟩
  have hx2 := bcell hb2 ((Below.heap_alloc _ _ _ xl).trans HX.out)
  have hy2 := bcell hb2 (blk_new w1 (.cells #[.int .i64 aL, .int .i64 aH] 198))
  have hbw2 := (hbw.alloc hbw.size (.cells #[.int .i64 aL, .int .i64 aH] 198)).trans (hb2.mono (by simp; have := hbw.size; omega))
  have hw1 := hbw.size
  obtain ⟨⟨p0, p1, p2, p3, p4, p5⟩, _, xl2⟩ := cells6 hx2
  have y0 := blk_cell hy2 0
  have y1 := blk_cell hy2 1
  have z0 := blk_frozen hy2 0
  have z1 := blk_frozen hy2 1
  have yl := blk_lt hy2
  have hneq := Nat.ne_of_lt xl
  clear hx2 hy2 HX hb1 hb2
  rcases hz with ⟨rfl, rfl⟩ | ⟨rfl, rfl⟩ | ⟨rfl, rfl⟩
  · have hs : (size == 0) = true := by rw [beq_iff_eq]; omega
    have hs' : (size != 0) = false := by rw [bne, hs]; rfl
    go_wp2_with (first
      | (go_at_call 104; refine (hin2 _).mono ?_; rintro e wq ⟨rfl, hq⟩; subst wq)
      | (go_at_call 67; refine (fail_no _ _).mono ?_; rintro e wq ⟨rfl, hq⟩; subst wq))
    exact bodyPost_end (results_none rfl _ _ _) rfl ⟨rfl, (hbw2.setCell (p := ⟨w1.heap.size, 0, none⟩) (by simp; omega) _).setCell (p := ⟨w1.heap.size, 1, none⟩) (by simp; omega) _⟩
  all_goals
    go_wp2_with (first
      | (go_at_call 104; refine (hin2 _).mono ?_; rintro e wq ⟨rfl, hq⟩; subst wq)
      | (go_at_call 67; refine (fail_no _ _).mono ?_; rintro e wq ⟨rfl, hq⟩; subst wq))
    exact bodyPost_end (results_none rfl _ _ _) rfl ⟨rfl, (hbw2.setCell (p := ⟨w1.heap.size, 0, none⟩) (by simp; omega) _).setCell (p := ⟨w1.heap.size, 1, none⟩) (by simp; omega) _⟩
set_option maxRecDepth 100000 in
set_option maxHeartbeats 4000000 in
theorem look_named (x : S31) (v5 : Value) (w : World) (A : Option Addr) (c : Nat) (hv5 : v5 = .slice A x.f4.length c) (h0 : 0 ≤ x.f0) (h1 : x.f0 ≤ 14) (hlo : argLo x.f0 ≤ x.f4.length) (hhi : (x.f4.length : Int) ≤ argHi x.f0)
    (hop : x.f0 = 1 ∨ x.f0 = 10 ∨ x.f0 = 11 ∨ x.f0 = 13 ∨ x.f0 = 14) (hnum : x.f1 = z28) (hname : nameB x.f2 = true) (hs0 : sizeLo x.f0 ≤ x.f3) (hs1 : x.f3 ≤ sizeHi x.f0) :
    Calls Tryz.prog 102 #[exV x v5] w fun e w' => e = .returned (.tuple #[]) ∧ Below w.heap.size w w' := by
  obtain ⟨op, num, name, size, xs⟩ := x
  subst hv5
  simp only at *
  subst hnum
  have hnm : name.size ≤ 9223372036854775807 := by
    unfold nameB at hname
    simp only [Bool.and_eq_true, decide_eq_true_eq] at hname
    omega
  have hN := fun w => name_any name w hnm
  rw [hname] at hN
  have hin := in_any op 0 14
  rw [decide_eq_true h0, decide_eq_true h1] at hin
  have hin2 := in_any size (sizeLo op) (sizeHi op)
  rw [decide_eq_true hs0, decide_eq_true hs1] at hin2
  have l1 : decide ((xs.length : Int) < argLo op) = false := decide_eq_false (by omega)
  have l2 : decide (argHi op < (xs.length : Int)) = false := decide_eq_false (by omega)
  have hz := sizes3 op
  have E0 := eq198_0
  have E9 := eq198_9
  have E99 := eq198_99
  have hA := arguments_calls op
  have hZ := sizes_calls op
  generalize argLo op = aL at *
  generalize argHi op = aH at *
  generalize sizeLo op = sL at *
  generalize sizeHi op = sH at *
  clear h0 h1 hlo hhi
  unfold exV z28
  simp only
  rcases hop with rfl | rfl | rfl | rfl | rfl
  all_goals
    go_enter Tryz.func102, Tryz.ntmps102
    go_wp2_with (first
      | (go_at_call 104; refine (hin _).mono ?_; rintro e wq ⟨rfl, hq⟩; subst wq)
      | (go_at_call 67; refine (fail_no _ _).mono ?_; rintro e wq ⟨rfl, hq⟩; subst wq))
    refine (hA _).mono ?_
    rintro e w1 ⟨rfl, hb1⟩
    have hx1 := bcell hb1 (blk_new w (.cells #[.int .i64 _, .string ⟨#[]⟩, .string ⟨#[]⟩, .string name, .int .i64 size, .slice A xs.length c] 31))
    obtain ⟨⟨q0, q1, q2, q3, q4, q5⟩, _, xl⟩ := cells6 hx1
    have hbw : Below w.heap.size w w1 := ((Below.refl _ w).alloc (Nat.le_refl _) _).trans (hb1.mono (by simp))
    have HX := Lib.hid hx1
    clear hx1
    go_wp2_with (first
      | (go_at_call 104; refine (hin _).mono ?_; rintro e wq ⟨rfl, hq⟩; subst wq)
      | (go_at_call 67; refine (fail_no _ _).mono ?_; rintro e wq ⟨rfl, hq⟩; subst wq))
    refine (hN _).mono ?_
    rintro e w4 ⟨rfl, hb4⟩
    have hx4 := bcell hb4 ((Below.heap_alloc _ _ _ xl).trans HX.out)
    have hy4 := bcell hb4 (blk_new w1 (.cells #[.int .i64 aL, .int .i64 aH] 198))
    have hbw4 := (hbw.alloc hbw.size (.cells #[.int .i64 aL, .int .i64 aH] 198)).trans (hb4.mono (by simp; have := hbw.size; omega))
    obtain ⟨⟨r0, r1, r2, r3, r4, r5⟩, _, xl4⟩ := cells6 hx4
    have HX4 := Lib.hid hx4
    have HY4 := Lib.hid hy4
    clear hx4 hy4
    go_wp2_with (first
      | (go_at_call 104; refine (hin _).mono ?_; rintro e wq ⟨rfl, hq⟩; subst wq)
      | (go_at_call 67; refine (fail_no _ _).mono ?_; rintro e wq ⟨rfl, hq⟩; subst wq))
    refine (hZ _).mono ?_
    rintro e w2 ⟨rfl, hb2⟩
    have hx2 := bcell hb2 HX4.out
    have hy2 := bcell hb2 HY4.out
    have hbw2 := hbw4.trans (hb2.mono hbw4.size)
    have hw1 := hbw.size
    obtain ⟨⟨p0, p1, p2, p3, p4, p5⟩, _, xl2⟩ := cells6 hx2
    have y0 := blk_cell hy2 0
    have y1 := blk_cell hy2 1
    have z0 := blk_frozen hy2 0
    have z1 := blk_frozen hy2 1
    have yl := blk_lt hy2
    have hneq := Nat.ne_of_lt xl
    clear hx2 hy2 HX hb1 hb2
    rcases hz with ⟨rfl, rfl⟩ | ⟨rfl, rfl⟩ | ⟨rfl, rfl⟩
    · have hs : (size == 0) = true := by rw [beq_iff_eq]; omega
      have hs' : (size != 0) = false := by rw [bne, hs]; rfl
      go_wp2_with (first
        | (go_at_call 104; refine (hin2 _).mono ?_; rintro e wq ⟨rfl, hq⟩; subst wq)
        | (go_at_call 67; refine (fail_no _ _).mono ?_; rintro e wq ⟨rfl, hq⟩; subst wq))
      exact bodyPost_end (results_none rfl _ _ _) rfl ⟨rfl, (hbw2.setCell (p := ⟨w1.heap.size, 0, none⟩) (by simp; omega) _).setCell (p := ⟨w1.heap.size, 1, none⟩) (by simp; omega) _⟩
    all_goals
      go_wp2_with (first
        | (go_at_call 104; refine (hin2 _).mono ?_; rintro e wq ⟨rfl, hq⟩; subst wq)
        | (go_at_call 67; refine (fail_no _ _).mono ?_; rintro e wq ⟨rfl, hq⟩; subst wq))
      exact bodyPost_end (results_none rfl _ _ _) rfl ⟨rfl, (hbw2.setCell (p := ⟨w1.heap.size, 0, none⟩) (by simp; omega) _).setCell (p := ⟨w1.heap.size, 1, none⟩) (by simp; omega) _⟩
set_option maxRecDepth 100000 in
set_option maxHeartbeats 4000000 in
theorem look_lit (chk : S28 → Int) (x : S31) (v5 : Value) (w : World) (A : Option Addr) (c : Nat) (hv5 : v5 = .slice A x.f4.length c) (h0 : 0 ≤ x.f0) (h1 : x.f0 ≤ 14) (hlo : argLo x.f0 ≤ x.f4.length) (hhi : (x.f4.length : Int) ≤ argHi x.f0)
    (hop : x.f0 = 0) (hchk : ChkIs chk x.f1) (hnum : chk x.f1 = 0) (hpos : ∃ h : 0 < x.f1.f0.size, (x.f1.f0[0]'h).toNat ≠ 45) (hname : x.f2 = ⟨#[]⟩) (hS : Start w) (hs0 : sizeLo x.f0 ≤ x.f3) (hs1 : x.f3 ≤ sizeHi x.f0) :
    Calls Tryz.prog 102 #[exV x v5] w fun e w' => e = .returned (.tuple #[]) ∧ Below w.heap.size w w' := by
  obtain ⟨op, num, name, size, xs⟩ := x
  subst hv5
  simp only at *
  subst hname
  obtain ⟨nu, de⟩ := num
  simp only at *
  have hC := hchk
  unfold ChkIs at hC
  rw [hnum] at hC
  obtain ⟨hp0, hp1⟩ := hpos
  have hfb : (((nu[0]'hp0).toNat : Int) == 45) = false := by rw [beq_eq_false_iff_ne]; omega
  have hin := in_any op 0 14
  rw [decide_eq_true h0, decide_eq_true h1] at hin
  have hin2 := in_any size (sizeLo op) (sizeHi op)
  rw [decide_eq_true hs0, decide_eq_true hs1] at hin2
  have l1 : decide ((xs.length : Int) < argLo op) = false := decide_eq_false (by omega)
  have l2 : decide (argHi op < (xs.length : Int)) = false := decide_eq_false (by omega)
  have hz := sizes3 op
  have E0 := eq198_0
  have E9 := eq198_9
  have E99 := eq198_99
  have hA := arguments_calls op
  have hZ := sizes_calls op
  generalize argLo op = aL at *
  generalize argHi op = aH at *
  generalize sizeLo op = sL at *
  generalize sizeHi op = sH at *
  clear h0 h1 hlo hhi
  unfold exV
  simp only
  subst hop
  · skip
    go_enter Tryz.func102, Tryz.ntmps102
    go_wp2_with (first
      | (go_at_call 104; refine (hin _).mono ?_; rintro e wq ⟨rfl, hq⟩; subst wq)
      | (go_at_call 67; refine (fail_no _ _).mono ?_; rintro e wq ⟨rfl, hq⟩; subst wq))
    refine (hA _).mono ?_
    rintro e w1 ⟨rfl, hb1⟩
    have hx1 := bcell hb1 (blk_new w (.cells #[.int .i64 _, .string nu, .string de, .string ⟨#[]⟩, .int .i64 size, .slice A xs.length c] 31))
    obtain ⟨⟨q0, q1, q2, q3, q4, q5⟩, _, xl⟩ := cells6 hx1
    have hbw : Below w.heap.size w w1 := ((Below.refl _ w).alloc (Nat.le_refl _) _).trans (hb1.mono (by simp))
    have HX := Lib.hid hx1
    clear hx1
    go_wp2_with (first
      | (go_at_call 104; refine (hin _).mono ?_; rintro e wq ⟨rfl, hq⟩; subst wq)
      | (go_at_call 67; refine (fail_no _ _).mono ?_; rintro e wq ⟨rfl, hq⟩; subst wq))
    refine (hC _ (hS.below (hbw.alloc hbw.size _))).mono ?_
    rintro e w4 ⟨rfl, hb4⟩
    have hx4 := bcell hb4 ((Below.heap_alloc _ _ _ xl).trans HX.out)
    have hy4 := bcell hb4 (blk_new w1 (.cells #[.int .i64 aL, .int .i64 aH] 198))
    have hbw4 := (hbw.alloc hbw.size (.cells #[.int .i64 aL, .int .i64 aH] 198)).trans (hb4.mono (by simp; have := hbw.size; omega))
    obtain ⟨⟨r0, r1, r2, r3, r4, r5⟩, _, xl4⟩ := cells6 hx4
    have HX4 := Lib.hid hx4
    have HY4 := Lib.hid hy4
    clear hx4 hy4
    go_wp2_with (first
      | (go_at_call 104; refine (hin _).mono ?_; rintro e wq ⟨rfl, hq⟩; subst wq)
      | (go_at_call 67; refine (fail_no _ _).mono ?_; rintro e wq ⟨rfl, hq⟩; subst wq))
    refine (hZ _).mono ?_
    rintro e w2 ⟨rfl, hb2⟩
    have hx2 := bcell hb2 HX4.out
    have hy2 := bcell hb2 HY4.out
    have hbw2 := hbw4.trans (hb2.mono hbw4.size)
    have hw1 := hbw.size
    obtain ⟨⟨p0, p1, p2, p3, p4, p5⟩, _, xl2⟩ := cells6 hx2
    have y0 := blk_cell hy2 0
    have y1 := blk_cell hy2 1
    have z0 := blk_frozen hy2 0
    have z1 := blk_frozen hy2 1
    have yl := blk_lt hy2
    have hneq := Nat.ne_of_lt xl
    clear hx2 hy2 HX hb1 hb2
    rcases hz with ⟨rfl, rfl⟩ | ⟨rfl, rfl⟩ | ⟨rfl, rfl⟩
    · have hs : (size == 0) = true := by rw [beq_iff_eq]; omega
      have hs' : (size != 0) = false := by rw [bne, hs]; rfl
      go_wp2_with (first
        | (go_at_call 104; refine (hin2 _).mono ?_; rintro e wq ⟨rfl, hq⟩; subst wq)
        | (go_at_call 67; refine (fail_no _ _).mono ?_; rintro e wq ⟨rfl, hq⟩; subst wq))
      exact bodyPost_end (results_none rfl _ _ _) rfl ⟨rfl, (hbw2.setCell (p := ⟨w1.heap.size, 0, none⟩) (by simp; omega) _).setCell (p := ⟨w1.heap.size, 1, none⟩) (by simp; omega) _⟩
    all_goals
      go_wp2_with (first
        | (go_at_call 104; refine (hin2 _).mono ?_; rintro e wq ⟨rfl, hq⟩; subst wq)
        | (go_at_call 67; refine (fail_no _ _).mono ?_; rintro e wq ⟨rfl, hq⟩; subst wq))
      exact bodyPost_end (results_none rfl _ _ _) rfl ⟨rfl, (hbw2.setCell (p := ⟨w1.heap.size, 0, none⟩) (by simp; omega) _).setCell (p := ⟨w1.heap.size, 1, none⟩) (by simp; omega) _⟩
end Go.Proofs.YtjaobihcdkjmbaaGreatDoor
end
section
namespace Go.Proofs.YtjaobihcdkjmbaaGreatDoor
open Go.RowKit Go.Proofs.YtjaobihcdkjmbaaGreatDoorW.PrintWords Go.Proofs.YtjaobihcdkjmbaaGreatDoor.PReadTokens
def lookB (chk : S28 → Int) (x : S31) : Bool :=
  decide (0 ≤ x.f0) && decide (x.f0 ≤ 14) && decide (argLo x.f0 ≤ x.f4.length) && decide ((x.f4.length : Int) ≤ argHi x.f0) && decide (sizeLo x.f0 ≤ x.f3) && decide (x.f3 ≤ sizeHi x.f0) &&
    (if x.f0 = 0 then decide (chk x.f1 = 0) && (match x.f1.f0.data.toList with | [] => false | b :: _ => decide (b.toNat ≠ 45)) && decide (x.f2 = ⟨#[]⟩)
     else decide (x.f1.f0 = ⟨#[]⟩) && decide (x.f1.f1 = ⟨#[]⟩) && (if x.f0 = 1 ∨ x.f0 = 10 ∨ x.f0 = 11 ∨ x.f0 = 13 ∨ x.f0 = 14 then nameB x.f2 else decide (x.f2 = ⟨#[]⟩)))
theorem head_first {s : ByteArray} (h : (match s.data.toList with | [] => false | b :: _ => decide (b.toNat ≠ 45)) = true) : ∃ h : 0 < s.size, (s[0]'h).toNat ≠ 45 := by
  cases hl : s.data.toList with
  | nil => rw [hl] at h; cases h
  | cons b l =>
    rw [hl] at h
    have hs : 0 < s.size := by show 0 < s.data.toList.length; rw [hl]; simp
    refine ⟨hs, ?_⟩
    have : s[0]'hs = b := by
      show s.data.toList[0]'hs = b
      simp [hl]
    rw [this]
    exact of_decide_eq_true h
theorem look_ok (chk : S28 → Int) (hchk : ∀ r, chk r = 0 → ChkIs chk r) (x : S31) (h : lookB chk x = true) (v : Value) (w : World) (hv : Vw w x v) (hS : Start w) :
    Calls Tryz.prog 102 #[v] w fun e w' => e = .returned (.tuple #[]) ∧ Below w.heap.size w w' := by
  obtain ⟨A, c, rfl, _, _⟩ := hv.out
  unfold lookB at h
  simp only [Bool.and_eq_true, decide_eq_true_eq] at h
  obtain ⟨⟨⟨⟨⟨⟨h0, h1⟩, h2⟩, h3⟩, h4⟩, h5⟩, h6⟩ := h
  by_cases hl : x.f0 = 0
  · rw [if_pos hl] at h6
    simp only [Bool.and_eq_true, decide_eq_true_eq] at h6
    obtain ⟨⟨h7, h8⟩, h9⟩ := h6
    exact look_lit chk x _ w A c rfl h0 h1 h2 h3 hl (hchk _ h7) h7 (head_first h8) h9 hS h4 h5
  · rw [if_neg hl] at h6
    simp only [Bool.and_eq_true, decide_eq_true_eq] at h6
    obtain ⟨⟨h7, h8⟩, h9⟩ := h6
    have hz : x.f1 = z28 := by
      cases hx : x.f1 with
      | mk a b => rw [hx] at h7 h8; simp only at h7 h8; rw [h7, h8]; rfl
    by_cases hn : x.f0 = 1 ∨ x.f0 = 10 ∨ x.f0 = 11 ∨ x.f0 = 13 ∨ x.f0 = 14
    · rw [if_pos hn] at h9
      exact look_named x _ w A c rfl h0 h1 h2 h3 hn hz h9 h4 h5
    · rw [if_neg hn] at h9
      exact look_other x _ w A c rfl h0 h1 h2 h3 ⟨hl, by omega, by omega, by omega, by omega, by omega⟩ hz (of_decide_eq_true h9) h4 h5
mutual
def allB (chk : S28 → Int) : S31 → Bool
  | ⟨a, b, c, d, l⟩ => lookB chk ⟨a, b, c, d, l⟩ && allL chk l
def allL (chk : S28 → Int) : List S31 → Bool
  | [] => true
  | x :: l => allB chk x && allL chk l
end
theorem allB_eq (chk : S28 → Int) (x : S31) : allB chk x = (lookB chk x && allL chk x.f4) := by cases x; rfl
theorem allL_mem {chk : S28 → Int} {l : List S31} (h : allL chk l = true) {x : S31} (hx : x ∈ l) : allB chk x = true := by
  induction l with
  | nil => simp at hx
  | cons y l ih =>
    simp only [allL, Bool.and_eq_true] at h
    rcases List.mem_cons.1 hx with rfl | hx
    · exact h.1
    · exact ih h.2 hx
set_option maxRecDepth 100000 in
set_option maxHeartbeats 2000000 in
theorem walk_ok (chk : S28 → Int) (hchk : ∀ r, chk r = 0 → ChkIs chk r) : ∀ (n : Nat) (x : S31) (d : Nat), depthX x ≤ n → d + depthX x ≤ 30 → nodesX x ≤ 4611686018427387904 → allB chk x = true → ∀ (v : Value) (w : World), Vw w x v → Start w →
    Calls Tryz.prog 64 #[v, .int .i64 d] w fun e w' => e = .returned (.tuple #[]) ∧ Below w.heap.size w w' := by
  intro n
  induction n with
  | zero => intro x d h; rw [depthX_eq] at h; omega
  | succ n ih =>
    intro x d hd hd2 hn hall v w hv hS
    rw [allB_eq, Bool.and_eq_true] at hall
    have hlook := fun w' (hb : Below w.heap.size w w') (v' : Value) (hv' : Vw w' x v') => look_ok chk hchk x hall.1 v' w' hv' (hS.below hb)
    obtain ⟨A, c, rfl, hc1, hc2⟩ := hv.out
    rw [depthX_eq] at hd hd2
    rw [nodesX_eq] at hn
    have hrec : ∀ (j : Nat) (hj : j < x.f4.length) v w', Below w.heap.size w w' → Vw w' x.f4[j] v → Calls Tryz.prog 64 #[v, .int .i64 (d + 1 : Nat)] w' fun e w'' => e = .returned (.tuple #[]) ∧ Below w'.heap.size w' w'' := by
      intro j hj v w' hb hv'
      have h1 := depthX_mem (List.getElem_mem hj)
      have h2 := nodesX_mem (List.getElem_mem hj)
      exact ih _ _ (by omega) (by omega) (by omega) (allL_mem hall.2 (List.getElem_mem hj)) v w' hv' (hS.below hb)
    have hlen := length_nodesL x.f4
    have hdl : decide (30 ≤ (d : Int)) = false := decide_eq_false (by omega)
    have hv0 := hv
    obtain ⟨f0, f1, f2, f3, xs⟩ := x
    simp only at *
    clear ih hv hall hS
    unfold exV at *
    simp only at *
    have HR := Lib.hid hrec
    have HL := Lib.hid hlook
    have HV := Lib.hid hv0
    have HC := Lib.hid hc2
    clear hrec hlook hv0 hc2
    go_enter Tryz.func64, Tryz.ntmps64
    go_wp2_with (go_at_call 67; refine (fail_no _ _).mono ?_; rintro e wq ⟨rfl, hq⟩; subst wq)
    refine (HL.out _ ((Below.refl _ w).alloc (Nat.le_refl _) _) _ (HV.out.below ((Below.refl _ w).alloc (Nat.le_refl _) _))).mono ?_
    rintro e w1 ⟨rfl, hb1⟩
    have hx1 := bcell hb1 (blk_new w (.cells #[.int .i64 f0, .string f1.f0, .string f1.f1, .string f2, .int .i64 f3, .slice A xs.length c] 31))
    obtain ⟨⟨q0, q1, q2, q3, q4, q5⟩, _, xl⟩ := cells6 hx1
    have hbw : Below w.heap.size w w1 := ((Below.refl _ w).alloc (Nat.le_refl _) _).trans (hb1.mono (by simp))
    clear hx1 hb1
    go_wp2
    go_loopg [14] xs.length (fun k i wr => ∃ j : Nat, j + k = xs.length ∧ i = .int .i64 j ∧ Below w.heap.size w wr)
    case atStart => exact ⟨0, by omega, rfl, hbw⟩
    case round =>
      clear hbw q0 q1 q2 q3 q4 q5 xl
      obtain ⟨j, hj, rfl, hat⟩ := hrel
      by_cases hjl : j < xs.length
      · obtain ⟨ad, A5, c5, rfl, q0, q1, q2, q3, q4, q5, hvw⟩ := arg_cells (Kd.C_below HC.out hat) j hjl
        have hr := HR.out j hjl
        generalize xs[j] = y at *
        have Hvw := Lib.hid hvw
        clear hvw
        have hd1 : ((d + 1 : Nat) : Int) = (d : Int) + 1 := by omega
        rw [hd1] at hr
        go_wp2_with fail
        refine (hr _ _ (hat.alloc hat.size _) (Hvw.out.below ((Below.refl _ _).alloc (Nat.le_refl _) _))).mono ?_
        rintro e w2 ⟨rfl, hb2⟩
        have hat2 : Below w.heap.size w w2 := (hat.alloc hat.size _).trans (hb2.mono (by simp; have := hat.size; omega))
        clear hr
        go_wp2
        go_roundg (gk - 1)
        case measure => omega
        case rel => exact ⟨j + 1, round_next hj hjl, by go_num, hat2⟩
      · obtain rfl : j = xs.length := by omega
        go_wp2
        exact bodyPost_end (results_none rfl _ _ _) rfl ⟨rfl, hat⟩
end Go.Proofs.YtjaobihcdkjmbaaGreatDoor
end
section
namespace Go.Proofs.YtjaobihcdkjmbaaGreatDoor
open Go.RowKit Go.Proofs.YtjaobihcdkjmbaaGreatDoorW.PrintWords Go.Proofs.YtjaobihcdkjmbaaGreatDoor.PReadTokens
set_option maxHeartbeats 1000000 in
theorem caught_nil (w : World) : Calls Tryz.prog 63 #[.nilIface] w fun e w' => e = .returned (.int .i64 0) ∧ w' = w := by
  have hta := asNil_134
  go_enter Tryz.func63, Tryz.ntmps63
  go_wp2
  go_ret
  exact ⟨rfl, rfl⟩
set_option maxHeartbeats 1000000 in
theorem catch62_idle (p : Nat) (old : Value) (w : World) (hp : w.heap[p]? = some (.cells #[old] 36 (0, 0))) :
    CallsD Tryz.prog 62 #[.pointer (some ⟨p, 0, none⟩)] .returning w fun e u' w' => e = .returned (.tuple #[]) ∧ u' = .returning ∧ w' = w.setCell ⟨p, 0, none⟩ (.int .i64 0) := by
  have hta := caught_nil w
  have f0 := blk_frozen hp 0
  have c0 := blk_cell hp 0
  refine callsD_of_wpS Tryz.func62 rfl fun c₀ cs hu => ?_
  apply wpS_region
  simp [wpOpsS, go_sem, recoverD, hu, Tryz.ntmps62, Exit.thenS]
  refine hta.mono ?_
  rintro e w' ⟨rfl, hw⟩
  subst w'
  simp [go_sem, c0, f0, Oper.upon, Result.andThen]
  cases c₀
  simp_all [bodyPostS, results, Tryz.results62]
set_option maxRecDepth 100000 in
set_option maxHeartbeats 2000000 in
theorem CheckExpr_ok (chk : S28 → Int) (hchk : ∀ r, chk r = 0 → ChkIs chk r) (x : S31) (hd : depthX x ≤ 30) (hn : nodesX x ≤ 4611686018427387904) (hall : allB chk x = true) (v : Value) (w : World) (hv : Vw w x v) (hS : Start w) :
    Calls Tryz.prog 27 #[v] w fun e w' => e = .returned (.int .i64 0) ∧ Below w.heap.size w w' := by
  obtain ⟨A, c, rfl, hc1, hc2⟩ := hv.out
  have hmf : ∀ (fn : Fn) (first cap : Array Value) (w : World), (Instr.makeFunc fn first cap).run Tryz.prog w = .ok (.func fn first cap) w := fun _ _ _ _ => rfl
  have hb0 : ∀ o, Below w.heap.size w ((w.alloc o).alloc (.cells #[.int .i64 0] 36)) := fun o => ((Below.refl _ w).alloc (Nat.le_refl _) _).alloc (by simp) _
  have hw := fun w' (hb : Below w.heap.size w w') => walk_ok chk hchk _ x 0 (Nat.le_refl _) (by omega) hn hall _ w' (hv.below hb) (hS.below hb)
  have hr0 : ∀ o, ((w.alloc o).alloc (.cells #[.int .i64 0] 36)).heap[w.heap.size + 1]? = some (.cells #[.int .i64 0] 36 (0, 0)) := fun o => by have := blk_new (w.alloc o) (.cells #[.int .i64 0] 36); rwa [World.size_alloc] at this
  obtain ⟨f0, f1, f2, f3, xs⟩ := x
  simp only at *
  unfold exV at *
  simp only at *
  have HW := Lib.hid hw
  clear hw hv hS hc2 hall
  go_enter_defers Tryz.func27, Tryz.ntmps27
  go_wp2_with fail
  refine (HW.out _ (hb0 _)).mono ?_
  rintro e w1 ⟨rfl, hb1⟩
  have hr1 := bcell hb1 (hr0 _)
  have hbw := (hb0 (.cells #[.int .i64 f0, .string f1.f0, .string f1.f1, .string f2, .int .i64 f3, .slice A xs.length c] 31)).trans (hb1.mono (by simp; omega))
  have c1 := blk_cell hr1 0
  have f1' := blk_frozen hr1 0
  go_wp2
  have hr2 := blk_set hr1 0 (.int .i64 0)
  have hbw2 := hbw.setCell (p := ⟨w.heap.size + 1, 0, none⟩) (by simp) (.int .i64 0)
  generalize w1.setCell ⟨w.heap.size + 1, 0, none⟩ (.int .i64 0) = w2 at *
  refine leaves_cons (f := 62) (args := #[.pointer (some ⟨w.heap.size + 1, 0, none⟩)]) (by simp) (by simp [go_sem]) ?_
  refine (catch62_idle (w.heap.size + 1) (.int .i64 0) w2 hr2).mono ?_
  rintro e u w3 ⟨rfl, rfl, hw3⟩
  have c4 : w3.cell? ⟨w.heap.size + 1, 0, none⟩ = some (.int .i64 0) := by rw [hw3]; exact blk_cell (blk_set hr2 0 (.int .i64 0)) 0
  have hfin : Below w.heap.size w w3 := by rw [hw3]; exact hbw2.setCell (p := ⟨w.heap.size + 1, 0, none⟩) (by simp) _
  simp [Leaves, settle, results, Tryz.results27, go_sem, c4, hfin]
end Go.Proofs.YtjaobihcdkjmbaaGreatDoor
end
section
namespace Go.Proofs.YtjaobihcdkjmbaaGreatDoor
open Go.RowKit Go.Proofs.YtjaobihcdkjmbaaGreatDoorW.PrintWords Go.Proofs.YtjaobihcdkjmbaaGreatDoor.PReadTokens
def kindT (op : Int) : TypeId := if op = 13 ∨ op = 12 ∨ op = 10 ∨ op = 11 then 150 else if op = 3 ∨ op = 4 ∨ op = 5 ∨ op = 6 then 152 else if op = 2 then 154 else if op = 7 ∨ op = 9 then 155 else 156
set_option maxRecDepth 100000 in
set_option maxHeartbeats 4000000 in
theorem kindOf_calls (x : S31) (A : Option Addr) (n c : Nat) (w : World) : Calls Tryz.prog 96 #[exV x (.slice A n c)] w fun e w' => e = .returned (.iface (kindT x.f0) (exV x (.slice A n c))) ∧ Below w.heap.size w w' := by
  obtain ⟨op, num, name, size, xs⟩ := x
  unfold exV
  simp only
  by_cases h : op = 13 ∨ op = 12 ∨ op = 10 ∨ op = 11 ∨ op = 3 ∨ op = 4 ∨ op = 5 ∨ op = 6 ∨ op = 2 ∨ op = 7 ∨ op = 9
  · rcases h with rfl | rfl | rfl | rfl | rfl | rfl | rfl | rfl | rfl | rfl | rfl
    all_goals
      go_enter Tryz.func96, Tryz.ntmps96
      go_wp2
      go_ret
      exact ⟨rfl, (Below.refl _ w).alloc (Nat.le_refl _) _⟩
  · have e : kindT op = 156 := by unfold kindT; rw [if_neg (by omega), if_neg (by omega), if_neg (by omega), if_neg (by omega)]
    rw [e]
    have h2 := beq_no (a := op) (b := 2) (by omega)
    have h3 := beq_no (a := op) (b := 3) (by omega)
    have h4 := beq_no (a := op) (b := 4) (by omega)
    have h5 := beq_no (a := op) (b := 5) (by omega)
    have h6 := beq_no (a := op) (b := 6) (by omega)
    have h7 := beq_no (a := op) (b := 7) (by omega)
    have h9 := beq_no (a := op) (b := 9) (by omega)
    have h10 := beq_no (a := op) (b := 10) (by omega)
    have h11 := beq_no (a := op) (b := 11) (by omega)
    have h12 := beq_no (a := op) (b := 12) (by omega)
    have h13 := beq_no (a := op) (b := 13) (by omega)
    clear e h
    go_enter Tryz.func96, Tryz.ntmps96
    go_wp2
    go_ret
    exact ⟨rfl, (Below.refl _ w).alloc (Nat.le_refl _) _⟩
end Go.Proofs.YtjaobihcdkjmbaaGreatDoor
end
section
namespace Go.Proofs.YtjaobihcdkjmbaaGreatDoor
open Go.RowKit Go.Proofs.YtjaobihcdkjmbaaGreatDoorW.PrintWords Go.Proofs.YtjaobihcdkjmbaaGreatDoor.PReadTokens
def cat (xs : List ByteArray) : ByteArray := ⟨(Lib.join (xs.map (·.data.toList)) []).toArray⟩
theorem cat_data (xs : List ByteArray) : (cat xs).data.toList = (xs.map (·.data.toList)).flatten := by
  show (Lib.join (xs.map (·.data.toList)) []) = _
  unfold Lib.join
  generalize xs.map (·.data.toList) = l
  induction l with
  | nil => rfl
  | cons a l ih =>
    cases l with
    | nil => simp [List.intercalate]
    | cons b l => rw [List.intercalate_cons_cons]; simp [ih]
set_option maxHeartbeats 1000000 in
theorem joined_calls (bk : Nat) (xs : List ByteArray) (t : TypeId) (w : World) (hb : w.heap[bk]? = some (.cells (xs.map Value.string).toArray t (0, 0))) (hN : xs.length ≤ 140737488355328) (hlen : (cat xs).size ≤ 140737488355328) :
    Calls Tryz.prog 98 #[.slice (some ⟨bk, 0, none⟩) xs.length xs.length] w fun e w' => e = .returned (.string (cat xs)) ∧ Below w.heap.size w w' := by
  have hj := Tryz.strings_Join bk 0 xs.length xs ⟨#[]⟩ w (fun j x hx => by
    have h1 := blk_cell hb j
    rw [Nat.zero_add]
    refine h1.trans ?_
    simp [hx]) (blk_lt hb) hN (Nat.le_refl _) hlen
  go_enter Tryz.func98, Tryz.ntmps98
  go_wp2_with (go_at_call 137; refine hj.mono ?_; rintro e w1 ⟨rfl, hb1⟩)
  go_ret
  exact ⟨rfl, hb1⟩
abbrev zE : Value := .agg #[.int .i64 0, .string ⟨#[]⟩, .string ⟨#[]⟩, .string ⟨#[]⟩, .int .i64 0, .slice none 0 0]
theorem ta152_150 (v : Value) (w : World) : (Instr.typeAssert (.iface 152 v) 147 150 true).run Tryz.prog w = .ok (.tuple #[zE, .bool false]) w := by kernel_rfl
theorem ta152_152 (v : Value) (w : World) : (Instr.typeAssert (.iface 152 v) 147 152 true).run Tryz.prog w = .ok (.tuple #[v, .bool true]) w := by kernel_rfl
theorem ta154_150 (v : Value) (w : World) : (Instr.typeAssert (.iface 154 v) 147 150 true).run Tryz.prog w = .ok (.tuple #[zE, .bool false]) w := by kernel_rfl
theorem ta154_152 (v : Value) (w : World) : (Instr.typeAssert (.iface 154 v) 147 152 true).run Tryz.prog w = .ok (.tuple #[zE, .bool false]) w := by kernel_rfl
theorem ta154_154 (v : Value) (w : World) : (Instr.typeAssert (.iface 154 v) 147 154 true).run Tryz.prog w = .ok (.tuple #[v, .bool true]) w := by kernel_rfl
theorem ta155_150 (v : Value) (w : World) : (Instr.typeAssert (.iface 155 v) 147 150 true).run Tryz.prog w = .ok (.tuple #[zE, .bool false]) w := by kernel_rfl
theorem ta155_152 (v : Value) (w : World) : (Instr.typeAssert (.iface 155 v) 147 152 true).run Tryz.prog w = .ok (.tuple #[zE, .bool false]) w := by kernel_rfl
theorem ta155_154 (v : Value) (w : World) : (Instr.typeAssert (.iface 155 v) 147 154 true).run Tryz.prog w = .ok (.tuple #[zE, .bool false]) w := by kernel_rfl
theorem ta155_155 (v : Value) (w : World) : (Instr.typeAssert (.iface 155 v) 147 155 true).run Tryz.prog w = .ok (.tuple #[v, .bool true]) w := by kernel_rfl
theorem ta156_150 (v : Value) (w : World) : (Instr.typeAssert (.iface 156 v) 147 150 true).run Tryz.prog w = .ok (.tuple #[zE, .bool false]) w := by kernel_rfl
theorem ta156_152 (v : Value) (w : World) : (Instr.typeAssert (.iface 156 v) 147 152 true).run Tryz.prog w = .ok (.tuple #[zE, .bool false]) w := by kernel_rfl
theorem ta156_154 (v : Value) (w : World) : (Instr.typeAssert (.iface 156 v) 147 154 true).run Tryz.prog w = .ok (.tuple #[zE, .bool false]) w := by kernel_rfl
theorem ta156_155 (v : Value) (w : World) : (Instr.typeAssert (.iface 156 v) 147 155 true).run Tryz.prog w = .ok (.tuple #[zE, .bool false]) w := by kernel_rfl
theorem ta156_156 (v : Value) (w : World) : (Instr.typeAssert (.iface 156 v) 147 156 true).run Tryz.prog w = .ok (.tuple #[v, .bool true]) w := by kernel_rfl
open Go.Lib in
theorem tab_below {w w' : World} {name : String} {k : IntKind} {zs : List Int} (h : TabIs Tryz.prog w name k zs) (hb : Below w.heap.size w w') : TabIs Tryz.prog w' name k zs := by
  unfold TabIs World.var? at *
  cases hg : Tryz.prog.globalNamed name with
  | none => simp [hg] at h
  | some g =>
    simp only [hg, Option.bind_some] at h ⊢
    have hlt : g < w.heap.size := by
      rcases Nat.lt_or_ge g w.heap.size with h' | h'
      · exact h'
      · rw [Array.getElem?_eq_none h'] at h; simp at h
    rw [hb.block g hlt]
    exact h
theorem below_growN (w : World) (k : Nat) (os : Array Obj) : Below w.heap.size w (Go.Sort.grow (w.drewN k) os) := by
  have h1 : Below w.heap.size w (w.drewN k) := pw_below_drewN (Below.refl _ w) k
  have h2 : Below w.heap.size (w.drewN k) (Go.Sort.grow (w.drewN k) os) := ⟨rfl, rfl, rfl, by rw [Go.Sort.size_grow]; omega, fun j hj => Go.Sort.heap_grow_old _ _ (by have := h1.size; omega)⟩
  exact h1.trans h2
def Tab (w : World) : Prop := Lib.TabIs Tryz.prog w "internal/strconv.uint64pow10" .u64 Lib.pow10Tab
theorem Tab.below {w w' : World} (h : Tab w) (hb : Below w.heap.size w w') : Tab w' := tab_below h hb
theorem itoa_calls (n : Int) (h0 : -9223372036854775808 ≤ n) (h1 : n ≤ 9223372036854775807) (w : World) (h : Tab w) :
    Calls Tryz.prog 100 #[.int .i64 n] w fun e w' => e = .returned (.string ⟨(Lib.itoa n).toArray⟩) ∧ Below w.heap.size w w' :=
  (Tryz.strconv_Itoa n h0 h1 w h).mono fun _ _ ⟨he, k, os, hw⟩ => ⟨he, by subst hw; exact below_growN _ _ _⟩
def levelX (x : S31) : Int :=
  if x.f0 = 13 ∨ x.f0 = 12 ∨ x.f0 = 10 ∨ x.f0 = 11 then 0 else if x.f0 = 3 ∨ x.f0 = 4 then 1 else if x.f0 = 5 ∨ x.f0 = 6 then 2 else if x.f0 = 2 then 1 else if x.f0 = 7 then 3 else if x.f0 = 9 then 4 else 5
def wrapB (t : ByteArray) (lv least : Int) : ByteArray := if lv < least then cat [⟨#[40]⟩, t, ⟨#[41]⟩] else t
theorem wrapB_yes {t : ByteArray} {lv least : Int} (h : lv < least) : wrapB t lv least = cat [⟨#[40]⟩, t, ⟨#[41]⟩] := if_pos h
theorem wrapB_no {t : ByteArray} {lv least : Int} (h : ¬ lv < least) : wrapB t lv least = t := if_neg h
theorem cat_size (xs : List ByteArray) : (cat xs).size = (xs.map (·.size)).sum := by
  show (cat xs).data.toList.length = _
  rw [cat_data, List.length_flatten, List.map_map]
  rfl
def argT (ts : List (ByteArray × Int)) (i : Nat) (least : Int) : ByteArray := wrapB (ts.getD i (⟨#[]⟩, 0)).1 (ts.getD i (⟨#[]⟩, 0)).2 least
def signOf (op : Int) : UInt8 := if op = 3 then 43 else if op = 4 then 45 else if op = 5 then 42 else 47
def openOf (op : Int) (num : S28) (name : ByteArray) (size : Int) (ts : List (ByteArray × Int)) : ByteArray :=
  if op = 2 then cat [⟨#[45]⟩, argT ts 0 2]
  else if op = 3 ∨ op = 4 then cat [argT ts 0 1, ⟨#[32]⟩, ⟨#[signOf op]⟩, ⟨#[32]⟩, argT ts 1 2]
  else if op = 5 ∨ op = 6 then cat [argT ts 0 2, ⟨#[32]⟩, ⟨#[signOf op]⟩, ⟨#[32]⟩, argT ts 1 3]
  else if op = 7 then cat [argT ts 0 4, ⟨#[94]⟩, ⟨(Lib.itoa size).toArray⟩]
  else if op = 9 then cat [argT ts 0 4, ⟨#[91]⟩, argT ts 1 0, ⟨#[93]⟩]
  else if op = 1 then name
  else ⟨#[]⟩
mutual
def openX : S31 → ByteArray
  | ⟨op, num, name, size, l⟩ => openOf op num name size (argsX l)
def argsX : List S31 → List (ByteArray × Int)
  | [] => []
  | x :: l => (openX x, levelX x) :: argsX l
end
def textX (x : S31) (least : Int) : ByteArray := wrapB (openX x) (levelX x) least
theorem m152 (v : Value) (w : World) : (method 467 152 v "metewand/read.level").run Tryz.prog w = .ok (99, v) w := by kernel_rfl
theorem m154 (v : Value) (w : World) : (method 467 154 v "metewand/read.level").run Tryz.prog w = .ok (310, v) w := by kernel_rfl
theorem m155 (v : Value) (w : World) : (method 467 155 v "metewand/read.level").run Tryz.prog w = .ok (311, v) w := by kernel_rfl
theorem m156 (v : Value) (w : World) : (method 467 156 v "metewand/read.level").run Tryz.prog w = .ok (312, v) w := by kernel_rfl
set_option maxHeartbeats 1000000 in
theorem lev154 (a b c d e f : Value) (w : World) : Calls Tryz.prog 310 #[.agg #[a, b, c, d, e, f]] w fun en w' => en = .returned (.int .i64 1) ∧ Below w.heap.size w w' := by
  go_enter Tryz.func310, Tryz.ntmps310
  go_wp2
  go_ret
  exact ⟨rfl, (Below.refl _ w).alloc (Nat.le_refl _) _⟩
set_option maxHeartbeats 1000000 in
theorem lev156 (a b c d e f : Value) (w : World) : Calls Tryz.prog 312 #[.agg #[a, b, c, d, e, f]] w fun en w' => en = .returned (.int .i64 5) ∧ Below w.heap.size w w' := by
  go_enter Tryz.func312, Tryz.ntmps312
  go_wp2
  go_ret
  exact ⟨rfl, (Below.refl _ w).alloc (Nat.le_refl _) _⟩
set_option maxHeartbeats 1000000 in
theorem lev155 (op : Int) (hop : op = 7 ∨ op = 9) (b c d e f : Value) (w : World) : Calls Tryz.prog 311 #[.agg #[.int .i64 op, b, c, d, e, f]] w fun en w' => en = .returned (.int .i64 (if op = 7 then 3 else 4)) ∧ Below w.heap.size w w' := by
  rcases hop with rfl | rfl
  all_goals
    go_enter Tryz.func311, Tryz.ntmps311
    go_wp2
    go_ret
    exact ⟨rfl, (Below.refl _ w).alloc (Nat.le_refl _) _⟩
set_option maxHeartbeats 1000000 in
theorem lev152 (op : Int) (hop : op = 3 ∨ op = 4 ∨ op = 5 ∨ op = 6) (b c d e f : Value) (w : World) : Calls Tryz.prog 99 #[.agg #[.int .i64 op, b, c, d, e, f]] w fun en w' => en = .returned (.int .i64 (if op = 3 ∨ op = 4 then 1 else 2)) ∧ Below w.heap.size w w' := by
  rcases hop with rfl | rfl | rfl | rfl
  all_goals
    go_enter Tryz.func99, Tryz.ntmps99
    go_wp2
    go_ret
    exact ⟨rfl, (Below.refl _ w).alloc (Nat.le_refl _) _⟩
set_option maxRecDepth 100000 in
set_option maxHeartbeats 4000000 in
theorem text_ahead (x y : S31) (hop : x.f0 = 2) (hxs : x.f4 = [y]) (least : Int) (v : Value) (w : World) (hv : Vw w x v) (hsz : (openX x).size ≤ 1000000)
    (hrec : ∀ v w' ls, Vw w' y v → Below w.heap.size w w' → Calls Tryz.prog 58 #[v, .int .i64 ls] w' fun e w'' => e = .returned (.string (textX y ls)) ∧ Below w'.heap.size w' w'') :
    Calls Tryz.prog 58 #[v, .int .i64 least] w fun e w' => e = .returned (.string (textX x least)) ∧ Below w.heap.size w w' := by
  obtain ⟨A, c, rfl, hc1, hc2⟩ := hv.out
  obtain ⟨op, num, name, size, xs⟩ := x
  simp only at hop hxs
  subst hop hxs
  obtain ⟨r, hr⟩ : ∃ r, r = openX ⟨2, num, name, size, [y]⟩ := ⟨_, rfl⟩
  obtain ⟨R, hR⟩ : ∃ R, R = textX ⟨2, num, name, size, [y]⟩ least := ⟨_, rfl⟩
  have hR2 : R = wrapB r 1 least := by rw [hR, hr]; rfl
  rw [← hR]
  rw [← hr] at hsz
  have HR2 := Lib.hid hR2
  have hcat : r = cat [⟨#[45]⟩, textX y 2] := hr
  have HCAT := Lib.hid hcat
  clear hR hR2 hr hcat
  have hk := kindOf_calls ⟨2, num, name, size, [y]⟩ A 1 c
  unfold exV at *
  simp only at *
  have t1 := ta154_150
  have t2 := ta154_152
  have t3 := ta154_154
  have HK := Lib.hid hk
  have HR := Lib.hid hrec
  have HC := Lib.hid hc2
  have HV := Lib.hid hv
  clear hk hrec hc2 hv
  go_enter Tryz.func58, Tryz.ntmps58
  go_wp2_with fail
  refine (HK.out _).mono ?_
  rintro e w1 ⟨rfl, hb1⟩
  have hk2 : kindT (S31.mk 2 num name size [y]).f0 = 154 := rfl
  rw [hk2]
  have hbw := ((Below.refl _ w).alloc (Nat.le_refl _) (.cells #[.int .i64 2, .string num.f0, .string num.f1, .string name, .int .i64 size, .slice A 1 c] 31)).trans (hb1.mono (by simp))
  have hbw2 := hbw.alloc hbw.size (.cells #[.int .i64 2, .string num.f0, .string num.f1, .string name, .int .i64 size, .slice A 1 c] 154)
  obtain ⟨ad, A5, c5, rfl, q0, q1, q2, q3, q4, q5, hvw⟩ := arg_cells (xs := [y]) (Kd.C_below HC.out hbw2) 0 (by simp)
  simp only [List.getElem_cons_zero, Nat.zero_mul, Addr.add_zero'] at q0 q1 q2 q3 q4 q5 hvw
  go_wp2_with fail
  refine (HR.out _ _ _ hvw hbw2).mono ?_
  rintro e w2 ⟨rfl, hb2⟩
  go_wp2_with fail
  rw [HCAT.out] at hsz
  have hj := joined_calls w2.heap.size [⟨#[45]⟩, textX y 2] 9 _ (blk_new w2 _) (by simp) (by omega)
  simp only [List.length_cons, List.length_nil] at hj
  refine hj.mono ?_
  rintro e w3 ⟨rfl, hb3⟩
  rw [← HCAT.out]
  have hm := m154
  have hbx := hbw2.trans (hb2.mono hbw2.size)
  have hbw3 := (hbx.alloc hbx.size (.cells #[.string ⟨#[45]⟩, .string (textX y 2)] 9)).trans (hb3.mono (by simp; have := hbx.size; omega))
  have HL := Lib.hid (fun a b c d e f w' => lev154 a b c d e f w')
  have HB := Lib.hid hbw3
  clear hj hb1 hb2 hb3 HV HC HR HK t1 t2 t3 q0 q1 q2 q3 q4 q5 hvw hbw hbw2 hbx hbw3
  have hrs : (cat [⟨#[40]⟩, r, ⟨#[41]⟩]).size ≤ 1000002 := by
    rw [← HCAT.out] at hsz
    rw [cat_size]
    simp
    have e1 : (⟨#[40]⟩ : ByteArray).size = 1 := rfl
    have e2 : (⟨#[41]⟩ : ByteArray).size = 1 := rfl
    omega
  have HS := Lib.hid hrs
  clear hrs hsz
  cases hl' : decide (1 < least)
  · have hl := Lib.hid (of_decide_eq_false hl')
    go_wp2_with (go_at_call 310; refine (HL.out _ _ _ _ _ _ _).mono ?_; rintro e w4 ⟨rfl, hb4⟩)
    go_ret
    exact ⟨by rw [HR2.out, wrapB_no (by have := hl.out; omega)]; rfl, HB.out.trans (hb4.mono HB.out.size)⟩
  · have hl := Lib.hid (of_decide_eq_true hl')
    go_wp2_with (go_at_call 310; refine (HL.out _ _ _ _ _ _ _).mono ?_; rintro e w4 ⟨rfl, hb4⟩)
    have hj := joined_calls w4.heap.size [⟨#[40]⟩, r, ⟨#[41]⟩] 9 _ (blk_new w4 _) (by simp) (Nat.le_trans HS.out (by omega))
    simp only [List.length_cons, List.length_nil] at hj
    refine hj.mono ?_
    rintro e w5 ⟨rfl, hb5⟩
    go_wp2
    go_ret
    have h4 := HB.out.trans (hb4.mono HB.out.size)
    exact ⟨by rw [HR2.out, wrapB_yes (by have := hl.out; omega)]; rfl, (h4.alloc h4.size (.cells #[.string ⟨#[40]⟩, .string r, .string ⟨#[41]⟩] 9)).trans (hb5.mono (by simp; have := h4.size; omega))⟩
end Go.Proofs.YtjaobihcdkjmbaaGreatDoor
end
section
namespace Go.Proofs.YtjaobihcdkjmbaaGreatDoor
open Go.RowKit Go.Proofs.YtjaobihcdkjmbaaGreatDoorW.PrintWords Go.Proofs.YtjaobihcdkjmbaaGreatDoor.PReadTokens
set_option maxRecDepth 100000 in
set_option maxHeartbeats 1000000 in
theorem single_ref (b d name : ByteArray) (f : Int) (g : Value) (w : World) :
    Calls Tryz.prog 101 #[.agg #[.int .i64 1, .string b, .string d, .string name, .int .i64 f, g]] w fun e w' => e = .returned (.string name) ∧ Below w.heap.size w w' := by
  go_enter Tryz.func101, Tryz.ntmps101
  go_wp2
  go_ret
  exact ⟨rfl, (Below.refl _ w).alloc (Nat.le_refl _) _⟩
set_option maxRecDepth 100000 in
set_option maxHeartbeats 4000000 in
theorem text_ref (x : S31) (hop : x.f0 = 1) (hxs : x.f4 = []) (least : Int) (v : Value) (w : World) (hv : Vw w x v) (hsz : (openX x).size ≤ 1000000) :
    Calls Tryz.prog 58 #[v, .int .i64 least] w fun e w' => e = .returned (.string (textX x least)) ∧ Below w.heap.size w w' := by
  obtain ⟨A, c, rfl, hc1, hc2⟩ := hv.out
  obtain ⟨op, num, name, size, xs⟩ := x
  simp only at *
  subst hop hxs
  obtain ⟨r, hr⟩ : ∃ r, r = openX ⟨1, num, name, size, []⟩ := ⟨_, rfl⟩
  obtain ⟨R, hR⟩ : ∃ R, R = textX ⟨1, num, name, size, []⟩ least := ⟨_, rfl⟩
  have hR2 : R = wrapB r 5 least := by rw [hR, hr]; rfl
  rw [← hR]
  rw [← hr] at hsz
  have HR2 := Lib.hid hR2
  have hcat : r = name := hr
  have HCAT := Lib.hid hcat
  have HSZ := Lib.hid hsz
  clear hR hR2 hr hcat hsz
  have hk := kindOf_calls ⟨1, num, name, size, []⟩ A 0 c
  unfold exV at *
  simp only [List.length_cons, List.length_nil, Nat.zero_add, Nat.reduceAdd] at *
  have t0 := ta156_150
  have t1 := ta156_152
  have t2 := ta156_154
  have t3 := ta156_155
  have t4 := ta156_156
  have HK := Lib.hid hk
  have HC := Lib.hid hc2
  have HV := Lib.hid hv
  clear hk hc2 hv
  go_enter Tryz.func58, Tryz.ntmps58
  go_wp2_with fail
  refine (HK.out _).mono ?_
  rintro e w1 ⟨rfl, hb1⟩
  have hk2 : kindT (S31.mk 1 num name size []).f0 = 156 := rfl
  rw [hk2]
  have hbw := ((Below.refl _ w).alloc (Nat.le_refl _) (.cells #[.int .i64 1, .string num.f0, .string num.f1, .string name, .int .i64 size, .slice A 0 c] 31)).trans (hb1.mono (by simp))
  have hbw2 := hbw.alloc hbw.size (.cells #[.int .i64 1, .string num.f0, .string num.f1, .string name, .int .i64 size, .slice A 0 c] 156)
  obtain rfl : r = name := HCAT.out
  have HT := Lib.hid (fun b d f g w' => single_ref b d r f g w')
  clear HV HC HK
  go_wp2_with (go_at_call 101; refine (HT.out _ _ _ _ _).mono ?_; rintro e w3 ⟨rfl, hb3⟩)
  have hbw3 := hbw2.trans (hb3.mono hbw2.size)
  have HL := Lib.hid (fun a b c d e f w' => lev156 a b c d e f w')
  clear hb1 hb3 hbw hbw2 HCAT HT t0 t1 t2 t3 t4
  have hm := m156
  have HB := Lib.hid hbw3
  have hrs : (cat [⟨#[40]⟩, r, ⟨#[41]⟩]).size ≤ 1000002 := by
    have hsz := HSZ.out
    rw [cat_size]
    simp
    have e1 : (⟨#[40]⟩ : ByteArray).size = 1 := rfl
    have e2 : (⟨#[41]⟩ : ByteArray).size = 1 := rfl
    omega
  have HS := Lib.hid hrs
  clear hrs
  cases hl' : decide (5 < least)
  · have hl := Lib.hid (of_decide_eq_false hl')
    go_wp2_with (go_at_call 312; refine (HL.out _ _ _ _ _ _ _).mono ?_; rintro e w4 ⟨rfl, hb4⟩)
    go_ret
    exact ⟨by rw [HR2.out, wrapB_no (by have := hl.out; omega)]; rfl, HB.out.trans (hb4.mono HB.out.size)⟩
  · have hl := Lib.hid (of_decide_eq_true hl')
    go_wp2_with fail
    refine (HL.out _ _ _ _ _ _ _).mono ?_
    rintro e w4 ⟨rfl, hb4⟩
    go_wp2_with fail
    have hj := joined_calls w4.heap.size [⟨#[40]⟩, r, ⟨#[41]⟩] 9 _ (blk_new w4 _) (by simp) (Nat.le_trans HS.out (by omega))
    simp only [List.length_cons, List.length_nil] at hj
    refine hj.mono ?_
    rintro e w5 ⟨rfl, hb5⟩
    go_wp2
    go_ret
    have h4 := HB.out.trans (hb4.mono HB.out.size)
    exact ⟨by rw [HR2.out, wrapB_yes (by have := hl.out; omega)]; rfl, (h4.alloc h4.size (.cells #[.string ⟨#[40]⟩, .string r, .string ⟨#[41]⟩] 9)).trans (hb5.mono (by simp; have := h4.size; omega))⟩
set_option maxRecDepth 100000 in
set_option maxHeartbeats 4000000 in
theorem text_pow (x y : S31) (hop : x.f0 = 7) (hxs : x.f4 = [y]) (hs0 : -9223372036854775808 ≤ x.f3) (hs1 : x.f3 ≤ 9223372036854775807) (least : Int) (v : Value) (w : World) (hv : Vw w x v) (hsz : (openX x).size ≤ 1000000) (htab : Tab w)
    (hrec : ∀ v w' ls, Vw w' y v → Below w.heap.size w w' → Calls Tryz.prog 58 #[v, .int .i64 ls] w' fun e w'' => e = .returned (.string (textX y ls)) ∧ Below w'.heap.size w' w'') :
    Calls Tryz.prog 58 #[v, .int .i64 least] w fun e w' => e = .returned (.string (textX x least)) ∧ Below w.heap.size w w' := by
  obtain ⟨A, c, rfl, hc1, hc2⟩ := hv.out
  obtain ⟨op, num, name, size, xs⟩ := x
  simp only at *
  subst hop hxs
  obtain ⟨r, hr⟩ : ∃ r, r = openX ⟨7, num, name, size, [y]⟩ := ⟨_, rfl⟩
  obtain ⟨R, hR⟩ : ∃ R, R = textX ⟨7, num, name, size, [y]⟩ least := ⟨_, rfl⟩
  have hR2 : R = wrapB r 3 least := by rw [hR, hr]; rfl
  rw [← hR]
  rw [← hr] at hsz
  have HR2 := Lib.hid hR2
  have hcat : r = cat [textX y 4, ⟨#[94]⟩, ⟨(Lib.itoa size).toArray⟩] := hr
  have HCAT := Lib.hid hcat
  have HSZ := Lib.hid hsz
  clear hR hR2 hr hcat hsz
  have hk := kindOf_calls ⟨7, num, name, size, [y]⟩ A 1 c
  unfold exV at *
  simp only [List.length_cons, List.length_nil, Nat.zero_add, Nat.reduceAdd] at *
  have t0 := ta155_150
  have t1 := ta155_152
  have t2 := ta155_154
  have t3 := ta155_155
  have HK := Lib.hid hk
  have HC := Lib.hid hc2
  have HV := Lib.hid hv
  clear hk hc2 hv
  have HR := Lib.hid hrec
  have HI := Lib.hid (fun w' (h : Tab w') => itoa_calls size hs0 hs1 w' h)
  have HT := Lib.hid htab
  clear hrec hs0 hs1 htab
  go_enter Tryz.func58, Tryz.ntmps58
  go_wp2_with fail
  refine (HK.out _).mono ?_
  rintro e w1 ⟨rfl, hb1⟩
  have hk2 : kindT (S31.mk 7 num name size [y]).f0 = 155 := rfl
  rw [hk2]
  have hbw := ((Below.refl _ w).alloc (Nat.le_refl _) (.cells #[.int .i64 7, .string num.f0, .string num.f1, .string name, .int .i64 size, .slice A 1 c] 31)).trans (hb1.mono (by simp))
  have hbw2 := hbw.alloc hbw.size (.cells #[.int .i64 7, .string num.f0, .string num.f1, .string name, .int .i64 size, .slice A 1 c] 155)
  obtain ⟨ad, A5, c5, rfl, q0, q1, q2, q3, q4, q5, hvw⟩ := arg_cells (xs := [y]) (Kd.C_below HC.out hbw2) 0 (by simp)
  simp only [List.getElem_cons_zero, Nat.zero_mul, Addr.add_zero'] at q0 q1 q2 q3 q4 q5 hvw
  have hbl := blk_new w1 (.cells #[.int .i64 7, .string num.f0, .string num.f1, .string name, .int .i64 size, .slice (some ad) 1 c] 155)
  go_wp2_with fail
  refine (HR.out _ _ _ hvw hbw2).mono ?_
  rintro e w2 ⟨rfl, hb2⟩
  have hx2 := bcell hb2 hbl
  obtain ⟨⟨p0, p1, p2, p3, p4, p5⟩, _, xl2⟩ := cells6 hx2
  have hbx := hbw2.trans (hb2.mono hbw2.size)
  go_wp2_with fail
  refine (HI.out _ (HT.out.below hbx)).mono ?_
  rintro e w6 ⟨rfl, hb6⟩
  have hby := hbx.trans (hb6.mono hbx.size)
  go_wp2_with fail
  have hj := joined_calls w6.heap.size [textX y 4, ⟨#[94]⟩, ⟨(Lib.itoa size).toArray⟩] 9 _ (blk_new w6 _) (by simp) (by rw [← HCAT.out]; have := HSZ.out; omega)
  simp only [List.length_cons, List.length_nil] at hj
  refine hj.mono ?_
  rintro e w3 ⟨rfl, hb3⟩
  rw [← HCAT.out]
  have hbw3 := (hby.alloc hby.size (.cells #[.string (textX y 4), .string ⟨#[94]⟩, .string ⟨(Lib.itoa size).toArray⟩] 9)).trans (hb3.mono (by simp; have := hby.size; omega))
  have HL := Lib.hid (fun b c d e f w' => lev155 7 (.inl rfl) b c d e f w')
  clear hj hb1 hb2 hb3 hb6 HV HC HR HK q0 q1 q2 q3 q4 q5 hvw hbw hbw2 hbx hby hbl hx2 p0 p1 p2 p3 p4 p5 xl2 HI HT
  have hm := m155
  have HB := Lib.hid hbw3
  have hrs : (cat [⟨#[40]⟩, r, ⟨#[41]⟩]).size ≤ 1000002 := by
    have hsz := HSZ.out
    rw [cat_size]
    simp
    have e1 : (⟨#[40]⟩ : ByteArray).size = 1 := rfl
    have e2 : (⟨#[41]⟩ : ByteArray).size = 1 := rfl
    omega
  have HS := Lib.hid hrs
  clear hrs
  cases hl' : decide (3 < least)
  · have hl := Lib.hid (of_decide_eq_false hl')
    go_wp2_with (go_at_call 311; refine (HL.out _ _ _ _ _ _).mono ?_; rintro e w4 ⟨rfl, hb4⟩)
    go_ret
    exact ⟨by rw [HR2.out, wrapB_no (by have := hl.out; omega)]; rfl, HB.out.trans (hb4.mono HB.out.size)⟩
  · have hl := Lib.hid (of_decide_eq_true hl')
    go_wp2_with fail
    refine (HL.out _ _ _ _ _ _).mono ?_
    rintro e w4 ⟨rfl, hb4⟩
    go_wp2_with fail
    have hj := joined_calls w4.heap.size [⟨#[40]⟩, r, ⟨#[41]⟩] 9 _ (blk_new w4 _) (by simp) (Nat.le_trans HS.out (by omega))
    simp only [List.length_cons, List.length_nil] at hj
    refine hj.mono ?_
    rintro e w5 ⟨rfl, hb5⟩
    go_wp2
    go_ret
    have h4 := HB.out.trans (hb4.mono HB.out.size)
    exact ⟨by rw [HR2.out, wrapB_yes (by have := hl.out; omega)]; rfl, (h4.alloc h4.size (.cells #[.string ⟨#[40]⟩, .string r, .string ⟨#[41]⟩] 9)).trans (hb5.mono (by simp; have := h4.size; omega))⟩
end Go.Proofs.YtjaobihcdkjmbaaGreatDoor
end
