/- A part of the proof that the law ReadTokens answers true for every input. -/
import Derived.Test.YtjaobihcdkjmbaaGreatDoorZ3
import Derived.Test.YtjaobihcdkjmbaaGreatDoorZ17
import Derived.Test.YtjaobihcdkjmbaaGreatDoorZ18
section
namespace Go.Proofs.YtjaobihcdkjmbaaGreatDoor.PReadTokens
open Go.RowKit Go.Proofs.YtjaobihcdkjmbaaGreatDoorW.PrintWords Go.Proofs.YtjaobihcdkjmbaaGreatDoorW.PrintLast Go.Proofs.YtjaobihcdkjmbaaGreatDoorW.PrintMore
attribute [local go_sem] max2_int min2_int max_two min_two max_three min_three max_four min_four   -- for this text's walks alone
set_option linter.unusedVariables false
set_option linter.unusedSimpArgs false
mutual
def metewandref13_token.j1 : Nat → ByteArray → Int → Int → Option (Int × ByteArray × Int × Int × Bool)
  | 0, _, _, _ => none
  | k + 1, x0, x1, x7 => if 0 ≤ x1 then (if x1 ≤ x7 then (if x7 ≤ (x0.size : Int) then ((metewandref13_Word.f (x0.extract (x1 : Int).toNat (x7 : Int).toNat)).bind fun t407 => (if t407 = true then (some (1, x0.extract (x1 : Int).toNat (x7 : Int).toNat, x1, x7, true)) else ((metewandref13_Name.f k (x0.extract (x1 : Int).toNat (x7 : Int).toNat)).bind fun t408 => (some (0, x0.extract (x1 : Int).toNat (x7 : Int).toNat, x1, x7, t408))))) else (none)) else (none)) else (none)
def metewandref13_token.l0 : Nat → ByteArray → Int → Int → Option (Int × ByteArray × Int × Int × Bool)
  | 0, _, _, _ => none
  | k + 1, x0, x1, x7 => if x7 < (x0.size : Int) then (if 0 ≤ x7 then ((metewandref13_small.f (bt x0 x7)).bind fun t404 => (if t404 = true then (metewandref13_token.l0 k x0 x1 (wrap64 (x7 + 1))) else ((metewandref13_digit.f (bt x0 x7)).bind fun t405 => (if t405 = true then (metewandref13_token.l0 k x0 x1 (wrap64 (x7 + 1))) else ((metewandref13_large.f (bt x0 x7)).bind fun t406 => (if t406 = true then (metewandref13_token.l0 k x0 x1 (wrap64 (x7 + 1))) else (metewandref13_token.j1 k x0 x1 x7))))))) else (none)) else (metewandref13_token.j1 k x0 x1 x7)
def metewandref13_token.l1 : Nat → ByteArray → Int → Int → Option (Int × ByteArray × Int × Int × Bool)
  | 0, _, _, _ => none
  | k + 1, x0, x1, x7 => if x7 < (x0.size : Int) then (if 0 ≤ x7 then ((metewandref13_digit.f (bt x0 x7)).bind fun t410 => (if t410 = true then (metewandref13_token.l1 k x0 x1 (wrap64 (x7 + 1))) else (if 0 ≤ x1 then (if x1 ≤ x7 then (if x7 ≤ (x0.size : Int) then (if ((x0.extract (x1 : Int).toNat (x7 : Int).toNat).size : Int) ≤ 400 then (if 0 < ((x0.extract (x1 : Int).toNat (x7 : Int).toNat).size : Int) then (if (bt (x0.extract (x1 : Int).toNat (x7 : Int).toNat) 0) = 48 then (some (2, x0.extract (x1 : Int).toNat (x7 : Int).toNat, x1, x7, (((x0.extract (x1 : Int).toNat (x7 : Int).toNat).size : Int) == 1))) else (some (2, x0.extract (x1 : Int).toNat (x7 : Int).toNat, x1, x7, true))) else (none)) else (some (2, x0.extract (x1 : Int).toNat (x7 : Int).toNat, x1, x7, false))) else (none)) else (none)) else (none)))) else (none)) else (if 0 ≤ x1 then (if x1 ≤ x7 then (if x7 ≤ (x0.size : Int) then (if ((x0.extract (x1 : Int).toNat (x7 : Int).toNat).size : Int) ≤ 400 then (if 0 < ((x0.extract (x1 : Int).toNat (x7 : Int).toNat).size : Int) then (if (bt (x0.extract (x1 : Int).toNat (x7 : Int).toNat) 0) = 48 then (some (2, x0.extract (x1 : Int).toNat (x7 : Int).toNat, x1, x7, (((x0.extract (x1 : Int).toNat (x7 : Int).toNat).size : Int) == 1))) else (some (2, x0.extract (x1 : Int).toNat (x7 : Int).toNat, x1, x7, true))) else (none)) else (some (2, x0.extract (x1 : Int).toNat (x7 : Int).toNat, x1, x7, false))) else (none)) else (none)) else (none))
def metewandref13_token.l2 : Nat → ByteArray → Int → Int → Option (Int × ByteArray × Int × Int × Bool)
  | 0, _, _, _ => none
  | k + 1, x0, x1, x7 => if x7 < (x0.size : Int) then (if 0 ≤ x7 then (if (bt x0 x7) = 125 then (if x7 = (x0.size : Int) then (some (0, (⟨#[]⟩ : ByteArray), 0, 0, false)) else (if 0 ≤ (wrap64 (x1 + 1)) then (if (wrap64 (x1 + 1)) ≤ x7 then (if x7 ≤ (x0.size : Int) then ((metewandref13_unit.f k (x0.extract ((wrap64 (x1 + 1)) : Int).toNat (x7 : Int).toNat)).bind fun t411 => (if t411 = true then (some (3, x0.extract ((wrap64 (x1 + 1)) : Int).toNat (x7 : Int).toNat, x1, wrap64 (x7 + 1), true)) else (some (0, (⟨#[]⟩ : ByteArray), 0, 0, false)))) else (none)) else (none)) else (none))) else (metewandref13_token.l2 k x0 x1 (wrap64 (x7 + 1)))) else (none)) else (if x7 = (x0.size : Int) then (some (0, (⟨#[]⟩ : ByteArray), 0, 0, false)) else (if 0 ≤ (wrap64 (x1 + 1)) then (if (wrap64 (x1 + 1)) ≤ x7 then (if x7 ≤ (x0.size : Int) then ((metewandref13_unit.f k (x0.extract ((wrap64 (x1 + 1)) : Int).toNat (x7 : Int).toNat)).bind fun t412 => (if t412 = true then (some (3, x0.extract ((wrap64 (x1 + 1)) : Int).toNat (x7 : Int).toNat, x1, wrap64 (x7 + 1), true)) else (some (0, (⟨#[]⟩ : ByteArray), 0, 0, false)))) else (none)) else (none)) else (none)))
end
def metewandref13_token.f (k : Nat) (a0 : ByteArray) (a1 : Int) : Option (Int × ByteArray × Int × Int × Bool) := if 0 ≤ a1 then (if a1 < (a0.size : Int) then ((metewandref13_small.f (bt a0 a1)).bind fun t403 => (if t403 = true then (metewandref13_token.l0 k a0 a1 (wrap64 (a1 + 1))) else ((metewandref13_digit.f (bt a0 a1)).bind fun t409 => (if t409 = true then (metewandref13_token.l1 k a0 a1 (wrap64 (a1 + 1))) else (if (bt a0 a1) = 123 then (metewandref13_token.l2 k a0 a1 (wrap64 (a1 + 1))) else ((metewandref13_sign.f k (bt a0 a1)).bind fun t413 => (if t413 = true then (if a1 ≤ (wrap64 (a1 + 1)) then (if (wrap64 (a1 + 1)) ≤ (a0.size : Int) then (some (4, a0.extract (a1 : Int).toNat ((wrap64 (a1 + 1)) : Int).toNat, a1, wrap64 (a1 + 1), true)) else (none)) else (none)) else (some (0, (⟨#[]⟩ : ByteArray), 0, 0, false))))))))) else (none)) else (none)
theorem metewandref13_token.mono_l : ∀ k, (∀ y0 y1 y2, LeO (metewandref13_token.j1 k y0 y1 y2) (metewandref13_token.j1 (k + 1) y0 y1 y2)) ∧ (∀ y0 y1 y2, LeO (metewandref13_token.l0 k y0 y1 y2) (metewandref13_token.l0 (k + 1) y0 y1 y2)) ∧ (∀ y0 y1 y2, LeO (metewandref13_token.l1 k y0 y1 y2) (metewandref13_token.l1 (k + 1) y0 y1 y2)) ∧ (∀ y0 y1 y2, LeO (metewandref13_token.l2 k y0 y1 y2) (metewandref13_token.l2 (k + 1) y0 y1 y2))
  | 0 => ⟨fun _ _ _ r h => by simp [metewandref13_token.j1] at h, fun _ _ _ r h => by simp [metewandref13_token.l0] at h, fun _ _ _ r h => by simp [metewandref13_token.l1] at h, fun _ _ _ r h => by simp [metewandref13_token.l2] at h⟩
  | k + 1 => by
    obtain ⟨ih0, ih1, ih2, ih3⟩ := metewandref13_token.mono_l k
    refine ⟨?_, ?_, ?_, ?_⟩
    · intro y0 y1 y2
      unfold metewandref13_token.j1
      repeat' first
      | (with_reducible exact ih0 _ _ _)
      | (with_reducible exact ih1 _ _ _)
      | (with_reducible exact ih2 _ _ _)
      | (with_reducible exact ih3 _ _ _)
      | (with_reducible exact metewandref13_Name.mono _ _)
      | (with_reducible exact metewandref13_sign.mono _ _)
      | (with_reducible exact metewandref13_unit.mono _ _)
      | (with_reducible exact LeO.refl _)
      | (with_reducible exact LeO.none _)
      | (with_reducible refine LeO.ite ?_ ?_)
      | (with_reducible refine LeO.bind ?_ (fun _ => ?_))
      | exact ih0 _ _ _
      | exact ih1 _ _ _
      | exact ih2 _ _ _
      | exact ih3 _ _ _
      | exact metewandref13_Name.mono _ _
      | exact metewandref13_sign.mono _ _
      | exact metewandref13_unit.mono _ _
      | exact LeO.none _
      | refine LeO.ite ?_ ?_
      | refine LeO.bind ?_ (fun _ => ?_)
    · intro y0 y1 y2
      unfold metewandref13_token.l0
      repeat' first
      | (with_reducible exact ih0 _ _ _)
      | (with_reducible exact ih1 _ _ _)
      | (with_reducible exact ih2 _ _ _)
      | (with_reducible exact ih3 _ _ _)
      | (with_reducible exact metewandref13_Name.mono _ _)
      | (with_reducible exact metewandref13_sign.mono _ _)
      | (with_reducible exact metewandref13_unit.mono _ _)
      | (with_reducible exact LeO.refl _)
      | (with_reducible exact LeO.none _)
      | (with_reducible refine LeO.ite ?_ ?_)
      | (with_reducible refine LeO.bind ?_ (fun _ => ?_))
      | exact ih0 _ _ _
      | exact ih1 _ _ _
      | exact ih2 _ _ _
      | exact ih3 _ _ _
      | exact metewandref13_Name.mono _ _
      | exact metewandref13_sign.mono _ _
      | exact metewandref13_unit.mono _ _
      | exact LeO.none _
      | refine LeO.ite ?_ ?_
      | refine LeO.bind ?_ (fun _ => ?_)
    · intro y0 y1 y2
      unfold metewandref13_token.l1
      repeat' first
      | (with_reducible exact ih0 _ _ _)
      | (with_reducible exact ih1 _ _ _)
      | (with_reducible exact ih2 _ _ _)
      | (with_reducible exact ih3 _ _ _)
      | (with_reducible exact metewandref13_Name.mono _ _)
      | (with_reducible exact metewandref13_sign.mono _ _)
      | (with_reducible exact metewandref13_unit.mono _ _)
      | (with_reducible exact LeO.refl _)
      | (with_reducible exact LeO.none _)
      | (with_reducible refine LeO.ite ?_ ?_)
      | (with_reducible refine LeO.bind ?_ (fun _ => ?_))
      | exact ih0 _ _ _
      | exact ih1 _ _ _
      | exact ih2 _ _ _
      | exact ih3 _ _ _
      | exact metewandref13_Name.mono _ _
      | exact metewandref13_sign.mono _ _
      | exact metewandref13_unit.mono _ _
      | exact LeO.none _
      | refine LeO.ite ?_ ?_
      | refine LeO.bind ?_ (fun _ => ?_)
    · intro y0 y1 y2
      unfold metewandref13_token.l2
      repeat' first
      | (with_reducible exact ih0 _ _ _)
      | (with_reducible exact ih1 _ _ _)
      | (with_reducible exact ih2 _ _ _)
      | (with_reducible exact ih3 _ _ _)
      | (with_reducible exact metewandref13_Name.mono _ _)
      | (with_reducible exact metewandref13_sign.mono _ _)
      | (with_reducible exact metewandref13_unit.mono _ _)
      | (with_reducible exact LeO.refl _)
      | (with_reducible exact LeO.none _)
      | (with_reducible refine LeO.ite ?_ ?_)
      | (with_reducible refine LeO.bind ?_ (fun _ => ?_))
      | exact ih0 _ _ _
      | exact ih1 _ _ _
      | exact ih2 _ _ _
      | exact ih3 _ _ _
      | exact metewandref13_Name.mono _ _
      | exact metewandref13_sign.mono _ _
      | exact metewandref13_unit.mono _ _
      | exact LeO.none _
      | refine LeO.ite ?_ ?_
      | refine LeO.bind ?_ (fun _ => ?_)
theorem metewandref13_token.mono : ∀ a0 a1 k, LeO (metewandref13_token.f k a0 a1) (metewandref13_token.f (k + 1) a0 a1) := by
  intro a0 a1 k
  obtain ⟨ih0, ih1, ih2, ih3⟩ := metewandref13_token.mono_l k
  unfold metewandref13_token.f
  repeat' first
      | (with_reducible exact ih0 _ _ _)
      | (with_reducible exact ih1 _ _ _)
      | (with_reducible exact ih2 _ _ _)
      | (with_reducible exact ih3 _ _ _)
      | (with_reducible exact metewandref13_Name.mono _ _)
      | (with_reducible exact metewandref13_sign.mono _ _)
      | (with_reducible exact metewandref13_unit.mono _ _)
      | (with_reducible exact LeO.refl _)
      | (with_reducible exact LeO.none _)
      | (with_reducible refine LeO.ite ?_ ?_)
      | (with_reducible refine LeO.bind ?_ (fun _ => ?_))
      | exact ih0 _ _ _
      | exact ih1 _ _ _
      | exact ih2 _ _ _
      | exact ih3 _ _ _
      | exact metewandref13_Name.mono _ _
      | exact metewandref13_sign.mono _ _
      | exact metewandref13_unit.mono _ _
      | exact LeO.none _
      | refine LeO.ite ?_ ?_
      | refine LeO.bind ?_ (fun _ => ?_)
set_option maxHeartbeats 8000000 in
set_option maxRecDepth 100000 in
theorem metewandref13_token.calls (k : Nat) (a0 : ByteArray) (a1 : Int) (r1 : Int) (r2 : ByteArray) (r3 : Int) (r4 : Int) (r5 : Bool) (w : World) (h : metewandref13_token.f k a0 a1 = some (r1, r2, r3, r4, r5)) :
    Calls Tryz.prog 89 #[.string a0, .int .i64 a1] w fun e w' => e = .returned (.tuple #[.agg #[.int .i64 r1, .string r2, .int .i64 r3], .int .i64 r4, .bool r5]) ∧ Below w.heap.size w w' := by
  have hu47 := Tryz.underlying47
  have HB := Aside0.mk (Below.refl w.heap.size w)
  have H : (if 0 ≤ a1 then (if a1 < (a0.size : Int) then ((metewandref13_small.f (bt a0 a1)).bind fun t403 => (if t403 = true then (metewandref13_token.l0 k a0 a1 (wrap64 (a1 + 1))) else ((metewandref13_digit.f (bt a0 a1)).bind fun t409 => (if t409 = true then (metewandref13_token.l1 k a0 a1 (wrap64 (a1 + 1))) else (if (bt a0 a1) = 123 then (metewandref13_token.l2 k a0 a1 (wrap64 (a1 + 1))) else ((metewandref13_sign.f k (bt a0 a1)).bind fun t413 => (if t413 = true then (if a1 ≤ (wrap64 (a1 + 1)) then (if (wrap64 (a1 + 1)) ≤ (a0.size : Int) then (some (4, a0.extract (a1 : Int).toNat ((wrap64 (a1 + 1)) : Int).toNat, a1, wrap64 (a1 + 1), true)) else (none)) else (none)) else (some (0, (⟨#[]⟩ : ByteArray), 0, 0, false))))))))) else (none)) else (none)) = some (r1, r2, r3, r4, r5) := h
  clear h
  by_cases c3 : 0 ≤ a1
  · rw [if_pos c3] at H
    have c3b0 : decide (0 ≤ a1) = true := decide_eq_true c3
    clear c3
    by_cases c4 : a1 < (a0.size : Int)
    · rw [if_pos c4] at H
      have c4b0 : decide (a1 < (a0.size : Int)) = true := decide_eq_true c4
      clear c4
      replace H := Option.bind_eq_some_iff.mp H
      obtain ⟨t403, A60, H⟩ := H
      replace H : (if t403 = true then (metewandref13_token.l0 k a0 a1 (wrap64 (a1 + 1))) else ((metewandref13_digit.f (bt a0 a1)).bind fun t409 => (if t409 = true then (metewandref13_token.l1 k a0 a1 (wrap64 (a1 + 1))) else (if (bt a0 a1) = 123 then (metewandref13_token.l2 k a0 a1 (wrap64 (a1 + 1))) else ((metewandref13_sign.f k (bt a0 a1)).bind fun t413 => (if t413 = true then (if a1 ≤ (wrap64 (a1 + 1)) then (if (wrap64 (a1 + 1)) ≤ (a0.size : Int) then (some (4, a0.extract (a1 : Int).toNat ((wrap64 (a1 + 1)) : Int).toNat, a1, wrap64 (a1 + 1), true)) else (none)) else (none)) else (some (0, (⟨#[]⟩ : ByteArray), 0, 0, false)))))))) = some (r1, r2, r3, r4, r5) := H
      have A6 := Aside0.mk A60
      clear A60
      by_cases c7 : t403 = true
      · subst c7
        have H1 : (metewandref13_token.l0 k a0 a1 (wrap64 (a1 + 1))) = some (r1, r2, r3, r4, r5) := by rw [if_pos rfl] at H; exact H
        clear H
        have H := H1
        clear H1
        have HC8 := Aside0.mk H
        clear H
        go_enter Tryz.func89, Tryz.ntmps89
        go_upto_block 1 with (first | ((with_reducible refine gate_dst (N := 4) rfl ?_); (try (refine gate_guard (by rfl) ?_; dsimp only)); refine box_event ?hg (N := 4) ?hd (cs := #[.int .i64 0, .string (⟨#[]⟩ : ByteArray), .int .i64 0]) (t := 47) ?hr ?_; (case hd => rfl); (case hg => rfl); (case hr => first | (go_simp; done) | (go_simp; rfl)); intro gb402 hg w9 hbox hb; have n0_ := Aside0.mk (below_step (by repeat (first | (with_reducible first | exact HB.out | apply below_alloc | apply pw_below_drewN | apply below_drew1) | exact HB.out)) hb); have n1_ := Aside0.mk (hbox); have n2_ := Aside0.mk ((by rw [hg]; exact (below_size (by repeat (first | (with_reducible first | exact HB.out | apply below_alloc | apply pw_below_drewN | apply below_drew1) | exact HB.out))) : w.heap.size ≤ gb402)); have n3_ := Aside0.mk ((by rw [hg]; exact (below_size (by repeat (first | (with_reducible first | exact HB.out | apply below_alloc | apply pw_below_drewN | apply below_drew1) | exact HB.out))) : w.heap.size ≤ gb402)); clear HB; have HB := n0_; have BK402 := n1_; have GW402 := n2_; have GE402 := n3_; clear n0_ n1_ n2_ n3_; clear hb hbox hg; have p5 : 0 ≤ (a1 : Int) := of_decide_eq_true (by first | (with_reducible assumption) | assumption); have q5 : a1 < (a0.size : Int) := of_decide_eq_true (by first | (with_reducible assumption) | assumption); have hx5 := bt_at a0 a1; replace p5 := eq_true p5; replace q5 := eq_true q5) | ((with_reducible refine gate_callee (f := 115) rfl ?_); refine goesL_ (some 16) rfl rfl Tryz.func115 (by kernel_rfl) rfl #[.int .u8 (bt a0 a1)] rfl (by (try simp only [List.map_toArray, List.map_cons, List.map_nil]); first | done | rfl | (simp only [List.length_drop, List.length_take]; rfl)) ?_; (with_reducible refine (metewandref13_small.calls (bt a0 a1) true _ A6.out).mono ?_); rintro e w' ⟨rfl, ⟨nd, rfl⟩⟩; refine ⟨_, rfl, ?_⟩))
        (try simp only [Act.put, List.setIfInBounds_toArray, List.set_cons_zero, List.set_cons_succ])
        go_cut [7] (fun v7 wc => ∃ (kq : Nat) (x7_7 : Int), v7 = .int .i64 x7_7 ∧ Aside0 (metewandref13_token.j1 kq a0 a1 x7_7 = some (r1, r2, r3, r4, r5)) ∧ Aside0 (kq ≤ k) ∧ Aside0 (wc.heap[gb402]? = some (.cells #[.int .i64 0, .string (⟨#[]⟩ : ByteArray), .int .i64 0] 47 (0, 0))) ∧ Aside0 (Below w.heap.size w wc))
        case first =>
          have H := HC8.out
          clear HC8
          have H' := Aside0.mk H
          clear H
          go_wp2
          go_loopg [7] k (fun kq v7 w' => ∃ (x7_1 : Int), v7 = .int .i64 x7_1 ∧ Aside0 (metewandref13_token.l0 kq a0 a1 x7_1 = some (r1, r2, r3, r4, r5)) ∧ Aside0 (kq ≤ k) ∧ Aside0 (w'.heap[gb402]? = some (.cells #[.int .i64 0, .string (⟨#[]⟩ : ByteArray), .int .i64 0] 47 (0, 0))) ∧ Aside0 (Below w.heap.size w w'))
          case atStart => exact ⟨(wrap64 (a1 + 1)), (by first | rfl | (simp; done) | (simp [*]; done)), H', ⟨Nat.le_refl _⟩, ⟨by (with_reducible repeat (first | refine blk_drewN ?_ _ | refine blk_drew ?_ | refine blk_alloc ?_ _)); exact BK402.out⟩, ⟨by repeat (first | (with_reducible first | exact HB.out | apply below_alloc | apply pw_below_drewN | apply below_drew1 | refine below_set ?_ GE402.out) | exact HB.out)⟩⟩
          case round =>
            clear H'
            try clear c1
            try clear p2
            try clear c3
            try clear c3b0
            try clear c4
            try clear c4b0
            try clear p5
            try clear q5
            try clear hx5
            try clear p6
            try clear c7
            try clear c8
            try clear p5
            try clear q5
            obtain ⟨x7_1, rfl, HA, HK1, BK402, HB⟩ := hrel
            cases gk with
            | zero => exact absurd HA.out (by simp [metewandref13_token.l0])
            | succ k1 =>
              have H := HA.out
              clear HA
              simp only [metewandref13_token.l0] at H
              by_cases c10 : x7_1 < (a0.size : Int)
              · rw [if_pos c10] at H
                have c10b0 : decide (x7_1 < (a0.size : Int)) = true := decide_eq_true c10
                clear c10
                (first | rw [c10b0] | (simp only [i64_w, i32_w]; rw [c10b0]) | skip)
                by_cases c11 : 0 ≤ x7_1
                · rw [if_pos c11] at H
                  have c11b0 : decide (0 ≤ x7_1) = true := decide_eq_true c11
                  clear c11
                  replace H := Option.bind_eq_some_iff.mp H
                  obtain ⟨t404, A130, H⟩ := H
                  replace H : (if t404 = true then (metewandref13_token.l0 k1 a0 a1 (wrap64 (x7_1 + 1))) else ((metewandref13_digit.f (bt a0 x7_1)).bind fun t405 => (if t405 = true then (metewandref13_token.l0 k1 a0 a1 (wrap64 (x7_1 + 1))) else ((metewandref13_large.f (bt a0 x7_1)).bind fun t406 => (if t406 = true then (metewandref13_token.l0 k1 a0 a1 (wrap64 (x7_1 + 1))) else (metewandref13_token.j1 k1 a0 a1 x7_1)))))) = some (r1, r2, r3, r4, r5) := H
                  have A13 := Aside0.mk A130
                  clear A130
                  by_cases c14 : t404 = true
                  · subst c14
                    have H1 : (metewandref13_token.l0 k1 a0 a1 (wrap64 (x7_1 + 1))) = some (r1, r2, r3, r4, r5) := by rw [if_pos rfl] at H; exact H
                    clear H
                    have H := H1
                    clear H1
                    have H' := Aside0.mk H
                    clear H
                    have p12 : 0 ≤ (x7_1 : Int) := of_decide_eq_true (by first | (with_reducible assumption) | assumption)
                    have q12 : x7_1 < (a0.size : Int) := of_decide_eq_true (by first | (with_reducible assumption) | assumption)
                    have hx12 := bt_at a0 x7_1
                    replace p12 := eq_true p12
                    replace q12 := eq_true q12
                    go_wp2_with (first | (go_at_call 115; (with_reducible refine (metewandref13_small.calls (bt a0 x7_1) true _ A13.out).mono ?_); rintro e w' ⟨rfl, ⟨nd, rfl⟩⟩))
                    go_roundg k1
                    case measure => have := HK1.out; omega
                    case rel => exact ⟨(wrap64 (x7_1 + 1)), (by first | rfl | (simp; done) | (simp [*]; done)), H', ⟨by have := HK1.out; omega⟩, ⟨by (with_reducible repeat (first | refine blk_drewN ?_ _ | refine blk_drew ?_ | refine blk_alloc ?_ _)); exact BK402.out⟩, ⟨by repeat (first | (with_reducible first | exact HB.out | apply below_alloc | apply pw_below_drewN | apply below_drew1 | refine below_set ?_ GE402.out) | exact HB.out)⟩⟩
                  · replace c14 := Bool.eq_false_iff.mpr c14
                    subst c14
                    have H1 : ((metewandref13_digit.f (bt a0 x7_1)).bind fun t405 => (if t405 = true then (metewandref13_token.l0 k1 a0 a1 (wrap64 (x7_1 + 1))) else ((metewandref13_large.f (bt a0 x7_1)).bind fun t406 => (if t406 = true then (metewandref13_token.l0 k1 a0 a1 (wrap64 (x7_1 + 1))) else (metewandref13_token.j1 k1 a0 a1 x7_1))))) = some (r1, r2, r3, r4, r5) := by rw [if_neg (show ¬ (false = true) by decide)] at H; exact H
                    clear H
                    have H := H1
                    clear H1
                    replace H := Option.bind_eq_some_iff.mp H
                    obtain ⟨t405, A160, H⟩ := H
                    replace H : (if t405 = true then (metewandref13_token.l0 k1 a0 a1 (wrap64 (x7_1 + 1))) else ((metewandref13_large.f (bt a0 x7_1)).bind fun t406 => (if t406 = true then (metewandref13_token.l0 k1 a0 a1 (wrap64 (x7_1 + 1))) else (metewandref13_token.j1 k1 a0 a1 x7_1)))) = some (r1, r2, r3, r4, r5) := H
                    have A16 := Aside0.mk A160
                    clear A160
                    by_cases c17 : t405 = true
                    · subst c17
                      have H1 : (metewandref13_token.l0 k1 a0 a1 (wrap64 (x7_1 + 1))) = some (r1, r2, r3, r4, r5) := by rw [if_pos rfl] at H; exact H
                      clear H
                      have H := H1
                      clear H1
                      have H' := Aside0.mk H
                      clear H
                      have p12 : 0 ≤ (x7_1 : Int) := of_decide_eq_true (by first | (with_reducible assumption) | assumption)
                      have q12 : x7_1 < (a0.size : Int) := of_decide_eq_true (by first | (with_reducible assumption) | assumption)
                      have hx12 := bt_at a0 x7_1
                      replace p12 := eq_true p12
                      replace q12 := eq_true q12
                      go_wp2_with (first | (go_at_call 115; (with_reducible refine (metewandref13_small.calls (bt a0 x7_1) false _ A13.out).mono ?_); rintro e w' ⟨rfl, ⟨nd, rfl⟩⟩; have p15 : 0 ≤ (x7_1 : Int) := of_decide_eq_true (by first | (with_reducible assumption) | assumption); have q15 : x7_1 < (a0.size : Int) := of_decide_eq_true (by first | (with_reducible assumption) | assumption); have hx15 := bt_at a0 x7_1; replace p15 := eq_true p15; replace q15 := eq_true q15) | (go_at_call 117; (with_reducible refine (metewandref13_digit.calls (bt a0 x7_1) true _ A16.out).mono ?_); rintro e w' ⟨rfl, ⟨nd, rfl⟩⟩))
                      go_roundg k1
                      case measure => have := HK1.out; omega
                      case rel => exact ⟨(wrap64 (x7_1 + 1)), (by first | rfl | (simp; done) | (simp [*]; done)), H', ⟨by have := HK1.out; omega⟩, ⟨by (with_reducible repeat (first | refine blk_drewN ?_ _ | refine blk_drew ?_ | refine blk_alloc ?_ _)); exact BK402.out⟩, ⟨by repeat (first | (with_reducible first | exact HB.out | apply below_alloc | apply pw_below_drewN | apply below_drew1 | refine below_set ?_ GE402.out) | exact HB.out)⟩⟩
                    · replace c17 := Bool.eq_false_iff.mpr c17
                      subst c17
                      have H1 : ((metewandref13_large.f (bt a0 x7_1)).bind fun t406 => (if t406 = true then (metewandref13_token.l0 k1 a0 a1 (wrap64 (x7_1 + 1))) else (metewandref13_token.j1 k1 a0 a1 x7_1))) = some (r1, r2, r3, r4, r5) := by rw [if_neg (show ¬ (false = true) by decide)] at H; exact H
                      clear H
                      have H := H1
                      clear H1
                      replace H := Option.bind_eq_some_iff.mp H
                      obtain ⟨t406, A190, H⟩ := H
                      replace H : (if t406 = true then (metewandref13_token.l0 k1 a0 a1 (wrap64 (x7_1 + 1))) else (metewandref13_token.j1 k1 a0 a1 x7_1)) = some (r1, r2, r3, r4, r5) := H
                      have A19 := Aside0.mk A190
                      clear A190
                      by_cases c20 : t406 = true
                      · subst c20
                        have H1 : (metewandref13_token.l0 k1 a0 a1 (wrap64 (x7_1 + 1))) = some (r1, r2, r3, r4, r5) := by rw [if_pos rfl] at H; exact H
                        clear H
                        have H := H1
                        clear H1
                        have H' := Aside0.mk H
                        clear H
                        have p12 : 0 ≤ (x7_1 : Int) := of_decide_eq_true (by first | (with_reducible assumption) | assumption)
                        have q12 : x7_1 < (a0.size : Int) := of_decide_eq_true (by first | (with_reducible assumption) | assumption)
                        have hx12 := bt_at a0 x7_1
                        replace p12 := eq_true p12
                        replace q12 := eq_true q12
                        go_wp2_with (first | (go_at_call 115; (with_reducible refine (metewandref13_small.calls (bt a0 x7_1) false _ A13.out).mono ?_); rintro e w' ⟨rfl, ⟨nd, rfl⟩⟩; have p15 : 0 ≤ (x7_1 : Int) := of_decide_eq_true (by first | (with_reducible assumption) | assumption); have q15 : x7_1 < (a0.size : Int) := of_decide_eq_true (by first | (with_reducible assumption) | assumption); have hx15 := bt_at a0 x7_1; replace p15 := eq_true p15; replace q15 := eq_true q15) | (go_at_call 117; (with_reducible refine (metewandref13_digit.calls (bt a0 x7_1) false _ A16.out).mono ?_); rintro e w' ⟨rfl, ⟨nd, rfl⟩⟩; have p18 : 0 ≤ (x7_1 : Int) := of_decide_eq_true (by first | (with_reducible assumption) | assumption); have q18 : x7_1 < (a0.size : Int) := of_decide_eq_true (by first | (with_reducible assumption) | assumption); have hx18 := bt_at a0 x7_1; replace p18 := eq_true p18; replace q18 := eq_true q18) | (go_at_call 126; (with_reducible refine (metewandref13_large.calls (bt a0 x7_1) true _ A19.out).mono ?_); rintro e w' ⟨rfl, ⟨nd, rfl⟩⟩))
                        go_roundg k1
                        case measure => have := HK1.out; omega
                        case rel => exact ⟨(wrap64 (x7_1 + 1)), (by first | rfl | (simp; done) | (simp [*]; done)), H', ⟨by have := HK1.out; omega⟩, ⟨by (with_reducible repeat (first | refine blk_drewN ?_ _ | refine blk_drew ?_ | refine blk_alloc ?_ _)); exact BK402.out⟩, ⟨by repeat (first | (with_reducible first | exact HB.out | apply below_alloc | apply pw_below_drewN | apply below_drew1 | refine below_set ?_ GE402.out) | exact HB.out)⟩⟩
                      · replace c20 := Bool.eq_false_iff.mpr c20
                        subst c20
                        have H1 : (metewandref13_token.j1 k1 a0 a1 x7_1) = some (r1, r2, r3, r4, r5) := by rw [if_neg (show ¬ (false = true) by decide)] at H; exact H
                        clear H
                        have H := H1
                        clear H1
                        have H' := Aside0.mk H
                        clear H
                        have p12 : 0 ≤ (x7_1 : Int) := of_decide_eq_true (by first | (with_reducible assumption) | assumption)
                        have q12 : x7_1 < (a0.size : Int) := of_decide_eq_true (by first | (with_reducible assumption) | assumption)
                        have hx12 := bt_at a0 x7_1
                        replace p12 := eq_true p12
                        replace q12 := eq_true q12
                        go_wp2_with (first | (go_at_call 115; (with_reducible refine (metewandref13_small.calls (bt a0 x7_1) false _ A13.out).mono ?_); rintro e w' ⟨rfl, ⟨nd, rfl⟩⟩; have p15 : 0 ≤ (x7_1 : Int) := of_decide_eq_true (by first | (with_reducible assumption) | assumption); have q15 : x7_1 < (a0.size : Int) := of_decide_eq_true (by first | (with_reducible assumption) | assumption); have hx15 := bt_at a0 x7_1; replace p15 := eq_true p15; replace q15 := eq_true q15) | (go_at_call 117; (with_reducible refine (metewandref13_digit.calls (bt a0 x7_1) false _ A16.out).mono ?_); rintro e w' ⟨rfl, ⟨nd, rfl⟩⟩; have p18 : 0 ≤ (x7_1 : Int) := of_decide_eq_true (by first | (with_reducible assumption) | assumption); have q18 : x7_1 < (a0.size : Int) := of_decide_eq_true (by first | (with_reducible assumption) | assumption); have hx18 := bt_at a0 x7_1; replace p18 := eq_true p18; replace q18 := eq_true q18) | (go_at_call 126; (with_reducible refine (metewandref13_large.calls (bt a0 x7_1) false _ A19.out).mono ?_); rintro e w' ⟨rfl, ⟨nd, rfl⟩⟩))
                        go_meet
                        case rel => exact ⟨_, (x7_1), (by first | rfl | (simp; done) | (simp [*]; done)), H', ⟨by have := HK1.out; first | omega | exact Nat.le_refl _⟩, ⟨by (with_reducible repeat (first | refine blk_drewN ?_ _ | refine blk_drew ?_ | refine blk_alloc ?_ _)); exact BK402.out⟩, ⟨by repeat (first | (with_reducible first | exact HB.out | apply below_alloc | apply pw_below_drewN | apply below_drew1 | refine below_set ?_ GE402.out) | exact HB.out)⟩⟩
                · rw [if_neg c11] at H
                  exact absurd H (by simp)
              · rw [if_neg c10] at H
                have c10b0 : decide (x7_1 < (a0.size : Int)) = false := decide_eq_false c10
                clear c10
                (first | rw [c10b0] | (simp only [i64_w, i32_w]; rw [c10b0]) | skip)
                have H' := Aside0.mk H
                clear H
                go_wp2
                go_meet
                case rel => exact ⟨_, (x7_1), (by first | rfl | (simp; done) | (simp [*]; done)), H', ⟨by have := HK1.out; first | omega | exact Nat.le_refl _⟩, ⟨by (with_reducible repeat (first | refine blk_drewN ?_ _ | refine blk_drew ?_ | refine blk_alloc ?_ _)); exact BK402.out⟩, ⟨by repeat (first | (with_reducible first | exact HB.out | apply below_alloc | apply pw_below_drewN | apply below_drew1 | refine below_set ?_ GE402.out) | exact HB.out)⟩⟩
        case rest =>
          clear HC8
          try clear c1
          try clear p1
          try clear q1
          try clear hx1
          try clear c2
          try clear p2
          try clear c3
          try clear c3b0
          try clear c4
          try clear c4b0
          try clear p5
          try clear q5
          try clear hx5
          try clear p6
          try clear c7
          try clear c8
          try clear c10
          try clear c10b0
          try clear c11
          try clear c11b0
          try clear p12
          try clear q12
          try clear hx12
          try clear c14
          try clear p15
          try clear q15
          try clear hx15
          try clear c17
          try clear p18
          try clear q18
          try clear hx18
          try clear c20
          try clear p12
          try clear p15
          try clear p18
          try clear p2
          try clear p5
          try clear p6
          try clear q12
          try clear q15
          try clear q18
          try clear q5
          obtain ⟨kq, x7_7, rfl, HA, HJ7, BK402, HB⟩ := hcut
          cases kq with
          | zero => exact absurd HA.out (by simp [metewandref13_token.j1])
          | succ kj7 =>
            have H := HA.out
            clear HA
            simp only [metewandref13_token.j1] at H
            by_cases c21 : 0 ≤ a1
            · rw [if_pos c21] at H
              have c21b0 := eq_true c21
              have c21b1 : decide (0 ≤ a1) = true := decide_eq_true c21
              clear c21
              by_cases c22 : a1 ≤ x7_7
              · rw [if_pos c22] at H
                have c22b0 := eq_true c22
                have c22b1 : decide (a1 ≤ x7_7) = true := decide_eq_true c22
                clear c22
                by_cases c23 : x7_7 ≤ (a0.size : Int)
                · rw [if_pos c23] at H
                  have c23b0 := eq_true c23
                  have c23b1 : decide (x7_7 ≤ (a0.size : Int)) = true := decide_eq_true c23
                  clear c23
                  replace H := Option.bind_eq_some_iff.mp H
                  obtain ⟨t407, A240, H⟩ := H
                  replace H : (if t407 = true then (some (1, a0.extract (a1 : Int).toNat (x7_7 : Int).toNat, a1, x7_7, true)) else ((metewandref13_Name.f kj7 (a0.extract (a1 : Int).toNat (x7_7 : Int).toNat)).bind fun t408 => (some (0, a0.extract (a1 : Int).toNat (x7_7 : Int).toNat, a1, x7_7, t408)))) = some (r1, r2, r3, r4, r5) := H
                  have A24 := Aside0.mk A240
                  clear A240
                  by_cases c25 : t407 = true
                  · subst c25
                    have H1 : (some (1, a0.extract (a1 : Int).toNat (x7_7 : Int).toNat, a1, x7_7, true)) = some (r1, r2, r3, r4, r5) := by rw [if_pos rfl] at H; exact H
                    clear H
                    have H := H1
                    clear H1
                    simp only [Option.some.injEq, Prod.mk.injEq] at H
                    obtain ⟨rfl, rfl, rfl, rfl, rfl⟩ := H
                    go_wp2_with (first | ((with_reducible refine gate_callee (f := 116) rfl ?_); refine goesL_ (some 46) rfl rfl Tryz.func116 (by kernel_rfl) rfl #[.string (a0.extract (a1 : Int).toNat (x7_7 : Int).toNat)] rfl (by (try simp only [List.map_toArray, List.map_cons, List.map_nil]); first | done | rfl | (simp only [List.length_drop, List.length_take]; rfl)) ?_; (with_reducible refine (metewandref13_Word.calls (a0.extract (a1 : Int).toNat (x7_7 : Int).toNat) true _ A24.out).mono ?_); rintro e w' ⟨rfl, ⟨nd, rfl⟩⟩; refine ⟨_, rfl, ?_⟩; (try (rw [drewN_self wc]; generalize hq_ : World.drewN wc _ = wc; have n0_ : Aside0 (wc.heap[gb402]? = some (.cells #[.int .i64 0, .string (⟨#[]⟩ : ByteArray), .int .i64 0] 47 (0, 0))) := ⟨by rw [← hq_]; exact (by (with_reducible repeat (first | refine blk_drewN ?_ _ | refine blk_drew ?_ | refine blk_alloc ?_ _)); exact BK402.out)⟩; have n1_ : Aside0 (Below w.heap.size w wc) := ⟨by rw [← hq_]; exact (by repeat (first | (with_reducible first | exact HB.out | apply below_alloc | apply pw_below_drewN | apply below_drew1 | refine below_set ?_ GE402.out) | exact HB.out))⟩; clear BK402 HB hq_; have BK402 := n0_; have HB := n1_; clear n0_ n1_)); have hcz26_0 : wc.cell? ⟨gb402, 0, none⟩ = some (.int .i64 0) := (blk_cell BK402.out 0).trans rfl; have hcz26_1 : wc.cell? ⟨gb402, 1, none⟩ = some (.string (⟨#[]⟩ : ByteArray)) := (blk_cell BK402.out 1).trans rfl; have hcz26_2 : wc.cell? ⟨gb402, 2, none⟩ = some (.int .i64 0) := (blk_cell BK402.out 2).trans rfl; have hfz26_0 := blk_frozen BK402.out 0; have hfz26_1 := blk_frozen BK402.out 1; have hfz26_2 := blk_frozen BK402.out 2))
                    refine bodyPost_ret (results_ctt rfl _ _ gb402 47 #[.int .i64 1, .string (a0.extract (a1 : Int).toNat (x7_7 : Int).toNat), .int .i64 a1] (0, 0) _ rfl (by (with_reducible repeat (first | refine blk_drewN ?_ _ | refine blk_drew ?_ | refine blk_alloc ?_ _)); refine blk_put (cs := #[.int .i64 1, .string (a0.extract (a1 : Int).toNat (x7_7 : Int).toNat), .int .i64 0]) ?_ 2 _ rfl; (with_reducible repeat (first | refine blk_drewN ?_ _ | refine blk_drew ?_ | refine blk_alloc ?_ _)); refine blk_put (cs := #[.int .i64 1, .string (⟨#[]⟩ : ByteArray), .int .i64 0]) ?_ 1 _ rfl; (with_reducible repeat (first | refine blk_drewN ?_ _ | refine blk_drew ?_ | refine blk_alloc ?_ _)); refine blk_put (cs := #[.int .i64 0, .string (⟨#[]⟩ : ByteArray), .int .i64 0]) ?_ 0 _ rfl; (with_reducible repeat (first | refine blk_drewN ?_ _ | refine blk_drew ?_ | refine blk_alloc ?_ _)); exact BK402.out) Tryz.underlying47 rfl (by kernel_rfl)) rfl ?_
                    exact ⟨by first | rfl | (simp [errW_none, errW_some] <;> rfl) | (simp [*, errW_none, errW_some] <;> rfl), by repeat (first | (with_reducible first | exact HB.out | apply below_alloc | apply pw_below_drewN | apply below_drew1 | refine below_set ?_ GE402.out) | exact HB.out)⟩
                  · replace c25 := Bool.eq_false_iff.mpr c25
                    subst c25
                    have H1 : ((metewandref13_Name.f kj7 (a0.extract (a1 : Int).toNat (x7_7 : Int).toNat)).bind fun t408 => (some (0, a0.extract (a1 : Int).toNat (x7_7 : Int).toNat, a1, x7_7, t408))) = some (r1, r2, r3, r4, r5) := by rw [if_neg (show ¬ (false = true) by decide)] at H; exact H
                    clear H
                    have H := H1
                    clear H1
                    replace H := Option.bind_eq_some_iff.mp H
                    obtain ⟨t408, A270, H⟩ := H
                    replace H : (some (0, a0.extract (a1 : Int).toNat (x7_7 : Int).toNat, a1, x7_7, t408)) = some (r1, r2, r3, r4, r5) := H
                    have A27 := Aside0.mk A270
                    clear A270
                    simp only [Option.some.injEq, Prod.mk.injEq] at H
                    obtain ⟨rfl, rfl, rfl, rfl, rfl⟩ := H
                    go_wp2_with (first | ((with_reducible refine gate_callee (f := 116) rfl ?_); refine goesL_ (some 46) rfl rfl Tryz.func116 (by kernel_rfl) rfl #[.string (a0.extract (a1 : Int).toNat (x7_7 : Int).toNat)] rfl (by (try simp only [List.map_toArray, List.map_cons, List.map_nil]); first | done | rfl | (simp only [List.length_drop, List.length_take]; rfl)) ?_; (with_reducible refine (metewandref13_Word.calls (a0.extract (a1 : Int).toNat (x7_7 : Int).toNat) false _ A24.out).mono ?_); rintro e w' ⟨rfl, ⟨nd, rfl⟩⟩; refine ⟨_, rfl, ?_⟩; (try (rw [drewN_self wc]; generalize hq_ : World.drewN wc _ = wc; have n0_ : Aside0 (wc.heap[gb402]? = some (.cells #[.int .i64 0, .string (⟨#[]⟩ : ByteArray), .int .i64 0] 47 (0, 0))) := ⟨by rw [← hq_]; exact (by (with_reducible repeat (first | refine blk_drewN ?_ _ | refine blk_drew ?_ | refine blk_alloc ?_ _)); exact BK402.out)⟩; have n1_ : Aside0 (Below w.heap.size w wc) := ⟨by rw [← hq_]; exact (by repeat (first | (with_reducible first | exact HB.out | apply below_alloc | apply pw_below_drewN | apply below_drew1 | refine below_set ?_ GE402.out) | exact HB.out))⟩; clear BK402 HB hq_; have BK402 := n0_; have HB := n1_; clear n0_ n1_))) | ((with_reducible refine gate_callee (f := 80) rfl ?_); refine goesL_ (some 56) rfl rfl Tryz.func80 (by kernel_rfl) rfl #[.string (a0.extract (a1 : Int).toNat (x7_7 : Int).toNat)] rfl (by (try simp only [List.map_toArray, List.map_cons, List.map_nil]); first | done | rfl | (simp only [List.length_drop, List.length_take]; rfl)) ?_; (with_reducible refine (metewandref13_Name.calls kj7 (a0.extract (a1 : Int).toNat (x7_7 : Int).toNat) t408 _ A27.out).mono ?_); rintro e w' ⟨rfl, ⟨nd, rfl⟩⟩; refine ⟨_, rfl, ?_⟩; (try (rw [drewN_self wc]; generalize hq_ : World.drewN wc _ = wc; have n0_ : Aside0 (wc.heap[gb402]? = some (.cells #[.int .i64 0, .string (⟨#[]⟩ : ByteArray), .int .i64 0] 47 (0, 0))) := ⟨by rw [← hq_]; exact (by (with_reducible repeat (first | refine blk_drewN ?_ _ | refine blk_drew ?_ | refine blk_alloc ?_ _)); exact BK402.out)⟩; have n1_ : Aside0 (Below w.heap.size w wc) := ⟨by rw [← hq_]; exact (by repeat (first | (with_reducible first | exact HB.out | apply below_alloc | apply pw_below_drewN | apply below_drew1 | refine below_set ?_ GE402.out) | exact HB.out))⟩; clear BK402 HB hq_; have BK402 := n0_; have HB := n1_; clear n0_ n1_)); have hcz28_0 : wc.cell? ⟨gb402, 0, none⟩ = some (.int .i64 0) := (blk_cell BK402.out 0).trans rfl; have hcz28_1 : wc.cell? ⟨gb402, 1, none⟩ = some (.string (⟨#[]⟩ : ByteArray)) := (blk_cell BK402.out 1).trans rfl; have hcz28_2 : wc.cell? ⟨gb402, 2, none⟩ = some (.int .i64 0) := (blk_cell BK402.out 2).trans rfl; have hfz28_0 := blk_frozen BK402.out 0; have hfz28_1 := blk_frozen BK402.out 1; have hfz28_2 := blk_frozen BK402.out 2))
                    refine bodyPost_ret (results_ctt rfl _ _ gb402 47 #[.int .i64 0, .string (a0.extract (a1 : Int).toNat (x7_7 : Int).toNat), .int .i64 a1] (0, 0) _ rfl (by (with_reducible repeat (first | refine blk_drewN ?_ _ | refine blk_drew ?_ | refine blk_alloc ?_ _)); refine blk_put (cs := #[.int .i64 0, .string (a0.extract (a1 : Int).toNat (x7_7 : Int).toNat), .int .i64 0]) ?_ 2 _ rfl; (with_reducible repeat (first | refine blk_drewN ?_ _ | refine blk_drew ?_ | refine blk_alloc ?_ _)); refine blk_put (cs := #[.int .i64 0, .string (⟨#[]⟩ : ByteArray), .int .i64 0]) ?_ 1 _ rfl; (with_reducible repeat (first | refine blk_drewN ?_ _ | refine blk_drew ?_ | refine blk_alloc ?_ _)); refine blk_put (cs := #[.int .i64 0, .string (⟨#[]⟩ : ByteArray), .int .i64 0]) ?_ 0 _ rfl; (with_reducible repeat (first | refine blk_drewN ?_ _ | refine blk_drew ?_ | refine blk_alloc ?_ _)); exact BK402.out) Tryz.underlying47 rfl (by kernel_rfl)) rfl ?_
                    exact ⟨by first | rfl | (simp [errW_none, errW_some] <;> rfl) | (simp [*, errW_none, errW_some] <;> rfl), by repeat (first | (with_reducible first | exact HB.out | apply below_alloc | apply pw_below_drewN | apply below_drew1 | refine below_set ?_ GE402.out) | exact HB.out)⟩
                · rw [if_neg c23] at H
                  exact absurd H (by simp)
              · rw [if_neg c22] at H
                exact absurd H (by simp)
            · rw [if_neg c21] at H
              exact absurd H (by simp)
      · replace c7 := Bool.eq_false_iff.mpr c7
        subst c7
        have H1 : ((metewandref13_digit.f (bt a0 a1)).bind fun t409 => (if t409 = true then (metewandref13_token.l1 k a0 a1 (wrap64 (a1 + 1))) else (if (bt a0 a1) = 123 then (metewandref13_token.l2 k a0 a1 (wrap64 (a1 + 1))) else ((metewandref13_sign.f k (bt a0 a1)).bind fun t413 => (if t413 = true then (if a1 ≤ (wrap64 (a1 + 1)) then (if (wrap64 (a1 + 1)) ≤ (a0.size : Int) then (some (4, a0.extract (a1 : Int).toNat ((wrap64 (a1 + 1)) : Int).toNat, a1, wrap64 (a1 + 1), true)) else (none)) else (none)) else (some (0, (⟨#[]⟩ : ByteArray), 0, 0, false))))))) = some (r1, r2, r3, r4, r5) := by rw [if_neg (show ¬ (false = true) by decide)] at H; exact H
        clear H
        have H := H1
        clear H1
        replace H := Option.bind_eq_some_iff.mp H
        obtain ⟨t409, A300, H⟩ := H
        replace H : (if t409 = true then (metewandref13_token.l1 k a0 a1 (wrap64 (a1 + 1))) else (if (bt a0 a1) = 123 then (metewandref13_token.l2 k a0 a1 (wrap64 (a1 + 1))) else ((metewandref13_sign.f k (bt a0 a1)).bind fun t413 => (if t413 = true then (if a1 ≤ (wrap64 (a1 + 1)) then (if (wrap64 (a1 + 1)) ≤ (a0.size : Int) then (some (4, a0.extract (a1 : Int).toNat ((wrap64 (a1 + 1)) : Int).toNat, a1, wrap64 (a1 + 1), true)) else (none)) else (none)) else (some (0, (⟨#[]⟩ : ByteArray), 0, 0, false)))))) = some (r1, r2, r3, r4, r5) := H
        have A30 := Aside0.mk A300
        clear A300
        by_cases c31 : t409 = true
        · subst c31
          have H1 : (metewandref13_token.l1 k a0 a1 (wrap64 (a1 + 1))) = some (r1, r2, r3, r4, r5) := by rw [if_pos rfl] at H; exact H
          clear H
          have H := H1
          clear H1
          have H' := Aside0.mk H
          clear H
          go_enter Tryz.func89, Tryz.ntmps89
          go_wp2_with (first | ((with_reducible refine gate_dst (N := 4) rfl ?_); (try (refine gate_guard (by rfl) ?_; dsimp only)); refine box_event ?hg (N := 4) ?hd (cs := #[.int .i64 0, .string (⟨#[]⟩ : ByteArray), .int .i64 0]) (t := 47) ?hr ?_; (case hd => rfl); (case hg => rfl); (case hr => first | (go_simp; done) | (go_simp; rfl)); intro gb402 hg w32 hbox hb; have n0_ := Aside0.mk (below_step (by repeat (first | (with_reducible first | exact HB.out | apply below_alloc | apply pw_below_drewN | apply below_drew1) | exact HB.out)) hb); have n1_ := Aside0.mk (hbox); have n2_ := Aside0.mk ((by rw [hg]; exact (below_size (by repeat (first | (with_reducible first | exact HB.out | apply below_alloc | apply pw_below_drewN | apply below_drew1) | exact HB.out))) : w.heap.size ≤ gb402)); have n3_ := Aside0.mk ((by rw [hg]; exact (below_size (by repeat (first | (with_reducible first | exact HB.out | apply below_alloc | apply pw_below_drewN | apply below_drew1) | exact HB.out))) : w.heap.size ≤ gb402)); clear HB; have HB := n0_; have BK402 := n1_; have GW402 := n2_; have GE402 := n3_; clear n0_ n1_ n2_ n3_; clear hb hbox hg; have p5 : 0 ≤ (a1 : Int) := of_decide_eq_true (by first | (with_reducible assumption) | assumption); have q5 : a1 < (a0.size : Int) := of_decide_eq_true (by first | (with_reducible assumption) | assumption); have hx5 := bt_at a0 a1; replace p5 := eq_true p5; replace q5 := eq_true q5) | ((with_reducible refine gate_callee (f := 115) rfl ?_); refine goesL_ (some 16) rfl rfl Tryz.func115 (by kernel_rfl) rfl #[.int .u8 (bt a0 a1)] rfl (by (try simp only [List.map_toArray, List.map_cons, List.map_nil]); first | done | rfl | (simp only [List.length_drop, List.length_take]; rfl)) ?_; (with_reducible refine (metewandref13_small.calls (bt a0 a1) false _ A6.out).mono ?_); rintro e w' ⟨rfl, ⟨nd, rfl⟩⟩; refine ⟨_, rfl, ?_⟩; have p29 : 0 ≤ (a1 : Int) := of_decide_eq_true (by first | (with_reducible assumption) | assumption); have q29 : a1 < (a0.size : Int) := of_decide_eq_true (by first | (with_reducible assumption) | assumption); have hx29 := bt_at a0 a1; replace p29 := eq_true p29; replace q29 := eq_true q29) | ((with_reducible refine gate_callee (f := 117) rfl ?_); refine goesL_ (some 61) rfl rfl Tryz.func117 (by kernel_rfl) rfl #[.int .u8 (bt a0 a1)] rfl (by (try simp only [List.map_toArray, List.map_cons, List.map_nil]); first | done | rfl | (simp only [List.length_drop, List.length_take]; rfl)) ?_; (with_reducible refine (metewandref13_digit.calls (bt a0 a1) true _ A30.out).mono ?_); rintro e w' ⟨rfl, ⟨nd, rfl⟩⟩; refine ⟨_, rfl, ?_⟩))
          go_loopg [7] k (fun kq v7 w' => ∃ (x7_1 : Int), v7 = .int .i64 x7_1 ∧ Aside0 (metewandref13_token.l1 kq a0 a1 x7_1 = some (r1, r2, r3, r4, r5)) ∧ Aside0 (kq ≤ k) ∧ Aside0 (w'.heap[gb402]? = some (.cells #[.int .i64 0, .string (⟨#[]⟩ : ByteArray), .int .i64 0] 47 (0, 0))) ∧ Aside0 (Below w.heap.size w w'))
          case atStart => exact ⟨(wrap64 (a1 + 1)), (by first | rfl | (simp; done) | (simp [*]; done)), H', ⟨Nat.le_refl _⟩, ⟨by (with_reducible repeat (first | refine blk_drewN ?_ _ | refine blk_drew ?_ | refine blk_alloc ?_ _)); exact BK402.out⟩, ⟨by repeat (first | (with_reducible first | exact HB.out | apply below_alloc | apply pw_below_drewN | apply below_drew1 | refine below_set ?_ GE402.out) | exact HB.out)⟩⟩
          case round =>
            clear H'
            try clear c1
            try clear p1
            try clear q1
            try clear hx1
            try clear c2
            try clear p2
            try clear q2
            try clear hx2
            try clear c3
            try clear c3b0
            try clear c4
            try clear c4b0
            try clear p5
            try clear q5
            try clear hx5
            try clear p6
            try clear c7
            try clear c8
            try clear c10
            try clear c10b0
            try clear c11
            try clear c11b0
            try clear p12
            try clear q12
            try clear hx12
            try clear c14
            try clear p15
            try clear q15
            try clear hx15
            try clear c17
            try clear p18
            try clear q18
            try clear hx18
            try clear c20
            try clear c21
            try clear c21b0
            try clear c21b1
            try clear c22
            try clear c22b0
            try clear c22b1
            try clear c23
            try clear c23b0
            try clear c23b1
            try clear c25
            try clear p29
            try clear q29
            try clear hx29
            try clear c31
            try clear hcz26_0
            try clear hcz26_1
            try clear hcz26_2
            try clear hcz28_0
            try clear hcz28_1
            try clear hcz28_2
            try clear hfz26_0
            try clear hfz26_1
            try clear hfz26_2
            try clear hfz28_0
            try clear hfz28_1
            try clear hfz28_2
            try clear p1
            try clear p12
            try clear p15
            try clear p18
            try clear p2
            try clear p29
            try clear p5
            try clear p6
            try clear q1
            try clear q12
            try clear q15
            try clear q18
            try clear q29
            try clear q5
            obtain ⟨x7_1, rfl, HA, HK1, BK402, HB⟩ := hrel
            cases gk with
            | zero => exact absurd HA.out (by simp [metewandref13_token.l1])
            | succ k1 =>
              have H := HA.out
              clear HA
              simp only [metewandref13_token.l1] at H
              by_cases c33 : x7_1 < (a0.size : Int)
              · rw [if_pos c33] at H
                have c33b0 : decide (x7_1 < (a0.size : Int)) = true := decide_eq_true c33
                clear c33
                by_cases c34 : 0 ≤ x7_1
                · rw [if_pos c34] at H
                  have c34b0 : decide (0 ≤ x7_1) = true := decide_eq_true c34
                  clear c34
                  replace H := Option.bind_eq_some_iff.mp H
                  obtain ⟨t410, A360, H⟩ := H
                  replace H : (if t410 = true then (metewandref13_token.l1 k1 a0 a1 (wrap64 (x7_1 + 1))) else (if 0 ≤ a1 then (if a1 ≤ x7_1 then (if x7_1 ≤ (a0.size : Int) then (if ((a0.extract (a1 : Int).toNat (x7_1 : Int).toNat).size : Int) ≤ 400 then (if 0 < ((a0.extract (a1 : Int).toNat (x7_1 : Int).toNat).size : Int) then (if (bt (a0.extract (a1 : Int).toNat (x7_1 : Int).toNat) 0) = 48 then (some (2, a0.extract (a1 : Int).toNat (x7_1 : Int).toNat, a1, x7_1, (((a0.extract (a1 : Int).toNat (x7_1 : Int).toNat).size : Int) == 1))) else (some (2, a0.extract (a1 : Int).toNat (x7_1 : Int).toNat, a1, x7_1, true))) else (none)) else (some (2, a0.extract (a1 : Int).toNat (x7_1 : Int).toNat, a1, x7_1, false))) else (none)) else (none)) else (none))) = some (r1, r2, r3, r4, r5) := H
                  have A36 := Aside0.mk A360
                  clear A360
                  by_cases c37 : t410 = true
                  · subst c37
                    have H1 : (metewandref13_token.l1 k1 a0 a1 (wrap64 (x7_1 + 1))) = some (r1, r2, r3, r4, r5) := by rw [if_pos rfl] at H; exact H
                    clear H
                    have H := H1
                    clear H1
                    have H' := Aside0.mk H
                    clear H
                    have p35 : 0 ≤ (x7_1 : Int) := of_decide_eq_true (by first | (with_reducible assumption) | assumption)
                    have q35 : x7_1 < (a0.size : Int) := of_decide_eq_true (by first | (with_reducible assumption) | assumption)
                    have hx35 := bt_at a0 x7_1
                    replace p35 := eq_true p35
                    replace q35 := eq_true q35
                    go_wp2_with (first | (go_at_call 117; (with_reducible refine (metewandref13_digit.calls (bt a0 x7_1) true _ A36.out).mono ?_); rintro e w' ⟨rfl, ⟨nd, rfl⟩⟩))
                    go_roundg k1
                    case measure => have := HK1.out; omega
                    case rel => exact ⟨(wrap64 (x7_1 + 1)), (by first | rfl | (simp; done) | (simp [*]; done)), H', ⟨by have := HK1.out; omega⟩, ⟨by (with_reducible repeat (first | refine blk_drewN ?_ _ | refine blk_drew ?_ | refine blk_alloc ?_ _)); exact BK402.out⟩, ⟨by repeat (first | (with_reducible first | exact HB.out | apply below_alloc | apply pw_below_drewN | apply below_drew1 | refine below_set ?_ GE402.out) | exact HB.out)⟩⟩
                  · replace c37 := Bool.eq_false_iff.mpr c37
                    subst c37
                    have H1 : (if 0 ≤ a1 then (if a1 ≤ x7_1 then (if x7_1 ≤ (a0.size : Int) then (if ((a0.extract (a1 : Int).toNat (x7_1 : Int).toNat).size : Int) ≤ 400 then (if 0 < ((a0.extract (a1 : Int).toNat (x7_1 : Int).toNat).size : Int) then (if (bt (a0.extract (a1 : Int).toNat (x7_1 : Int).toNat) 0) = 48 then (some (2, a0.extract (a1 : Int).toNat (x7_1 : Int).toNat, a1, x7_1, (((a0.extract (a1 : Int).toNat (x7_1 : Int).toNat).size : Int) == 1))) else (some (2, a0.extract (a1 : Int).toNat (x7_1 : Int).toNat, a1, x7_1, true))) else (none)) else (some (2, a0.extract (a1 : Int).toNat (x7_1 : Int).toNat, a1, x7_1, false))) else (none)) else (none)) else (none)) = some (r1, r2, r3, r4, r5) := by rw [if_neg (show ¬ (false = true) by decide)] at H; exact H
                    clear H
                    have H := H1
                    clear H1
                    by_cases c38 : 0 ≤ a1
                    · rw [if_pos c38] at H
                      have c38b0 := eq_true c38
                      have c38b1 : decide (0 ≤ a1) = true := decide_eq_true c38
                      clear c38
                      by_cases c39 : a1 ≤ x7_1
                      · rw [if_pos c39] at H
                        have c39b0 := eq_true c39
                        have c39b1 : decide (a1 ≤ x7_1) = true := decide_eq_true c39
                        clear c39
                        by_cases c40 : x7_1 ≤ (a0.size : Int)
                        · rw [if_pos c40] at H
                          have hsz : (a0.extract (a1 : Int).toNat (x7_1 : Int).toNat).size = (x7_1 : Int).toNat - (a1 : Int).toNat := by rw [ByteArray.size_extract]; omega
                          rw [hsz] at H
                          have c40b0 := eq_true c40
                          have c40b1 : decide (x7_1 ≤ (a0.size : Int)) = true := decide_eq_true c40
                          clear c40
                          by_cases c41 : ((((x7_1 : Int).toNat - (a1 : Int).toNat : Nat)) : Int) ≤ 400
                          · rw [if_pos c41] at H
                            have c41b0 : decide (((((x7_1 : Int).toNat - (a1 : Int).toNat : Nat)) : Int) ≤ 400) = true := decide_eq_true c41
                            have c41b1 : decide ((((x7_1 : Int).toNat - (a1 : Int).toNat : Nat)) ≤ 400) = true := decide_eq_true (by omega)
                            clear c41
                            by_cases c42 : 0 < ((((x7_1 : Int).toNat - (a1 : Int).toNat : Nat)) : Int)
                            · rw [if_pos c42] at H
                              have c42b0 : decide (0 < ((((x7_1 : Int).toNat - (a1 : Int).toNat : Nat)) : Int)) = true := decide_eq_true c42
                              have c42b1 : decide (0 < (((x7_1 : Int).toNat - (a1 : Int).toNat : Nat))) = true := decide_eq_true (by omega)
                              clear c42
                              by_cases c44 : (bt (a0.extract (a1 : Int).toNat (x7_1 : Int).toNat) 0) = 48
                              · rw [if_pos c44] at H
                                have c44b0 : ((bt (a0.extract (a1 : Int).toNat (x7_1 : Int).toNat) 0) == 48) = true := beq_iff_eq.mpr c44
                                have c44b1 : ((bt (a0.extract (a1 : Int).toNat (x7_1 : Int).toNat) 0) != 48) = false := bne_eq_false_iff_eq.mpr c44
                                clear c44
                                simp only [Option.some.injEq, Prod.mk.injEq] at H
                                obtain ⟨rfl, rfl, rfl, rfl, rfl⟩ := H
                                have p53 : 0 ≤ (0 : Int) := (by omega)
                                have q53 : 0 < (((x7_1 : Int).toNat - (a1 : Int).toNat : Nat)) := (by have : (0 : Int) < ((((x7_1 : Int).toNat - (a1 : Int).toNat : Nat)) : Int) := of_decide_eq_true (by first | (with_reducible assumption) | assumption); omega)
                                have hx53 : ∀ h : 0 < (a0.extract (a1 : Int).toNat (x7_1 : Int).toNat).size, (((a0.extract (a1 : Int).toNat (x7_1 : Int).toNat)[0]'h).toNat : Int) = bt (a0.extract (a1 : Int).toNat (x7_1 : Int).toNat) 0 := bt_at (a0.extract (a1 : Int).toNat (x7_1 : Int).toNat) 0
                                clear p53
                                have qi53 : (0 < ((((x7_1 : Int).toNat - (a1 : Int).toNat : Nat)) : Int)) = True := eq_true (of_decide_eq_true (by first | (with_reducible assumption) | assumption))
                                replace q53 := eq_true q53
                                have p35 : 0 ≤ (x7_1 : Int) := of_decide_eq_true (by first | (with_reducible assumption) | assumption)
                                have q35 : x7_1 < (a0.size : Int) := of_decide_eq_true (by first | (with_reducible assumption) | assumption)
                                have hx35 := bt_at a0 x7_1
                                replace p35 := eq_true p35
                                replace q35 := eq_true q35
                                go_wp2_with (first | (go_at_call 117; (with_reducible refine (metewandref13_digit.calls (bt a0 x7_1) false _ A36.out).mono ?_); rintro e w' ⟨rfl, ⟨nd, rfl⟩⟩; (try (rw [drewN_self wr]; generalize hq_ : World.drewN wr _ = wr; have n0_ : Aside0 (wr.heap[gb402]? = some (.cells #[.int .i64 0, .string (⟨#[]⟩ : ByteArray), .int .i64 0] 47 (0, 0))) := ⟨by rw [← hq_]; exact (by (with_reducible repeat (first | refine blk_drewN ?_ _ | refine blk_drew ?_ | refine blk_alloc ?_ _)); exact BK402.out)⟩; have n1_ : Aside0 (Below w.heap.size w wr) := ⟨by rw [← hq_]; exact (by repeat (first | (with_reducible first | exact HB.out | apply below_alloc | apply pw_below_drewN | apply below_drew1 | refine below_set ?_ GE402.out) | exact HB.out))⟩; clear BK402 HB hq_; have BK402 := n0_; have HB := n1_; clear n0_ n1_)); have p43 : 0 ≤ (0 : Int) := (by omega); have q43 : 0 < (((x7_1 : Int).toNat - (a1 : Int).toNat : Nat)) := (by have : (0 : Int) < ((((x7_1 : Int).toNat - (a1 : Int).toNat : Nat)) : Int) := of_decide_eq_true (by first | (with_reducible assumption) | assumption); omega); have hx43 : ∀ h : 0 < (a0.extract (a1 : Int).toNat (x7_1 : Int).toNat).size, (((a0.extract (a1 : Int).toNat (x7_1 : Int).toNat)[0]'h).toNat : Int) = bt (a0.extract (a1 : Int).toNat (x7_1 : Int).toNat) 0 := bt_at (a0.extract (a1 : Int).toNat (x7_1 : Int).toNat) 0; clear p43; have qi43 : (0 < ((((x7_1 : Int).toNat - (a1 : Int).toNat : Nat)) : Int)) = True := eq_true (of_decide_eq_true (by first | (with_reducible assumption) | assumption)); replace q43 := eq_true q43; have hcz45_0 : wr.cell? ⟨gb402, 0, none⟩ = some (.int .i64 0) := (blk_cell BK402.out 0).trans rfl; have hcz45_1 : wr.cell? ⟨gb402, 1, none⟩ = some (.string (⟨#[]⟩ : ByteArray)) := (blk_cell BK402.out 1).trans rfl; have hcz45_2 : wr.cell? ⟨gb402, 2, none⟩ = some (.int .i64 0) := (blk_cell BK402.out 2).trans rfl; have hfz45_0 := blk_frozen BK402.out 0; have hfz45_1 := blk_frozen BK402.out 1; have hfz45_2 := blk_frozen BK402.out 2))
                                refine bodyPost_ret (results_ctt rfl _ _ gb402 47 #[.int .i64 2, .string (a0.extract (a1 : Int).toNat (x7_1 : Int).toNat), .int .i64 a1] (0, 0) _ rfl (by (with_reducible repeat (first | refine blk_drewN ?_ _ | refine blk_drew ?_ | refine blk_alloc ?_ _)); refine blk_put (cs := #[.int .i64 2, .string (a0.extract (a1 : Int).toNat (x7_1 : Int).toNat), .int .i64 0]) ?_ 2 _ rfl; (with_reducible repeat (first | refine blk_drewN ?_ _ | refine blk_drew ?_ | refine blk_alloc ?_ _)); refine blk_put (cs := #[.int .i64 2, .string (⟨#[]⟩ : ByteArray), .int .i64 0]) ?_ 1 _ rfl; (with_reducible repeat (first | refine blk_drewN ?_ _ | refine blk_drew ?_ | refine blk_alloc ?_ _)); refine blk_put (cs := #[.int .i64 0, .string (⟨#[]⟩ : ByteArray), .int .i64 0]) ?_ 0 _ rfl; (with_reducible repeat (first | refine blk_drewN ?_ _ | refine blk_drew ?_ | refine blk_alloc ?_ _)); exact BK402.out) Tryz.underlying47 rfl (by kernel_rfl)) rfl ?_
                                exact ⟨by first | rfl | (simp [errW_none, errW_some] <;> rfl) | (simp [*, errW_none, errW_some] <;> rfl), by repeat (first | (with_reducible first | exact HB.out | apply below_alloc | apply pw_below_drewN | apply below_drew1 | refine below_set ?_ GE402.out) | exact HB.out)⟩
                              · rw [if_neg c44] at H
                                have c44b0 : ((bt (a0.extract (a1 : Int).toNat (x7_1 : Int).toNat) 0) == 48) = false := beq_eq_false_iff_ne.mpr c44
                                have c44b1 : ((bt (a0.extract (a1 : Int).toNat (x7_1 : Int).toNat) 0) != 48) = true := bne_iff_ne.mpr c44
                                simp only [Option.some.injEq, Prod.mk.injEq] at H
                                obtain ⟨rfl, rfl, rfl, rfl, rfl⟩ := H
                                have p53 : 0 ≤ (0 : Int) := (by omega)
                                have q53 : 0 < (((x7_1 : Int).toNat - (a1 : Int).toNat : Nat)) := (by have : (0 : Int) < ((((x7_1 : Int).toNat - (a1 : Int).toNat : Nat)) : Int) := of_decide_eq_true (by first | (with_reducible assumption) | assumption); omega)
                                have hx53 : ∀ h : 0 < (a0.extract (a1 : Int).toNat (x7_1 : Int).toNat).size, (((a0.extract (a1 : Int).toNat (x7_1 : Int).toNat)[0]'h).toNat : Int) = bt (a0.extract (a1 : Int).toNat (x7_1 : Int).toNat) 0 := bt_at (a0.extract (a1 : Int).toNat (x7_1 : Int).toNat) 0
                                clear p53
                                have qi53 : (0 < ((((x7_1 : Int).toNat - (a1 : Int).toNat : Nat)) : Int)) = True := eq_true (of_decide_eq_true (by first | (with_reducible assumption) | assumption))
                                replace q53 := eq_true q53
                                have p35 : 0 ≤ (x7_1 : Int) := of_decide_eq_true (by first | (with_reducible assumption) | assumption)
                                have q35 : x7_1 < (a0.size : Int) := of_decide_eq_true (by first | (with_reducible assumption) | assumption)
                                have hx35 := bt_at a0 x7_1
                                replace p35 := eq_true p35
                                replace q35 := eq_true q35
                                go_wp2_with (first | (go_at_call 117; (with_reducible refine (metewandref13_digit.calls (bt a0 x7_1) false _ A36.out).mono ?_); rintro e w' ⟨rfl, ⟨nd, rfl⟩⟩; (try (rw [drewN_self wr]; generalize hq_ : World.drewN wr _ = wr; have n0_ : Aside0 (wr.heap[gb402]? = some (.cells #[.int .i64 0, .string (⟨#[]⟩ : ByteArray), .int .i64 0] 47 (0, 0))) := ⟨by rw [← hq_]; exact (by (with_reducible repeat (first | refine blk_drewN ?_ _ | refine blk_drew ?_ | refine blk_alloc ?_ _)); exact BK402.out)⟩; have n1_ : Aside0 (Below w.heap.size w wr) := ⟨by rw [← hq_]; exact (by repeat (first | (with_reducible first | exact HB.out | apply below_alloc | apply pw_below_drewN | apply below_drew1 | refine below_set ?_ GE402.out) | exact HB.out))⟩; clear BK402 HB hq_; have BK402 := n0_; have HB := n1_; clear n0_ n1_)); have p43 : 0 ≤ (0 : Int) := (by omega); have q43 : 0 < (((x7_1 : Int).toNat - (a1 : Int).toNat : Nat)) := (by have : (0 : Int) < ((((x7_1 : Int).toNat - (a1 : Int).toNat : Nat)) : Int) := of_decide_eq_true (by first | (with_reducible assumption) | assumption); omega); have hx43 : ∀ h : 0 < (a0.extract (a1 : Int).toNat (x7_1 : Int).toNat).size, (((a0.extract (a1 : Int).toNat (x7_1 : Int).toNat)[0]'h).toNat : Int) = bt (a0.extract (a1 : Int).toNat (x7_1 : Int).toNat) 0 := bt_at (a0.extract (a1 : Int).toNat (x7_1 : Int).toNat) 0; clear p43; have qi43 : (0 < ((((x7_1 : Int).toNat - (a1 : Int).toNat : Nat)) : Int)) = True := eq_true (of_decide_eq_true (by first | (with_reducible assumption) | assumption)); replace q43 := eq_true q43; have hcz46_0 : wr.cell? ⟨gb402, 0, none⟩ = some (.int .i64 0) := (blk_cell BK402.out 0).trans rfl; have hcz46_1 : wr.cell? ⟨gb402, 1, none⟩ = some (.string (⟨#[]⟩ : ByteArray)) := (blk_cell BK402.out 1).trans rfl; have hcz46_2 : wr.cell? ⟨gb402, 2, none⟩ = some (.int .i64 0) := (blk_cell BK402.out 2).trans rfl; have hfz46_0 := blk_frozen BK402.out 0; have hfz46_1 := blk_frozen BK402.out 1; have hfz46_2 := blk_frozen BK402.out 2))
                                refine bodyPost_ret (results_ctt rfl _ _ gb402 47 #[.int .i64 2, .string (a0.extract (a1 : Int).toNat (x7_1 : Int).toNat), .int .i64 a1] (0, 0) _ rfl (by (with_reducible repeat (first | refine blk_drewN ?_ _ | refine blk_drew ?_ | refine blk_alloc ?_ _)); refine blk_put (cs := #[.int .i64 2, .string (a0.extract (a1 : Int).toNat (x7_1 : Int).toNat), .int .i64 0]) ?_ 2 _ rfl; (with_reducible repeat (first | refine blk_drewN ?_ _ | refine blk_drew ?_ | refine blk_alloc ?_ _)); refine blk_put (cs := #[.int .i64 2, .string (⟨#[]⟩ : ByteArray), .int .i64 0]) ?_ 1 _ rfl; (with_reducible repeat (first | refine blk_drewN ?_ _ | refine blk_drew ?_ | refine blk_alloc ?_ _)); refine blk_put (cs := #[.int .i64 0, .string (⟨#[]⟩ : ByteArray), .int .i64 0]) ?_ 0 _ rfl; (with_reducible repeat (first | refine blk_drewN ?_ _ | refine blk_drew ?_ | refine blk_alloc ?_ _)); exact BK402.out) Tryz.underlying47 rfl (by kernel_rfl)) rfl ?_
                                exact ⟨by first | rfl | (simp [errW_none, errW_some] <;> rfl) | (simp [*, errW_none, errW_some] <;> rfl), by repeat (first | (with_reducible first | exact HB.out | apply below_alloc | apply pw_below_drewN | apply below_drew1 | refine below_set ?_ GE402.out) | exact HB.out)⟩
                            · rw [if_neg c42] at H
                              exact absurd H (by simp)
                          · rw [if_neg c41] at H
                            have c41b0 : decide (((((x7_1 : Int).toNat - (a1 : Int).toNat : Nat)) : Int) ≤ 400) = false := decide_eq_false c41
                            have c41b1 : decide ((((x7_1 : Int).toNat - (a1 : Int).toNat : Nat)) ≤ 400) = false := decide_eq_false (by omega)
                            clear c41
                            simp only [Option.some.injEq, Prod.mk.injEq] at H
                            obtain ⟨rfl, rfl, rfl, rfl, rfl⟩ := H
                            have p35 : 0 ≤ (x7_1 : Int) := of_decide_eq_true (by first | (with_reducible assumption) | assumption)
                            have q35 : x7_1 < (a0.size : Int) := of_decide_eq_true (by first | (with_reducible assumption) | assumption)
                            have hx35 := bt_at a0 x7_1
                            replace p35 := eq_true p35
                            replace q35 := eq_true q35
                            go_wp2_with (first | (go_at_call 117; (with_reducible refine (metewandref13_digit.calls (bt a0 x7_1) false _ A36.out).mono ?_); rintro e w' ⟨rfl, ⟨nd, rfl⟩⟩; (try (rw [drewN_self wr]; generalize hq_ : World.drewN wr _ = wr; have n0_ : Aside0 (wr.heap[gb402]? = some (.cells #[.int .i64 0, .string (⟨#[]⟩ : ByteArray), .int .i64 0] 47 (0, 0))) := ⟨by rw [← hq_]; exact (by (with_reducible repeat (first | refine blk_drewN ?_ _ | refine blk_drew ?_ | refine blk_alloc ?_ _)); exact BK402.out)⟩; have n1_ : Aside0 (Below w.heap.size w wr) := ⟨by rw [← hq_]; exact (by repeat (first | (with_reducible first | exact HB.out | apply below_alloc | apply pw_below_drewN | apply below_drew1 | refine below_set ?_ GE402.out) | exact HB.out))⟩; clear BK402 HB hq_; have BK402 := n0_; have HB := n1_; clear n0_ n1_)); have hcz47_0 : wr.cell? ⟨gb402, 0, none⟩ = some (.int .i64 0) := (blk_cell BK402.out 0).trans rfl; have hcz47_1 : wr.cell? ⟨gb402, 1, none⟩ = some (.string (⟨#[]⟩ : ByteArray)) := (blk_cell BK402.out 1).trans rfl; have hcz47_2 : wr.cell? ⟨gb402, 2, none⟩ = some (.int .i64 0) := (blk_cell BK402.out 2).trans rfl; have hfz47_0 := blk_frozen BK402.out 0; have hfz47_1 := blk_frozen BK402.out 1; have hfz47_2 := blk_frozen BK402.out 2))
                            refine bodyPost_ret (results_ctt rfl _ _ gb402 47 #[.int .i64 2, .string (a0.extract (a1 : Int).toNat (x7_1 : Int).toNat), .int .i64 a1] (0, 0) _ rfl (by (with_reducible repeat (first | refine blk_drewN ?_ _ | refine blk_drew ?_ | refine blk_alloc ?_ _)); refine blk_put (cs := #[.int .i64 2, .string (a0.extract (a1 : Int).toNat (x7_1 : Int).toNat), .int .i64 0]) ?_ 2 _ rfl; (with_reducible repeat (first | refine blk_drewN ?_ _ | refine blk_drew ?_ | refine blk_alloc ?_ _)); refine blk_put (cs := #[.int .i64 2, .string (⟨#[]⟩ : ByteArray), .int .i64 0]) ?_ 1 _ rfl; (with_reducible repeat (first | refine blk_drewN ?_ _ | refine blk_drew ?_ | refine blk_alloc ?_ _)); refine blk_put (cs := #[.int .i64 0, .string (⟨#[]⟩ : ByteArray), .int .i64 0]) ?_ 0 _ rfl; (with_reducible repeat (first | refine blk_drewN ?_ _ | refine blk_drew ?_ | refine blk_alloc ?_ _)); exact BK402.out) Tryz.underlying47 rfl (by kernel_rfl)) rfl ?_
                            exact ⟨by first | rfl | (simp [errW_none, errW_some] <;> rfl) | (simp [*, errW_none, errW_some] <;> rfl), by repeat (first | (with_reducible first | exact HB.out | apply below_alloc | apply pw_below_drewN | apply below_drew1 | refine below_set ?_ GE402.out) | exact HB.out)⟩
                        · rw [if_neg c40] at H
                          exact absurd H (by simp)
                      · rw [if_neg c39] at H
                        exact absurd H (by simp)
                    · rw [if_neg c38] at H
                      exact absurd H (by simp)
                · rw [if_neg c34] at H
                  exact absurd H (by simp)
              · rw [if_neg c33] at H
                have c33b0 : decide (x7_1 < (a0.size : Int)) = false := decide_eq_false c33
                clear c33
                by_cases c48 : 0 ≤ a1
                · rw [if_pos c48] at H
                  have c48b0 := eq_true c48
                  have c48b1 : decide (0 ≤ a1) = true := decide_eq_true c48
                  clear c48
                  by_cases c49 : a1 ≤ x7_1
                  · rw [if_pos c49] at H
                    have c49b0 := eq_true c49
                    have c49b1 : decide (a1 ≤ x7_1) = true := decide_eq_true c49
                    clear c49
                    by_cases c50 : x7_1 ≤ (a0.size : Int)
                    · rw [if_pos c50] at H
                      have hsz : (a0.extract (a1 : Int).toNat (x7_1 : Int).toNat).size = (x7_1 : Int).toNat - (a1 : Int).toNat := by rw [ByteArray.size_extract]; omega
                      rw [hsz] at H
                      have c50b0 := eq_true c50
                      have c50b1 : decide (x7_1 ≤ (a0.size : Int)) = true := decide_eq_true c50
                      clear c50
                      by_cases c51 : ((((x7_1 : Int).toNat - (a1 : Int).toNat : Nat)) : Int) ≤ 400
                      · rw [if_pos c51] at H
                        have c51b0 : decide (((((x7_1 : Int).toNat - (a1 : Int).toNat : Nat)) : Int) ≤ 400) = true := decide_eq_true c51
                        have c51b1 : decide ((((x7_1 : Int).toNat - (a1 : Int).toNat : Nat)) ≤ 400) = true := decide_eq_true (by omega)
                        clear c51
                        by_cases c52 : 0 < ((((x7_1 : Int).toNat - (a1 : Int).toNat : Nat)) : Int)
                        · rw [if_pos c52] at H
                          have c52b0 : decide (0 < ((((x7_1 : Int).toNat - (a1 : Int).toNat : Nat)) : Int)) = true := decide_eq_true c52
                          have c52b1 : decide (0 < (((x7_1 : Int).toNat - (a1 : Int).toNat : Nat))) = true := decide_eq_true (by omega)
                          clear c52
                          by_cases c54 : (bt (a0.extract (a1 : Int).toNat (x7_1 : Int).toNat) 0) = 48
                          · rw [if_pos c54] at H
                            have c54b0 : ((bt (a0.extract (a1 : Int).toNat (x7_1 : Int).toNat) 0) == 48) = true := beq_iff_eq.mpr c54
                            have c54b1 : ((bt (a0.extract (a1 : Int).toNat (x7_1 : Int).toNat) 0) != 48) = false := bne_eq_false_iff_eq.mpr c54
                            clear c54
                            simp only [Option.some.injEq, Prod.mk.injEq] at H
                            obtain ⟨rfl, rfl, rfl, rfl, rfl⟩ := H
                            have p53 : 0 ≤ (0 : Int) := (by omega)
                            have q53 : 0 < (((x7_1 : Int).toNat - (a1 : Int).toNat : Nat)) := (by have : (0 : Int) < ((((x7_1 : Int).toNat - (a1 : Int).toNat : Nat)) : Int) := of_decide_eq_true (by first | (with_reducible assumption) | assumption); omega)
                            have hx53 : ∀ h : 0 < (a0.extract (a1 : Int).toNat (x7_1 : Int).toNat).size, (((a0.extract (a1 : Int).toNat (x7_1 : Int).toNat)[0]'h).toNat : Int) = bt (a0.extract (a1 : Int).toNat (x7_1 : Int).toNat) 0 := bt_at (a0.extract (a1 : Int).toNat (x7_1 : Int).toNat) 0
                            clear p53
                            have qi53 : (0 < ((((x7_1 : Int).toNat - (a1 : Int).toNat : Nat)) : Int)) = True := eq_true (of_decide_eq_true (by first | (with_reducible assumption) | assumption))
                            replace q53 := eq_true q53
                            have hcz55_0 : wr.cell? ⟨gb402, 0, none⟩ = some (.int .i64 0) := (blk_cell BK402.out 0).trans rfl
                            have hcz55_1 : wr.cell? ⟨gb402, 1, none⟩ = some (.string (⟨#[]⟩ : ByteArray)) := (blk_cell BK402.out 1).trans rfl
                            have hcz55_2 : wr.cell? ⟨gb402, 2, none⟩ = some (.int .i64 0) := (blk_cell BK402.out 2).trans rfl
                            have hfz55_0 := blk_frozen BK402.out 0
                            have hfz55_1 := blk_frozen BK402.out 1
                            have hfz55_2 := blk_frozen BK402.out 2
                            go_wp2
                            refine bodyPost_ret (results_ctt rfl _ _ gb402 47 #[.int .i64 2, .string (a0.extract (a1 : Int).toNat (x7_1 : Int).toNat), .int .i64 a1] (0, 0) _ rfl (by (with_reducible repeat (first | refine blk_drewN ?_ _ | refine blk_drew ?_ | refine blk_alloc ?_ _)); refine blk_put (cs := #[.int .i64 2, .string (a0.extract (a1 : Int).toNat (x7_1 : Int).toNat), .int .i64 0]) ?_ 2 _ rfl; (with_reducible repeat (first | refine blk_drewN ?_ _ | refine blk_drew ?_ | refine blk_alloc ?_ _)); refine blk_put (cs := #[.int .i64 2, .string (⟨#[]⟩ : ByteArray), .int .i64 0]) ?_ 1 _ rfl; (with_reducible repeat (first | refine blk_drewN ?_ _ | refine blk_drew ?_ | refine blk_alloc ?_ _)); refine blk_put (cs := #[.int .i64 0, .string (⟨#[]⟩ : ByteArray), .int .i64 0]) ?_ 0 _ rfl; (with_reducible repeat (first | refine blk_drewN ?_ _ | refine blk_drew ?_ | refine blk_alloc ?_ _)); exact BK402.out) Tryz.underlying47 rfl (by kernel_rfl)) rfl ?_
                            exact ⟨by first | rfl | (simp [errW_none, errW_some] <;> rfl) | (simp [*, errW_none, errW_some] <;> rfl), by repeat (first | (with_reducible first | exact HB.out | apply below_alloc | apply pw_below_drewN | apply below_drew1 | refine below_set ?_ GE402.out) | exact HB.out)⟩
                          · rw [if_neg c54] at H
                            have c54b0 : ((bt (a0.extract (a1 : Int).toNat (x7_1 : Int).toNat) 0) == 48) = false := beq_eq_false_iff_ne.mpr c54
                            have c54b1 : ((bt (a0.extract (a1 : Int).toNat (x7_1 : Int).toNat) 0) != 48) = true := bne_iff_ne.mpr c54
                            simp only [Option.some.injEq, Prod.mk.injEq] at H
                            obtain ⟨rfl, rfl, rfl, rfl, rfl⟩ := H
                            have p53 : 0 ≤ (0 : Int) := (by omega)
                            have q53 : 0 < (((x7_1 : Int).toNat - (a1 : Int).toNat : Nat)) := (by have : (0 : Int) < ((((x7_1 : Int).toNat - (a1 : Int).toNat : Nat)) : Int) := of_decide_eq_true (by first | (with_reducible assumption) | assumption); omega)
                            have hx53 : ∀ h : 0 < (a0.extract (a1 : Int).toNat (x7_1 : Int).toNat).size, (((a0.extract (a1 : Int).toNat (x7_1 : Int).toNat)[0]'h).toNat : Int) = bt (a0.extract (a1 : Int).toNat (x7_1 : Int).toNat) 0 := bt_at (a0.extract (a1 : Int).toNat (x7_1 : Int).toNat) 0
                            clear p53
                            have qi53 : (0 < ((((x7_1 : Int).toNat - (a1 : Int).toNat : Nat)) : Int)) = True := eq_true (of_decide_eq_true (by first | (with_reducible assumption) | assumption))
                            replace q53 := eq_true q53
                            have hcz56_0 : wr.cell? ⟨gb402, 0, none⟩ = some (.int .i64 0) := (blk_cell BK402.out 0).trans rfl
                            have hcz56_1 : wr.cell? ⟨gb402, 1, none⟩ = some (.string (⟨#[]⟩ : ByteArray)) := (blk_cell BK402.out 1).trans rfl
                            have hcz56_2 : wr.cell? ⟨gb402, 2, none⟩ = some (.int .i64 0) := (blk_cell BK402.out 2).trans rfl
                            have hfz56_0 := blk_frozen BK402.out 0
                            have hfz56_1 := blk_frozen BK402.out 1
                            have hfz56_2 := blk_frozen BK402.out 2
                            go_wp2
                            refine bodyPost_ret (results_ctt rfl _ _ gb402 47 #[.int .i64 2, .string (a0.extract (a1 : Int).toNat (x7_1 : Int).toNat), .int .i64 a1] (0, 0) _ rfl (by (with_reducible repeat (first | refine blk_drewN ?_ _ | refine blk_drew ?_ | refine blk_alloc ?_ _)); refine blk_put (cs := #[.int .i64 2, .string (a0.extract (a1 : Int).toNat (x7_1 : Int).toNat), .int .i64 0]) ?_ 2 _ rfl; (with_reducible repeat (first | refine blk_drewN ?_ _ | refine blk_drew ?_ | refine blk_alloc ?_ _)); refine blk_put (cs := #[.int .i64 2, .string (⟨#[]⟩ : ByteArray), .int .i64 0]) ?_ 1 _ rfl; (with_reducible repeat (first | refine blk_drewN ?_ _ | refine blk_drew ?_ | refine blk_alloc ?_ _)); refine blk_put (cs := #[.int .i64 0, .string (⟨#[]⟩ : ByteArray), .int .i64 0]) ?_ 0 _ rfl; (with_reducible repeat (first | refine blk_drewN ?_ _ | refine blk_drew ?_ | refine blk_alloc ?_ _)); exact BK402.out) Tryz.underlying47 rfl (by kernel_rfl)) rfl ?_
                            exact ⟨by first | rfl | (simp [errW_none, errW_some] <;> rfl) | (simp [*, errW_none, errW_some] <;> rfl), by repeat (first | (with_reducible first | exact HB.out | apply below_alloc | apply pw_below_drewN | apply below_drew1 | refine below_set ?_ GE402.out) | exact HB.out)⟩
                        · rw [if_neg c52] at H
                          exact absurd H (by simp)
                      · rw [if_neg c51] at H
                        have c51b0 : decide (((((x7_1 : Int).toNat - (a1 : Int).toNat : Nat)) : Int) ≤ 400) = false := decide_eq_false c51
                        have c51b1 : decide ((((x7_1 : Int).toNat - (a1 : Int).toNat : Nat)) ≤ 400) = false := decide_eq_false (by omega)
                        clear c51
                        simp only [Option.some.injEq, Prod.mk.injEq] at H
                        obtain ⟨rfl, rfl, rfl, rfl, rfl⟩ := H
                        have hcz57_0 : wr.cell? ⟨gb402, 0, none⟩ = some (.int .i64 0) := (blk_cell BK402.out 0).trans rfl
                        have hcz57_1 : wr.cell? ⟨gb402, 1, none⟩ = some (.string (⟨#[]⟩ : ByteArray)) := (blk_cell BK402.out 1).trans rfl
                        have hcz57_2 : wr.cell? ⟨gb402, 2, none⟩ = some (.int .i64 0) := (blk_cell BK402.out 2).trans rfl
                        have hfz57_0 := blk_frozen BK402.out 0
                        have hfz57_1 := blk_frozen BK402.out 1
                        have hfz57_2 := blk_frozen BK402.out 2
                        go_wp2
                        refine bodyPost_ret (results_ctt rfl _ _ gb402 47 #[.int .i64 2, .string (a0.extract (a1 : Int).toNat (x7_1 : Int).toNat), .int .i64 a1] (0, 0) _ rfl (by (with_reducible repeat (first | refine blk_drewN ?_ _ | refine blk_drew ?_ | refine blk_alloc ?_ _)); refine blk_put (cs := #[.int .i64 2, .string (a0.extract (a1 : Int).toNat (x7_1 : Int).toNat), .int .i64 0]) ?_ 2 _ rfl; (with_reducible repeat (first | refine blk_drewN ?_ _ | refine blk_drew ?_ | refine blk_alloc ?_ _)); refine blk_put (cs := #[.int .i64 2, .string (⟨#[]⟩ : ByteArray), .int .i64 0]) ?_ 1 _ rfl; (with_reducible repeat (first | refine blk_drewN ?_ _ | refine blk_drew ?_ | refine blk_alloc ?_ _)); refine blk_put (cs := #[.int .i64 0, .string (⟨#[]⟩ : ByteArray), .int .i64 0]) ?_ 0 _ rfl; (with_reducible repeat (first | refine blk_drewN ?_ _ | refine blk_drew ?_ | refine blk_alloc ?_ _)); exact BK402.out) Tryz.underlying47 rfl (by kernel_rfl)) rfl ?_
                        exact ⟨by first | rfl | (simp [errW_none, errW_some] <;> rfl) | (simp [*, errW_none, errW_some] <;> rfl), by repeat (first | (with_reducible first | exact HB.out | apply below_alloc | apply pw_below_drewN | apply below_drew1 | refine below_set ?_ GE402.out) | exact HB.out)⟩
                    · rw [if_neg c50] at H
                      exact absurd H (by simp)
                  · rw [if_neg c49] at H
                    exact absurd H (by simp)
                · rw [if_neg c48] at H
                  exact absurd H (by simp)
        · replace c31 := Bool.eq_false_iff.mpr c31
          subst c31
          have H1 : (if (bt a0 a1) = 123 then (metewandref13_token.l2 k a0 a1 (wrap64 (a1 + 1))) else ((metewandref13_sign.f k (bt a0 a1)).bind fun t413 => (if t413 = true then (if a1 ≤ (wrap64 (a1 + 1)) then (if (wrap64 (a1 + 1)) ≤ (a0.size : Int) then (some (4, a0.extract (a1 : Int).toNat ((wrap64 (a1 + 1)) : Int).toNat, a1, wrap64 (a1 + 1), true)) else (none)) else (none)) else (some (0, (⟨#[]⟩ : ByteArray), 0, 0, false))))) = some (r1, r2, r3, r4, r5) := by rw [if_neg (show ¬ (false = true) by decide)] at H; exact H
          clear H
          have H := H1
          clear H1
          by_cases c59 : (bt a0 a1) = 123
          · rw [if_pos c59] at H
            have c59b0 : ((bt a0 a1) == 123) = true := beq_iff_eq.mpr c59
            have c59b1 : ((bt a0 a1) != 123) = false := bne_eq_false_iff_eq.mpr c59
            clear c59
            have H' := Aside0.mk H
            clear H
            go_enter Tryz.func89, Tryz.ntmps89
            go_wp2_with (first | ((with_reducible refine gate_dst (N := 4) rfl ?_); (try (refine gate_guard (by rfl) ?_; dsimp only)); refine box_event ?hg (N := 4) ?hd (cs := #[.int .i64 0, .string (⟨#[]⟩ : ByteArray), .int .i64 0]) (t := 47) ?hr ?_; (case hd => rfl); (case hg => rfl); (case hr => first | (go_simp; done) | (go_simp; rfl)); intro gb402 hg w60 hbox hb; have n0_ := Aside0.mk (below_step (by repeat (first | (with_reducible first | exact HB.out | apply below_alloc | apply pw_below_drewN | apply below_drew1) | exact HB.out)) hb); have n1_ := Aside0.mk (hbox); have n2_ := Aside0.mk ((by rw [hg]; exact (below_size (by repeat (first | (with_reducible first | exact HB.out | apply below_alloc | apply pw_below_drewN | apply below_drew1) | exact HB.out))) : w.heap.size ≤ gb402)); have n3_ := Aside0.mk ((by rw [hg]; exact (below_size (by repeat (first | (with_reducible first | exact HB.out | apply below_alloc | apply pw_below_drewN | apply below_drew1) | exact HB.out))) : w.heap.size ≤ gb402)); clear HB; have HB := n0_; have BK402 := n1_; have GW402 := n2_; have GE402 := n3_; clear n0_ n1_ n2_ n3_; clear hb hbox hg; have p5 : 0 ≤ (a1 : Int) := of_decide_eq_true (by first | (with_reducible assumption) | assumption); have q5 : a1 < (a0.size : Int) := of_decide_eq_true (by first | (with_reducible assumption) | assumption); have hx5 := bt_at a0 a1; replace p5 := eq_true p5; replace q5 := eq_true q5) | ((with_reducible refine gate_callee (f := 115) rfl ?_); refine goesL_ (some 16) rfl rfl Tryz.func115 (by kernel_rfl) rfl #[.int .u8 (bt a0 a1)] rfl (by (try simp only [List.map_toArray, List.map_cons, List.map_nil]); first | done | rfl | (simp only [List.length_drop, List.length_take]; rfl)) ?_; (with_reducible refine (metewandref13_small.calls (bt a0 a1) false _ A6.out).mono ?_); rintro e w' ⟨rfl, ⟨nd, rfl⟩⟩; refine ⟨_, rfl, ?_⟩; have p29 : 0 ≤ (a1 : Int) := of_decide_eq_true (by first | (with_reducible assumption) | assumption); have q29 : a1 < (a0.size : Int) := of_decide_eq_true (by first | (with_reducible assumption) | assumption); have hx29 := bt_at a0 a1; replace p29 := eq_true p29; replace q29 := eq_true q29) | ((with_reducible refine gate_callee (f := 117) rfl ?_); refine goesL_ (some 61) rfl rfl Tryz.func117 (by kernel_rfl) rfl #[.int .u8 (bt a0 a1)] rfl (by (try simp only [List.map_toArray, List.map_cons, List.map_nil]); first | done | rfl | (simp only [List.length_drop, List.length_take]; rfl)) ?_; (with_reducible refine (metewandref13_digit.calls (bt a0 a1) false _ A30.out).mono ?_); rintro e w' ⟨rfl, ⟨nd, rfl⟩⟩; refine ⟨_, rfl, ?_⟩; have p58 : 0 ≤ (a1 : Int) := of_decide_eq_true (by first | (with_reducible assumption) | assumption); have q58 : a1 < (a0.size : Int) := of_decide_eq_true (by first | (with_reducible assumption) | assumption); have hx58 := bt_at a0 a1; replace p58 := eq_true p58; replace q58 := eq_true q58))
            go_loopg [7] k (fun kq v7 w' => ∃ (x7_1 : Int), v7 = .int .i64 x7_1 ∧ Aside0 (metewandref13_token.l2 kq a0 a1 x7_1 = some (r1, r2, r3, r4, r5)) ∧ Aside0 (kq ≤ k) ∧ Aside0 (w'.heap[gb402]? = some (.cells #[.int .i64 0, .string (⟨#[]⟩ : ByteArray), .int .i64 0] 47 (0, 0))) ∧ Aside0 (Below w.heap.size w w'))
            case atStart => exact ⟨(wrap64 (a1 + 1)), (by first | rfl | (simp; done) | (simp [*]; done)), H', ⟨Nat.le_refl _⟩, ⟨by (with_reducible repeat (first | refine blk_drewN ?_ _ | refine blk_drew ?_ | refine blk_alloc ?_ _)); exact BK402.out⟩, ⟨by repeat (first | (with_reducible first | exact HB.out | apply below_alloc | apply pw_below_drewN | apply below_drew1 | refine below_set ?_ GE402.out) | exact HB.out)⟩⟩
            case round =>
              clear H'
              try clear c1
              try clear p1
              try clear q1
              try clear hx1
              try clear c2
              try clear p2
              try clear q2
              try clear hx2
              try clear c3
              try clear c3b0
              try clear p3
              try clear q3
              try clear hx3
              try clear c4
              try clear c4b0
              try clear p4
              try clear q4
              try clear hx4
              try clear qi4
              try clear c5
              try clear p5
              try clear q5
              try clear hx5
              try clear qi5
              try clear p6
              try clear c7
              try clear c8
              try clear c10
              try clear c10b0
              try clear c11
              try clear c11b0
              try clear p12
              try clear q12
              try clear hx12
              try clear c14
              try clear p15
              try clear q15
              try clear hx15
              try clear c17
              try clear p18
              try clear q18
              try clear hx18
              try clear c20
              try clear c21
              try clear c21b0
              try clear c21b1
              try clear c22
              try clear c22b0
              try clear c22b1
              try clear c23
              try clear c23b0
              try clear c23b1
              try clear c25
              try clear p29
              try clear q29
              try clear hx29
              try clear c31
              try clear c33
              try clear c33b0
              try clear c34
              try clear c34b0
              try clear p35
              try clear q35
              try clear hx35
              try clear c37
              try clear c38
              try clear c38b0
              try clear c38b1
              try clear c39
              try clear c39b0
              try clear c39b1
              try clear c40
              try clear c40b0
              try clear c40b1
              try clear c41
              try clear c41b0
              try clear c41b1
              try clear c42
              try clear c42b0
              try clear c42b1
              try clear p43
              try clear q43
              try clear hx43
              try clear qi43
              try clear c44
              try clear c44b0
              try clear c44b1
              try clear c48
              try clear c48b0
              try clear c48b1
              try clear c49
              try clear c49b0
              try clear c49b1
              try clear c50
              try clear c50b0
              try clear c50b1
              try clear c51
              try clear c51b0
              try clear c51b1
              try clear c52
              try clear c52b0
              try clear c52b1
              try clear p53
              try clear q53
              try clear hx53
              try clear qi53
              try clear c54
              try clear c54b0
              try clear c54b1
              try clear p58
              try clear q58
              try clear hx58
              try clear c59
              try clear c59b0
              try clear c59b1
              try clear hcz26_0
              try clear hcz26_1
              try clear hcz26_2
              try clear hcz28_0
              try clear hcz28_1
              try clear hcz28_2
              try clear hcz45_0
              try clear hcz45_1
              try clear hcz45_2
              try clear hcz46_0
              try clear hcz46_1
              try clear hcz46_2
              try clear hcz47_0
              try clear hcz47_1
              try clear hcz47_2
              try clear hcz55_0
              try clear hcz55_1
              try clear hcz55_2
              try clear hcz56_0
              try clear hcz56_1
              try clear hcz56_2
              try clear hcz57_0
              try clear hcz57_1
              try clear hcz57_2
              try clear hfz26_0
              try clear hfz26_1
              try clear hfz26_2
              try clear hfz28_0
              try clear hfz28_1
              try clear hfz28_2
              try clear hfz45_0
              try clear hfz45_1
              try clear hfz45_2
              try clear hfz46_0
              try clear hfz46_1
              try clear hfz46_2
              try clear hfz47_0
              try clear hfz47_1
              try clear hfz47_2
              try clear hfz55_0
              try clear hfz55_1
              try clear hfz55_2
              try clear hfz56_0
              try clear hfz56_1
              try clear hfz56_2
              try clear hfz57_0
              try clear hfz57_1
              try clear hfz57_2
              try clear p1
              try clear p12
              try clear p15
              try clear p18
              try clear p2
              try clear p29
              try clear p35
              try clear p43
              try clear p5
              try clear p53
              try clear p58
              try clear p6
              try clear q1
              try clear q12
              try clear q15
              try clear q18
              try clear q2
              try clear q29
              try clear q35
              try clear q43
              try clear q5
              try clear q53
              try clear q58
              obtain ⟨x7_1, rfl, HA, HK1, BK402, HB⟩ := hrel
              cases gk with
              | zero => exact absurd HA.out (by simp [metewandref13_token.l2])
              | succ k1 =>
                have H := HA.out
                clear HA
                simp only [metewandref13_token.l2] at H
                by_cases c61 : x7_1 < (a0.size : Int)
                · rw [if_pos c61] at H
                  have c61b0 : decide (x7_1 < (a0.size : Int)) = true := decide_eq_true c61
                  clear c61
                  by_cases c62 : 0 ≤ x7_1
                  · rw [if_pos c62] at H
                    have c62b0 : decide (0 ≤ x7_1) = true := decide_eq_true c62
                    clear c62
                    by_cases c64 : (bt a0 x7_1) = 125
                    · rw [if_pos c64] at H
                      have c64b0 : ((bt a0 x7_1) == 125) = true := beq_iff_eq.mpr c64
                      have c64b1 : ((bt a0 x7_1) != 125) = false := bne_eq_false_iff_eq.mpr c64
                      clear c64
                      by_cases c65 : x7_1 = (a0.size : Int)
                      · rw [if_pos c65] at H
                        have c65b0 : (x7_1 == (a0.size : Int)) = true := beq_iff_eq.mpr c65
                        have c65b1 : (x7_1 != (a0.size : Int)) = false := bne_eq_false_iff_eq.mpr c65
                        clear c65
                        simp only [Option.some.injEq, Prod.mk.injEq] at H
                        obtain ⟨rfl, rfl, rfl, rfl, rfl⟩ := H
                        have p63 : 0 ≤ (x7_1 : Int) := of_decide_eq_true (by first | (with_reducible assumption) | assumption)
                        have q63 : x7_1 < (a0.size : Int) := of_decide_eq_true (by first | (with_reducible assumption) | assumption)
                        have hx63 := bt_at a0 x7_1
                        replace p63 := eq_true p63
                        replace q63 := eq_true q63
                        have hcz66_0 : wr.cell? ⟨gb402, 0, none⟩ = some (.int .i64 0) := (blk_cell BK402.out 0).trans rfl
                        have hcz66_1 : wr.cell? ⟨gb402, 1, none⟩ = some (.string (⟨#[]⟩ : ByteArray)) := (blk_cell BK402.out 1).trans rfl
                        have hcz66_2 : wr.cell? ⟨gb402, 2, none⟩ = some (.int .i64 0) := (blk_cell BK402.out 2).trans rfl
                        have hfz66_0 := blk_frozen BK402.out 0
                        have hfz66_1 := blk_frozen BK402.out 1
                        have hfz66_2 := blk_frozen BK402.out 2
                        go_wp2
                        refine bodyPost_ret (results_ctt rfl _ _ gb402 47 #[.int .i64 0, .string (⟨#[]⟩ : ByteArray), .int .i64 0] (0, 0) _ rfl (by (with_reducible repeat (first | refine blk_drewN ?_ _ | refine blk_drew ?_ | refine blk_alloc ?_ _)); refine blk_put (cs := #[.int .i64 0, .string (⟨#[]⟩ : ByteArray), .int .i64 0]) ?_ 2 _ rfl; (with_reducible repeat (first | refine blk_drewN ?_ _ | refine blk_drew ?_ | refine blk_alloc ?_ _)); refine blk_put (cs := #[.int .i64 0, .string (⟨#[]⟩ : ByteArray), .int .i64 0]) ?_ 1 _ rfl; (with_reducible repeat (first | refine blk_drewN ?_ _ | refine blk_drew ?_ | refine blk_alloc ?_ _)); refine blk_put (cs := #[.int .i64 0, .string (⟨#[]⟩ : ByteArray), .int .i64 0]) ?_ 0 _ rfl; (with_reducible repeat (first | refine blk_drewN ?_ _ | refine blk_drew ?_ | refine blk_alloc ?_ _)); exact BK402.out) Tryz.underlying47 rfl (by kernel_rfl)) rfl ?_
                        exact ⟨by first | rfl | (simp [errW_none, errW_some] <;> rfl) | (simp [*, errW_none, errW_some] <;> rfl), by repeat (first | (with_reducible first | exact HB.out | apply below_alloc | apply pw_below_drewN | apply below_drew1 | refine below_set ?_ GE402.out) | exact HB.out)⟩
                      · rw [if_neg c65] at H
                        have c65b0 : (x7_1 == (a0.size : Int)) = false := beq_eq_false_iff_ne.mpr c65
                        have c65b1 : (x7_1 != (a0.size : Int)) = true := bne_iff_ne.mpr c65
                        obtain ⟨ji67, hji67⟩ : ∃ j_ : Int, (wrap64 (a1 + 1)) = j_ := ⟨_, rfl⟩
                        replace H : (if 0 ≤ (ji67) then (if (ji67) ≤ x7_1 then (if x7_1 ≤ (a0.size : Int) then ((metewandref13_unit.f k1 (a0.extract ((ji67) : Int).toNat (x7_1 : Int).toNat)).bind fun t411 => (if t411 = true then (some (3, a0.extract ((ji67) : Int).toNat (x7_1 : Int).toNat, a1, wrap64 (x7_1 + 1), true)) else (some (0, (⟨#[]⟩ : ByteArray), 0, 0, false)))) else (none)) else (none)) else (none)) = some (r1, r2, r3, r4, r5) := by first | (rw [hji67] at H; exact H) | (simp only [hji67] at H ⊢; exact H)
                        have hji67w : (IntKind.i64.wrap (a1 + 1)) = ji67 := (i64_w _).trans hji67
                        by_cases c68 : 0 ≤ (ji67)
                        · rw [if_pos c68] at H
                          have c68b0 := eq_true c68
                          have c68b1 : decide (0 ≤ (ji67)) = true := decide_eq_true c68
                          clear c68
                          by_cases c69 : (ji67) ≤ x7_1
                          · rw [if_pos c69] at H
                            have c69b0 := eq_true c69
                            have c69b1 : decide ((ji67) ≤ x7_1) = true := decide_eq_true c69
                            clear c69
                            by_cases c70 : x7_1 ≤ (a0.size : Int)
                            · rw [if_pos c70] at H
                              have c70b0 := eq_true c70
                              have c70b1 : decide (x7_1 ≤ (a0.size : Int)) = true := decide_eq_true c70
                              clear c70
                              replace H := Option.bind_eq_some_iff.mp H
                              obtain ⟨t411, A710, H⟩ := H
                              replace H : (if t411 = true then (some (3, a0.extract ((ji67) : Int).toNat (x7_1 : Int).toNat, a1, wrap64 (x7_1 + 1), true)) else (some (0, (⟨#[]⟩ : ByteArray), 0, 0, false))) = some (r1, r2, r3, r4, r5) := H
                              have A71 := Aside0.mk A710
                              clear A710
                              by_cases c72 : t411 = true
                              · subst c72
                                have H1 : (some (3, a0.extract ((ji67) : Int).toNat (x7_1 : Int).toNat, a1, wrap64 (x7_1 + 1), true)) = some (r1, r2, r3, r4, r5) := by rw [if_pos rfl] at H; exact H
                                clear H
                                have H := H1
                                clear H1
                                have c73b0 := eq_true (of_decide_eq_true (by first | (with_reducible assumption) | assumption) : 0 ≤ (ji67))
                                have c74b0 := eq_true (of_decide_eq_true (by first | (with_reducible assumption) | assumption) : (ji67) ≤ x7_1)
                                have c75b0 := eq_true (of_decide_eq_true (by first | (with_reducible assumption) | assumption) : x7_1 ≤ (a0.size : Int))
                                simp only [Option.some.injEq, Prod.mk.injEq] at H
                                obtain ⟨rfl, rfl, rfl, rfl, rfl⟩ := H
                                have p63 : 0 ≤ (x7_1 : Int) := of_decide_eq_true (by first | (with_reducible assumption) | assumption)
                                have q63 : x7_1 < (a0.size : Int) := of_decide_eq_true (by first | (with_reducible assumption) | assumption)
                                have hx63 := bt_at a0 x7_1
                                replace p63 := eq_true p63
                                replace q63 := eq_true q63
                                go_wp2_with (first | (go_at_call 127; (with_reducible refine (metewandref13_unit.calls k1 (a0.extract ((ji67) : Int).toNat (x7_1 : Int).toNat) true _ A71.out).mono ?_); rintro e w' ⟨rfl, ⟨nd, rfl⟩⟩; (try (rw [drewN_self wr]; generalize hq_ : World.drewN wr _ = wr; have n0_ : Aside0 (wr.heap[gb402]? = some (.cells #[.int .i64 0, .string (⟨#[]⟩ : ByteArray), .int .i64 0] 47 (0, 0))) := ⟨by rw [← hq_]; exact (by (with_reducible repeat (first | refine blk_drewN ?_ _ | refine blk_drew ?_ | refine blk_alloc ?_ _)); exact BK402.out)⟩; have n1_ : Aside0 (Below w.heap.size w wr) := ⟨by rw [← hq_]; exact (by repeat (first | (with_reducible first | exact HB.out | apply below_alloc | apply pw_below_drewN | apply below_drew1 | refine below_set ?_ GE402.out) | exact HB.out))⟩; clear BK402 HB hq_; have BK402 := n0_; have HB := n1_; clear n0_ n1_)); have hcz76_0 : wr.cell? ⟨gb402, 0, none⟩ = some (.int .i64 0) := (blk_cell BK402.out 0).trans rfl; have hcz76_1 : wr.cell? ⟨gb402, 1, none⟩ = some (.string (⟨#[]⟩ : ByteArray)) := (blk_cell BK402.out 1).trans rfl; have hcz76_2 : wr.cell? ⟨gb402, 2, none⟩ = some (.int .i64 0) := (blk_cell BK402.out 2).trans rfl; have hfz76_0 := blk_frozen BK402.out 0; have hfz76_1 := blk_frozen BK402.out 1; have hfz76_2 := blk_frozen BK402.out 2))
                                refine bodyPost_ret (results_ctt rfl _ _ gb402 47 #[.int .i64 3, .string (a0.extract ((ji67) : Int).toNat (x7_1 : Int).toNat), .int .i64 a1] (0, 0) _ rfl (by (with_reducible repeat (first | refine blk_drewN ?_ _ | refine blk_drew ?_ | refine blk_alloc ?_ _)); refine blk_put (cs := #[.int .i64 3, .string (a0.extract ((ji67) : Int).toNat (x7_1 : Int).toNat), .int .i64 0]) ?_ 2 _ rfl; (with_reducible repeat (first | refine blk_drewN ?_ _ | refine blk_drew ?_ | refine blk_alloc ?_ _)); refine blk_put (cs := #[.int .i64 3, .string (⟨#[]⟩ : ByteArray), .int .i64 0]) ?_ 1 _ rfl; (with_reducible repeat (first | refine blk_drewN ?_ _ | refine blk_drew ?_ | refine blk_alloc ?_ _)); refine blk_put (cs := #[.int .i64 0, .string (⟨#[]⟩ : ByteArray), .int .i64 0]) ?_ 0 _ rfl; (with_reducible repeat (first | refine blk_drewN ?_ _ | refine blk_drew ?_ | refine blk_alloc ?_ _)); exact BK402.out) Tryz.underlying47 rfl (by kernel_rfl)) rfl ?_
                                exact ⟨by first | rfl | (simp [errW_none, errW_some] <;> rfl) | (simp only [← hji67]; first | rfl | (simp [errW_none, errW_some] <;> rfl)) | (simp [*, errW_none, errW_some] <;> rfl), by repeat (first | (with_reducible first | exact HB.out | apply below_alloc | apply pw_below_drewN | apply below_drew1 | refine below_set ?_ GE402.out) | exact HB.out)⟩
                              · replace c72 := Bool.eq_false_iff.mpr c72
                                subst c72
                                have H1 : (some (0, (⟨#[]⟩ : ByteArray), 0, 0, false)) = some (r1, r2, r3, r4, r5) := by rw [if_neg (show ¬ (false = true) by decide)] at H; exact H
                                clear H
                                have H := H1
                                clear H1
                                simp only [Option.some.injEq, Prod.mk.injEq] at H
                                obtain ⟨rfl, rfl, rfl, rfl, rfl⟩ := H
                                have p63 : 0 ≤ (x7_1 : Int) := of_decide_eq_true (by first | (with_reducible assumption) | assumption)
                                have q63 : x7_1 < (a0.size : Int) := of_decide_eq_true (by first | (with_reducible assumption) | assumption)
                                have hx63 := bt_at a0 x7_1
                                replace p63 := eq_true p63
                                replace q63 := eq_true q63
                                go_wp2_with (first | (go_at_call 127; (with_reducible refine (metewandref13_unit.calls k1 (a0.extract ((ji67) : Int).toNat (x7_1 : Int).toNat) false _ A71.out).mono ?_); rintro e w' ⟨rfl, ⟨nd, rfl⟩⟩; (try (rw [drewN_self wr]; generalize hq_ : World.drewN wr _ = wr; have n0_ : Aside0 (wr.heap[gb402]? = some (.cells #[.int .i64 0, .string (⟨#[]⟩ : ByteArray), .int .i64 0] 47 (0, 0))) := ⟨by rw [← hq_]; exact (by (with_reducible repeat (first | refine blk_drewN ?_ _ | refine blk_drew ?_ | refine blk_alloc ?_ _)); exact BK402.out)⟩; have n1_ : Aside0 (Below w.heap.size w wr) := ⟨by rw [← hq_]; exact (by repeat (first | (with_reducible first | exact HB.out | apply below_alloc | apply pw_below_drewN | apply below_drew1 | refine below_set ?_ GE402.out) | exact HB.out))⟩; clear BK402 HB hq_; have BK402 := n0_; have HB := n1_; clear n0_ n1_)); have hcz77_0 : wr.cell? ⟨gb402, 0, none⟩ = some (.int .i64 0) := (blk_cell BK402.out 0).trans rfl; have hcz77_1 : wr.cell? ⟨gb402, 1, none⟩ = some (.string (⟨#[]⟩ : ByteArray)) := (blk_cell BK402.out 1).trans rfl; have hcz77_2 : wr.cell? ⟨gb402, 2, none⟩ = some (.int .i64 0) := (blk_cell BK402.out 2).trans rfl; have hfz77_0 := blk_frozen BK402.out 0; have hfz77_1 := blk_frozen BK402.out 1; have hfz77_2 := blk_frozen BK402.out 2))
                                refine bodyPost_ret (results_ctt rfl _ _ gb402 47 #[.int .i64 0, .string (⟨#[]⟩ : ByteArray), .int .i64 0] (0, 0) _ rfl (by (with_reducible repeat (first | refine blk_drewN ?_ _ | refine blk_drew ?_ | refine blk_alloc ?_ _)); refine blk_put (cs := #[.int .i64 0, .string (⟨#[]⟩ : ByteArray), .int .i64 0]) ?_ 2 _ rfl; (with_reducible repeat (first | refine blk_drewN ?_ _ | refine blk_drew ?_ | refine blk_alloc ?_ _)); refine blk_put (cs := #[.int .i64 0, .string (⟨#[]⟩ : ByteArray), .int .i64 0]) ?_ 1 _ rfl; (with_reducible repeat (first | refine blk_drewN ?_ _ | refine blk_drew ?_ | refine blk_alloc ?_ _)); refine blk_put (cs := #[.int .i64 0, .string (⟨#[]⟩ : ByteArray), .int .i64 0]) ?_ 0 _ rfl; (with_reducible repeat (first | refine blk_drewN ?_ _ | refine blk_drew ?_ | refine blk_alloc ?_ _)); exact BK402.out) Tryz.underlying47 rfl (by kernel_rfl)) rfl ?_
                                exact ⟨by first | rfl | (simp [errW_none, errW_some] <;> rfl) | (simp only [← hji67]; first | rfl | (simp [errW_none, errW_some] <;> rfl)) | (simp [*, errW_none, errW_some] <;> rfl), by repeat (first | (with_reducible first | exact HB.out | apply below_alloc | apply pw_below_drewN | apply below_drew1 | refine below_set ?_ GE402.out) | exact HB.out)⟩
                            · rw [if_neg c70] at H
                              exact absurd H (by simp)
                          · rw [if_neg c69] at H
                            exact absurd H (by simp)
                        · rw [if_neg c68] at H
                          exact absurd H (by simp)
                    · rw [if_neg c64] at H
                      have c64b0 : ((bt a0 x7_1) == 125) = false := beq_eq_false_iff_ne.mpr c64
                      have c64b1 : ((bt a0 x7_1) != 125) = true := bne_iff_ne.mpr c64
                      have H' := Aside0.mk H
                      clear H
                      have p63 : 0 ≤ (x7_1 : Int) := of_decide_eq_true (by first | (with_reducible assumption) | assumption)
                      have q63 : x7_1 < (a0.size : Int) := of_decide_eq_true (by first | (with_reducible assumption) | assumption)
                      have hx63 := bt_at a0 x7_1
                      replace p63 := eq_true p63
                      replace q63 := eq_true q63
                      go_wp2
                      go_roundg k1
                      case measure => have := HK1.out; omega
                      case rel => exact ⟨(wrap64 (x7_1 + 1)), (by first | rfl | (simp; done) | (simp [*]; done)), H', ⟨by have := HK1.out; omega⟩, ⟨by (with_reducible repeat (first | refine blk_drewN ?_ _ | refine blk_drew ?_ | refine blk_alloc ?_ _)); exact BK402.out⟩, ⟨by repeat (first | (with_reducible first | exact HB.out | apply below_alloc | apply pw_below_drewN | apply below_drew1 | refine below_set ?_ GE402.out) | exact HB.out)⟩⟩
                  · rw [if_neg c62] at H
                    exact absurd H (by simp)
                · rw [if_neg c61] at H
                  have c61b0 : decide (x7_1 < (a0.size : Int)) = false := decide_eq_false c61
                  clear c61
                  by_cases c78 : x7_1 = (a0.size : Int)
                  · rw [if_pos c78] at H
                    have c78b0 : (x7_1 == (a0.size : Int)) = true := beq_iff_eq.mpr c78
                    have c78b1 : (x7_1 != (a0.size : Int)) = false := bne_eq_false_iff_eq.mpr c78
                    clear c78
                    simp only [Option.some.injEq, Prod.mk.injEq] at H
                    obtain ⟨rfl, rfl, rfl, rfl, rfl⟩ := H
                    have hcz79_0 : wr.cell? ⟨gb402, 0, none⟩ = some (.int .i64 0) := (blk_cell BK402.out 0).trans rfl
                    have hcz79_1 : wr.cell? ⟨gb402, 1, none⟩ = some (.string (⟨#[]⟩ : ByteArray)) := (blk_cell BK402.out 1).trans rfl
                    have hcz79_2 : wr.cell? ⟨gb402, 2, none⟩ = some (.int .i64 0) := (blk_cell BK402.out 2).trans rfl
                    have hfz79_0 := blk_frozen BK402.out 0
                    have hfz79_1 := blk_frozen BK402.out 1
                    have hfz79_2 := blk_frozen BK402.out 2
                    go_wp2
                    refine bodyPost_ret (results_ctt rfl _ _ gb402 47 #[.int .i64 0, .string (⟨#[]⟩ : ByteArray), .int .i64 0] (0, 0) _ rfl (by (with_reducible repeat (first | refine blk_drewN ?_ _ | refine blk_drew ?_ | refine blk_alloc ?_ _)); refine blk_put (cs := #[.int .i64 0, .string (⟨#[]⟩ : ByteArray), .int .i64 0]) ?_ 2 _ rfl; (with_reducible repeat (first | refine blk_drewN ?_ _ | refine blk_drew ?_ | refine blk_alloc ?_ _)); refine blk_put (cs := #[.int .i64 0, .string (⟨#[]⟩ : ByteArray), .int .i64 0]) ?_ 1 _ rfl; (with_reducible repeat (first | refine blk_drewN ?_ _ | refine blk_drew ?_ | refine blk_alloc ?_ _)); refine blk_put (cs := #[.int .i64 0, .string (⟨#[]⟩ : ByteArray), .int .i64 0]) ?_ 0 _ rfl; (with_reducible repeat (first | refine blk_drewN ?_ _ | refine blk_drew ?_ | refine blk_alloc ?_ _)); exact BK402.out) Tryz.underlying47 rfl (by kernel_rfl)) rfl ?_
                    exact ⟨by first | rfl | (simp [errW_none, errW_some] <;> rfl) | (simp [*, errW_none, errW_some] <;> rfl), by repeat (first | (with_reducible first | exact HB.out | apply below_alloc | apply pw_below_drewN | apply below_drew1 | refine below_set ?_ GE402.out) | exact HB.out)⟩
                  · rw [if_neg c78] at H
                    have c78b0 : (x7_1 == (a0.size : Int)) = false := beq_eq_false_iff_ne.mpr c78
                    have c78b1 : (x7_1 != (a0.size : Int)) = true := bne_iff_ne.mpr c78
                    obtain ⟨ji80, hji80⟩ : ∃ j_ : Int, (wrap64 (a1 + 1)) = j_ := ⟨_, rfl⟩
                    replace H : (if 0 ≤ (ji80) then (if (ji80) ≤ x7_1 then (if x7_1 ≤ (a0.size : Int) then ((metewandref13_unit.f k1 (a0.extract ((ji80) : Int).toNat (x7_1 : Int).toNat)).bind fun t412 => (if t412 = true then (some (3, a0.extract ((ji80) : Int).toNat (x7_1 : Int).toNat, a1, wrap64 (x7_1 + 1), true)) else (some (0, (⟨#[]⟩ : ByteArray), 0, 0, false)))) else (none)) else (none)) else (none)) = some (r1, r2, r3, r4, r5) := by first | (rw [hji80] at H; exact H) | (simp only [hji80] at H ⊢; exact H)
                    have hji80w : (IntKind.i64.wrap (a1 + 1)) = ji80 := (i64_w _).trans hji80
                    by_cases c81 : 0 ≤ (ji80)
                    · rw [if_pos c81] at H
                      have c81b0 := eq_true c81
                      have c81b1 : decide (0 ≤ (ji80)) = true := decide_eq_true c81
                      clear c81
                      by_cases c82 : (ji80) ≤ x7_1
                      · rw [if_pos c82] at H
                        have c82b0 := eq_true c82
                        have c82b1 : decide ((ji80) ≤ x7_1) = true := decide_eq_true c82
                        clear c82
                        by_cases c83 : x7_1 ≤ (a0.size : Int)
                        · rw [if_pos c83] at H
                          have c83b0 := eq_true c83
                          have c83b1 : decide (x7_1 ≤ (a0.size : Int)) = true := decide_eq_true c83
                          clear c83
                          replace H := Option.bind_eq_some_iff.mp H
                          obtain ⟨t412, A840, H⟩ := H
                          replace H : (if t412 = true then (some (3, a0.extract ((ji80) : Int).toNat (x7_1 : Int).toNat, a1, wrap64 (x7_1 + 1), true)) else (some (0, (⟨#[]⟩ : ByteArray), 0, 0, false))) = some (r1, r2, r3, r4, r5) := H
                          have A84 := Aside0.mk A840
                          clear A840
                          by_cases c85 : t412 = true
                          · subst c85
                            have H1 : (some (3, a0.extract ((ji80) : Int).toNat (x7_1 : Int).toNat, a1, wrap64 (x7_1 + 1), true)) = some (r1, r2, r3, r4, r5) := by rw [if_pos rfl] at H; exact H
                            clear H
                            have H := H1
                            clear H1
                            have c86b0 := eq_true (of_decide_eq_true (by first | (with_reducible assumption) | assumption) : 0 ≤ (ji80))
                            have c87b0 := eq_true (of_decide_eq_true (by first | (with_reducible assumption) | assumption) : (ji80) ≤ x7_1)
                            have c88b0 := eq_true (of_decide_eq_true (by first | (with_reducible assumption) | assumption) : x7_1 ≤ (a0.size : Int))
                            simp only [Option.some.injEq, Prod.mk.injEq] at H
                            obtain ⟨rfl, rfl, rfl, rfl, rfl⟩ := H
                            go_wp2_with (first | (go_at_call 127; (with_reducible refine (metewandref13_unit.calls k1 (a0.extract ((ji80) : Int).toNat (x7_1 : Int).toNat) true _ A84.out).mono ?_); rintro e w' ⟨rfl, ⟨nd, rfl⟩⟩; (try (rw [drewN_self wr]; generalize hq_ : World.drewN wr _ = wr; have n0_ : Aside0 (wr.heap[gb402]? = some (.cells #[.int .i64 0, .string (⟨#[]⟩ : ByteArray), .int .i64 0] 47 (0, 0))) := ⟨by rw [← hq_]; exact (by (with_reducible repeat (first | refine blk_drewN ?_ _ | refine blk_drew ?_ | refine blk_alloc ?_ _)); exact BK402.out)⟩; have n1_ : Aside0 (Below w.heap.size w wr) := ⟨by rw [← hq_]; exact (by repeat (first | (with_reducible first | exact HB.out | apply below_alloc | apply pw_below_drewN | apply below_drew1 | refine below_set ?_ GE402.out) | exact HB.out))⟩; clear BK402 HB hq_; have BK402 := n0_; have HB := n1_; clear n0_ n1_)); have hcz89_0 : wr.cell? ⟨gb402, 0, none⟩ = some (.int .i64 0) := (blk_cell BK402.out 0).trans rfl; have hcz89_1 : wr.cell? ⟨gb402, 1, none⟩ = some (.string (⟨#[]⟩ : ByteArray)) := (blk_cell BK402.out 1).trans rfl; have hcz89_2 : wr.cell? ⟨gb402, 2, none⟩ = some (.int .i64 0) := (blk_cell BK402.out 2).trans rfl; have hfz89_0 := blk_frozen BK402.out 0; have hfz89_1 := blk_frozen BK402.out 1; have hfz89_2 := blk_frozen BK402.out 2))
                            refine bodyPost_ret (results_ctt rfl _ _ gb402 47 #[.int .i64 3, .string (a0.extract ((ji80) : Int).toNat (x7_1 : Int).toNat), .int .i64 a1] (0, 0) _ rfl (by (with_reducible repeat (first | refine blk_drewN ?_ _ | refine blk_drew ?_ | refine blk_alloc ?_ _)); refine blk_put (cs := #[.int .i64 3, .string (a0.extract ((ji80) : Int).toNat (x7_1 : Int).toNat), .int .i64 0]) ?_ 2 _ rfl; (with_reducible repeat (first | refine blk_drewN ?_ _ | refine blk_drew ?_ | refine blk_alloc ?_ _)); refine blk_put (cs := #[.int .i64 3, .string (⟨#[]⟩ : ByteArray), .int .i64 0]) ?_ 1 _ rfl; (with_reducible repeat (first | refine blk_drewN ?_ _ | refine blk_drew ?_ | refine blk_alloc ?_ _)); refine blk_put (cs := #[.int .i64 0, .string (⟨#[]⟩ : ByteArray), .int .i64 0]) ?_ 0 _ rfl; (with_reducible repeat (first | refine blk_drewN ?_ _ | refine blk_drew ?_ | refine blk_alloc ?_ _)); exact BK402.out) Tryz.underlying47 rfl (by kernel_rfl)) rfl ?_
                            exact ⟨by first | rfl | (simp [errW_none, errW_some] <;> rfl) | (simp only [← hji80]; first | rfl | (simp [errW_none, errW_some] <;> rfl)) | (simp [*, errW_none, errW_some] <;> rfl), by repeat (first | (with_reducible first | exact HB.out | apply below_alloc | apply pw_below_drewN | apply below_drew1 | refine below_set ?_ GE402.out) | exact HB.out)⟩
                          · replace c85 := Bool.eq_false_iff.mpr c85
                            subst c85
                            have H1 : (some (0, (⟨#[]⟩ : ByteArray), 0, 0, false)) = some (r1, r2, r3, r4, r5) := by rw [if_neg (show ¬ (false = true) by decide)] at H; exact H
                            clear H
                            have H := H1
                            clear H1
                            simp only [Option.some.injEq, Prod.mk.injEq] at H
                            obtain ⟨rfl, rfl, rfl, rfl, rfl⟩ := H
                            go_wp2_with (first | (go_at_call 127; (with_reducible refine (metewandref13_unit.calls k1 (a0.extract ((ji80) : Int).toNat (x7_1 : Int).toNat) false _ A84.out).mono ?_); rintro e w' ⟨rfl, ⟨nd, rfl⟩⟩; (try (rw [drewN_self wr]; generalize hq_ : World.drewN wr _ = wr; have n0_ : Aside0 (wr.heap[gb402]? = some (.cells #[.int .i64 0, .string (⟨#[]⟩ : ByteArray), .int .i64 0] 47 (0, 0))) := ⟨by rw [← hq_]; exact (by (with_reducible repeat (first | refine blk_drewN ?_ _ | refine blk_drew ?_ | refine blk_alloc ?_ _)); exact BK402.out)⟩; have n1_ : Aside0 (Below w.heap.size w wr) := ⟨by rw [← hq_]; exact (by repeat (first | (with_reducible first | exact HB.out | apply below_alloc | apply pw_below_drewN | apply below_drew1 | refine below_set ?_ GE402.out) | exact HB.out))⟩; clear BK402 HB hq_; have BK402 := n0_; have HB := n1_; clear n0_ n1_)); have hcz90_0 : wr.cell? ⟨gb402, 0, none⟩ = some (.int .i64 0) := (blk_cell BK402.out 0).trans rfl; have hcz90_1 : wr.cell? ⟨gb402, 1, none⟩ = some (.string (⟨#[]⟩ : ByteArray)) := (blk_cell BK402.out 1).trans rfl; have hcz90_2 : wr.cell? ⟨gb402, 2, none⟩ = some (.int .i64 0) := (blk_cell BK402.out 2).trans rfl; have hfz90_0 := blk_frozen BK402.out 0; have hfz90_1 := blk_frozen BK402.out 1; have hfz90_2 := blk_frozen BK402.out 2))
                            refine bodyPost_ret (results_ctt rfl _ _ gb402 47 #[.int .i64 0, .string (⟨#[]⟩ : ByteArray), .int .i64 0] (0, 0) _ rfl (by (with_reducible repeat (first | refine blk_drewN ?_ _ | refine blk_drew ?_ | refine blk_alloc ?_ _)); refine blk_put (cs := #[.int .i64 0, .string (⟨#[]⟩ : ByteArray), .int .i64 0]) ?_ 2 _ rfl; (with_reducible repeat (first | refine blk_drewN ?_ _ | refine blk_drew ?_ | refine blk_alloc ?_ _)); refine blk_put (cs := #[.int .i64 0, .string (⟨#[]⟩ : ByteArray), .int .i64 0]) ?_ 1 _ rfl; (with_reducible repeat (first | refine blk_drewN ?_ _ | refine blk_drew ?_ | refine blk_alloc ?_ _)); refine blk_put (cs := #[.int .i64 0, .string (⟨#[]⟩ : ByteArray), .int .i64 0]) ?_ 0 _ rfl; (with_reducible repeat (first | refine blk_drewN ?_ _ | refine blk_drew ?_ | refine blk_alloc ?_ _)); exact BK402.out) Tryz.underlying47 rfl (by kernel_rfl)) rfl ?_
                            exact ⟨by first | rfl | (simp [errW_none, errW_some] <;> rfl) | (simp only [← hji80]; first | rfl | (simp [errW_none, errW_some] <;> rfl)) | (simp [*, errW_none, errW_some] <;> rfl), by repeat (first | (with_reducible first | exact HB.out | apply below_alloc | apply pw_below_drewN | apply below_drew1 | refine below_set ?_ GE402.out) | exact HB.out)⟩
                        · rw [if_neg c83] at H
                          exact absurd H (by simp)
                      · rw [if_neg c82] at H
                        exact absurd H (by simp)
                    · rw [if_neg c81] at H
                      exact absurd H (by simp)
          · rw [if_neg c59] at H
            have c59b0 : ((bt a0 a1) == 123) = false := beq_eq_false_iff_ne.mpr c59
            have c59b1 : ((bt a0 a1) != 123) = true := bne_iff_ne.mpr c59
            replace H := Option.bind_eq_some_iff.mp H
            obtain ⟨t413, A920, H⟩ := H
            replace H : (if t413 = true then (if a1 ≤ (wrap64 (a1 + 1)) then (if (wrap64 (a1 + 1)) ≤ (a0.size : Int) then (some (4, a0.extract (a1 : Int).toNat ((wrap64 (a1 + 1)) : Int).toNat, a1, wrap64 (a1 + 1), true)) else (none)) else (none)) else (some (0, (⟨#[]⟩ : ByteArray), 0, 0, false))) = some (r1, r2, r3, r4, r5) := H
            have A92 := Aside0.mk A920
            clear A920
            by_cases c93 : t413 = true
            · subst c93
              have H1 : (if a1 ≤ (wrap64 (a1 + 1)) then (if (wrap64 (a1 + 1)) ≤ (a0.size : Int) then (some (4, a0.extract (a1 : Int).toNat ((wrap64 (a1 + 1)) : Int).toNat, a1, wrap64 (a1 + 1), true)) else (none)) else (none)) = some (r1, r2, r3, r4, r5) := by rw [if_pos rfl] at H; exact H
              clear H
              have H := H1
              clear H1
              have c94b0 := eq_true (of_decide_eq_true (by first | (with_reducible assumption) | assumption) : 0 ≤ a1)
              by_cases c95 : a1 ≤ (wrap64 (a1 + 1))
              · rw [if_pos c95] at H
                have c95b0 := eq_true c95
                have c95b1 : decide (a1 ≤ (wrap64 (a1 + 1))) = true := decide_eq_true c95
                by_cases c96 : (wrap64 (a1 + 1)) ≤ (a0.size : Int)
                · rw [if_pos c96] at H
                  have c96b0 := eq_true c96
                  have c96b1 : decide ((wrap64 (a1 + 1)) ≤ (a0.size : Int)) = true := decide_eq_true c96
                  simp only [Option.some.injEq, Prod.mk.injEq] at H
                  obtain ⟨rfl, rfl, rfl, rfl, rfl⟩ := H
                  go_enter Tryz.func89, Tryz.ntmps89
                  go_wp2_with (first | ((with_reducible refine gate_dst (N := 4) rfl ?_); (try (refine gate_guard (by rfl) ?_; dsimp only)); refine box_event ?hg (N := 4) ?hd (cs := #[.int .i64 0, .string (⟨#[]⟩ : ByteArray), .int .i64 0]) (t := 47) ?hr ?_; (case hd => rfl); (case hg => rfl); (case hr => first | (go_simp; done) | (go_simp; rfl)); intro gb402 hg w97 hbox hb; have n0_ := Aside0.mk (below_step (by repeat (first | (with_reducible first | exact HB.out | apply below_alloc | apply pw_below_drewN | apply below_drew1) | exact HB.out)) hb); have n1_ := Aside0.mk (hbox); have n2_ := Aside0.mk ((by rw [hg]; exact (below_size (by repeat (first | (with_reducible first | exact HB.out | apply below_alloc | apply pw_below_drewN | apply below_drew1) | exact HB.out))) : w.heap.size ≤ gb402)); have n3_ := Aside0.mk ((by rw [hg]; exact (below_size (by repeat (first | (with_reducible first | exact HB.out | apply below_alloc | apply pw_below_drewN | apply below_drew1) | exact HB.out))) : w.heap.size ≤ gb402)); clear HB; have HB := n0_; have BK402 := n1_; have GW402 := n2_; have GE402 := n3_; clear n0_ n1_ n2_ n3_; clear hb hbox hg; have p5 : 0 ≤ (a1 : Int) := of_decide_eq_true (by first | (with_reducible assumption) | assumption); have q5 : a1 < (a0.size : Int) := of_decide_eq_true (by first | (with_reducible assumption) | assumption); have hx5 := bt_at a0 a1; replace p5 := eq_true p5; replace q5 := eq_true q5) | ((with_reducible refine gate_callee (f := 115) rfl ?_); refine goesL_ (some 16) rfl rfl Tryz.func115 (by kernel_rfl) rfl #[.int .u8 (bt a0 a1)] rfl (by (try simp only [List.map_toArray, List.map_cons, List.map_nil]); first | done | rfl | (simp only [List.length_drop, List.length_take]; rfl)) ?_; (with_reducible refine (metewandref13_small.calls (bt a0 a1) false _ A6.out).mono ?_); rintro e w' ⟨rfl, ⟨nd, rfl⟩⟩; refine ⟨_, rfl, ?_⟩; (try (rw [drewN_self w97]; generalize hq_ : World.drewN w97 _ = w97; have n0_ : Aside0 (w97.heap[gb402]? = some (.cells #[.int .i64 0, .string (⟨#[]⟩ : ByteArray), .int .i64 0] 47 (0, 0))) := ⟨by rw [← hq_]; exact (by (with_reducible repeat (first | refine blk_drewN ?_ _ | refine blk_drew ?_ | refine blk_alloc ?_ _)); exact BK402.out)⟩; have n1_ : Aside0 (Below w.heap.size w w97) := ⟨by rw [← hq_]; exact (by repeat (first | (with_reducible first | exact HB.out | apply below_alloc | apply pw_below_drewN | apply below_drew1 | refine below_set ?_ GE402.out) | exact HB.out))⟩; clear BK402 HB hq_; have BK402 := n0_; have HB := n1_; clear n0_ n1_)); have p29 : 0 ≤ (a1 : Int) := of_decide_eq_true (by first | (with_reducible assumption) | assumption); have q29 : a1 < (a0.size : Int) := of_decide_eq_true (by first | (with_reducible assumption) | assumption); have hx29 := bt_at a0 a1; replace p29 := eq_true p29; replace q29 := eq_true q29) | ((with_reducible refine gate_callee (f := 117) rfl ?_); refine goesL_ (some 61) rfl rfl Tryz.func117 (by kernel_rfl) rfl #[.int .u8 (bt a0 a1)] rfl (by (try simp only [List.map_toArray, List.map_cons, List.map_nil]); first | done | rfl | (simp only [List.length_drop, List.length_take]; rfl)) ?_; (with_reducible refine (metewandref13_digit.calls (bt a0 a1) false _ A30.out).mono ?_); rintro e w' ⟨rfl, ⟨nd, rfl⟩⟩; refine ⟨_, rfl, ?_⟩; (try (rw [drewN_self w97]; generalize hq_ : World.drewN w97 _ = w97; have n0_ : Aside0 (w97.heap[gb402]? = some (.cells #[.int .i64 0, .string (⟨#[]⟩ : ByteArray), .int .i64 0] 47 (0, 0))) := ⟨by rw [← hq_]; exact (by (with_reducible repeat (first | refine blk_drewN ?_ _ | refine blk_drew ?_ | refine blk_alloc ?_ _)); exact BK402.out)⟩; have n1_ : Aside0 (Below w.heap.size w w97) := ⟨by rw [← hq_]; exact (by repeat (first | (with_reducible first | exact HB.out | apply below_alloc | apply pw_below_drewN | apply below_drew1 | refine below_set ?_ GE402.out) | exact HB.out))⟩; clear BK402 HB hq_; have BK402 := n0_; have HB := n1_; clear n0_ n1_)); have p58 : 0 ≤ (a1 : Int) := of_decide_eq_true (by first | (with_reducible assumption) | assumption); have q58 : a1 < (a0.size : Int) := of_decide_eq_true (by first | (with_reducible assumption) | assumption); have hx58 := bt_at a0 a1; replace p58 := eq_true p58; replace q58 := eq_true q58; have p91 : 0 ≤ (a1 : Int) := of_decide_eq_true (by first | (with_reducible assumption) | assumption); have q91 : a1 < (a0.size : Int) := of_decide_eq_true (by first | (with_reducible assumption) | assumption); have hx91 := bt_at a0 a1; replace p91 := eq_true p91; replace q91 := eq_true q91) | ((with_reducible refine gate_callee (f := 128) rfl ?_); refine goesL_ (some 139) rfl rfl Tryz.func128 (by kernel_rfl) rfl #[.int .u8 (bt a0 a1)] rfl (by (try simp only [List.map_toArray, List.map_cons, List.map_nil]); first | done | rfl | (simp only [List.length_drop, List.length_take]; rfl)) ?_; (with_reducible refine (metewandref13_sign.calls k (bt a0 a1) true _ A92.out).mono ?_); rintro e w' ⟨rfl, ⟨nd, rfl⟩⟩; refine ⟨_, rfl, ?_⟩; (try (rw [drewN_self w97]; generalize hq_ : World.drewN w97 _ = w97; have n0_ : Aside0 (w97.heap[gb402]? = some (.cells #[.int .i64 0, .string (⟨#[]⟩ : ByteArray), .int .i64 0] 47 (0, 0))) := ⟨by rw [← hq_]; exact (by (with_reducible repeat (first | refine blk_drewN ?_ _ | refine blk_drew ?_ | refine blk_alloc ?_ _)); exact BK402.out)⟩; have n1_ : Aside0 (Below w.heap.size w w97) := ⟨by rw [← hq_]; exact (by repeat (first | (with_reducible first | exact HB.out | apply below_alloc | apply pw_below_drewN | apply below_drew1 | refine below_set ?_ GE402.out) | exact HB.out))⟩; clear BK402 HB hq_; have BK402 := n0_; have HB := n1_; clear n0_ n1_)); have hcz98_0 : w97.cell? ⟨gb402, 0, none⟩ = some (.int .i64 0) := (blk_cell BK402.out 0).trans rfl; have hcz98_1 : w97.cell? ⟨gb402, 1, none⟩ = some (.string (⟨#[]⟩ : ByteArray)) := (blk_cell BK402.out 1).trans rfl; have hcz98_2 : w97.cell? ⟨gb402, 2, none⟩ = some (.int .i64 0) := (blk_cell BK402.out 2).trans rfl; have hfz98_0 := blk_frozen BK402.out 0; have hfz98_1 := blk_frozen BK402.out 1; have hfz98_2 := blk_frozen BK402.out 2))
                  refine bodyPost_ret (results_ctt rfl _ _ gb402 47 #[.int .i64 4, .string (a0.extract (a1 : Int).toNat ((wrap64 (a1 + 1)) : Int).toNat), .int .i64 a1] (0, 0) _ rfl (by (with_reducible repeat (first | refine blk_drewN ?_ _ | refine blk_drew ?_ | refine blk_alloc ?_ _)); refine blk_put (cs := #[.int .i64 4, .string (a0.extract (a1 : Int).toNat ((wrap64 (a1 + 1)) : Int).toNat), .int .i64 0]) ?_ 2 _ rfl; (with_reducible repeat (first | refine blk_drewN ?_ _ | refine blk_drew ?_ | refine blk_alloc ?_ _)); refine blk_put (cs := #[.int .i64 4, .string (⟨#[]⟩ : ByteArray), .int .i64 0]) ?_ 1 _ rfl; (with_reducible repeat (first | refine blk_drewN ?_ _ | refine blk_drew ?_ | refine blk_alloc ?_ _)); refine blk_put (cs := #[.int .i64 0, .string (⟨#[]⟩ : ByteArray), .int .i64 0]) ?_ 0 _ rfl; (with_reducible repeat (first | refine blk_drewN ?_ _ | refine blk_drew ?_ | refine blk_alloc ?_ _)); exact BK402.out) Tryz.underlying47 rfl (by kernel_rfl)) rfl ?_
                  exact ⟨by first | rfl | (simp [errW_none, errW_some] <;> rfl) | (simp [*, errW_none, errW_some] <;> rfl), by repeat (first | (with_reducible first | exact HB.out | apply below_alloc | apply pw_below_drewN | apply below_drew1 | refine below_set ?_ GE402.out) | exact HB.out)⟩
                · rw [if_neg c96] at H
                  exact absurd H (by simp)
              · rw [if_neg c95] at H
                exact absurd H (by simp)
            · replace c93 := Bool.eq_false_iff.mpr c93
              subst c93
              have H1 : (some (0, (⟨#[]⟩ : ByteArray), 0, 0, false)) = some (r1, r2, r3, r4, r5) := by rw [if_neg (show ¬ (false = true) by decide)] at H; exact H
              clear H
              have H := H1
              clear H1
              simp only [Option.some.injEq, Prod.mk.injEq] at H
              obtain ⟨rfl, rfl, rfl, rfl, rfl⟩ := H
              go_enter Tryz.func89, Tryz.ntmps89
              go_wp2_with (first | ((with_reducible refine gate_dst (N := 4) rfl ?_); (try (refine gate_guard (by rfl) ?_; dsimp only)); refine box_event ?hg (N := 4) ?hd (cs := #[.int .i64 0, .string (⟨#[]⟩ : ByteArray), .int .i64 0]) (t := 47) ?hr ?_; (case hd => rfl); (case hg => rfl); (case hr => first | (go_simp; done) | (go_simp; rfl)); intro gb402 hg w99 hbox hb; have n0_ := Aside0.mk (below_step (by repeat (first | (with_reducible first | exact HB.out | apply below_alloc | apply pw_below_drewN | apply below_drew1) | exact HB.out)) hb); have n1_ := Aside0.mk (hbox); have n2_ := Aside0.mk ((by rw [hg]; exact (below_size (by repeat (first | (with_reducible first | exact HB.out | apply below_alloc | apply pw_below_drewN | apply below_drew1) | exact HB.out))) : w.heap.size ≤ gb402)); have n3_ := Aside0.mk ((by rw [hg]; exact (below_size (by repeat (first | (with_reducible first | exact HB.out | apply below_alloc | apply pw_below_drewN | apply below_drew1) | exact HB.out))) : w.heap.size ≤ gb402)); clear HB; have HB := n0_; have BK402 := n1_; have GW402 := n2_; have GE402 := n3_; clear n0_ n1_ n2_ n3_; clear hb hbox hg; have p5 : 0 ≤ (a1 : Int) := of_decide_eq_true (by first | (with_reducible assumption) | assumption); have q5 : a1 < (a0.size : Int) := of_decide_eq_true (by first | (with_reducible assumption) | assumption); have hx5 := bt_at a0 a1; replace p5 := eq_true p5; replace q5 := eq_true q5) | ((with_reducible refine gate_callee (f := 115) rfl ?_); refine goesL_ (some 16) rfl rfl Tryz.func115 (by kernel_rfl) rfl #[.int .u8 (bt a0 a1)] rfl (by (try simp only [List.map_toArray, List.map_cons, List.map_nil]); first | done | rfl | (simp only [List.length_drop, List.length_take]; rfl)) ?_; (with_reducible refine (metewandref13_small.calls (bt a0 a1) false _ A6.out).mono ?_); rintro e w' ⟨rfl, ⟨nd, rfl⟩⟩; refine ⟨_, rfl, ?_⟩; (try (rw [drewN_self w99]; generalize hq_ : World.drewN w99 _ = w99; have n0_ : Aside0 (w99.heap[gb402]? = some (.cells #[.int .i64 0, .string (⟨#[]⟩ : ByteArray), .int .i64 0] 47 (0, 0))) := ⟨by rw [← hq_]; exact (by (with_reducible repeat (first | refine blk_drewN ?_ _ | refine blk_drew ?_ | refine blk_alloc ?_ _)); exact BK402.out)⟩; have n1_ : Aside0 (Below w.heap.size w w99) := ⟨by rw [← hq_]; exact (by repeat (first | (with_reducible first | exact HB.out | apply below_alloc | apply pw_below_drewN | apply below_drew1 | refine below_set ?_ GE402.out) | exact HB.out))⟩; clear BK402 HB hq_; have BK402 := n0_; have HB := n1_; clear n0_ n1_)); have p29 : 0 ≤ (a1 : Int) := of_decide_eq_true (by first | (with_reducible assumption) | assumption); have q29 : a1 < (a0.size : Int) := of_decide_eq_true (by first | (with_reducible assumption) | assumption); have hx29 := bt_at a0 a1; replace p29 := eq_true p29; replace q29 := eq_true q29) | ((with_reducible refine gate_callee (f := 117) rfl ?_); refine goesL_ (some 61) rfl rfl Tryz.func117 (by kernel_rfl) rfl #[.int .u8 (bt a0 a1)] rfl (by (try simp only [List.map_toArray, List.map_cons, List.map_nil]); first | done | rfl | (simp only [List.length_drop, List.length_take]; rfl)) ?_; (with_reducible refine (metewandref13_digit.calls (bt a0 a1) false _ A30.out).mono ?_); rintro e w' ⟨rfl, ⟨nd, rfl⟩⟩; refine ⟨_, rfl, ?_⟩; (try (rw [drewN_self w99]; generalize hq_ : World.drewN w99 _ = w99; have n0_ : Aside0 (w99.heap[gb402]? = some (.cells #[.int .i64 0, .string (⟨#[]⟩ : ByteArray), .int .i64 0] 47 (0, 0))) := ⟨by rw [← hq_]; exact (by (with_reducible repeat (first | refine blk_drewN ?_ _ | refine blk_drew ?_ | refine blk_alloc ?_ _)); exact BK402.out)⟩; have n1_ : Aside0 (Below w.heap.size w w99) := ⟨by rw [← hq_]; exact (by repeat (first | (with_reducible first | exact HB.out | apply below_alloc | apply pw_below_drewN | apply below_drew1 | refine below_set ?_ GE402.out) | exact HB.out))⟩; clear BK402 HB hq_; have BK402 := n0_; have HB := n1_; clear n0_ n1_)); have p58 : 0 ≤ (a1 : Int) := of_decide_eq_true (by first | (with_reducible assumption) | assumption); have q58 : a1 < (a0.size : Int) := of_decide_eq_true (by first | (with_reducible assumption) | assumption); have hx58 := bt_at a0 a1; replace p58 := eq_true p58; replace q58 := eq_true q58; have p91 : 0 ≤ (a1 : Int) := of_decide_eq_true (by first | (with_reducible assumption) | assumption); have q91 : a1 < (a0.size : Int) := of_decide_eq_true (by first | (with_reducible assumption) | assumption); have hx91 := bt_at a0 a1; replace p91 := eq_true p91; replace q91 := eq_true q91) | ((with_reducible refine gate_callee (f := 128) rfl ?_); refine goesL_ (some 139) rfl rfl Tryz.func128 (by kernel_rfl) rfl #[.int .u8 (bt a0 a1)] rfl (by (try simp only [List.map_toArray, List.map_cons, List.map_nil]); first | done | rfl | (simp only [List.length_drop, List.length_take]; rfl)) ?_; (with_reducible refine (metewandref13_sign.calls k (bt a0 a1) false _ A92.out).mono ?_); rintro e w' ⟨rfl, ⟨nd, rfl⟩⟩; refine ⟨_, rfl, ?_⟩; (try (rw [drewN_self w99]; generalize hq_ : World.drewN w99 _ = w99; have n0_ : Aside0 (w99.heap[gb402]? = some (.cells #[.int .i64 0, .string (⟨#[]⟩ : ByteArray), .int .i64 0] 47 (0, 0))) := ⟨by rw [← hq_]; exact (by (with_reducible repeat (first | refine blk_drewN ?_ _ | refine blk_drew ?_ | refine blk_alloc ?_ _)); exact BK402.out)⟩; have n1_ : Aside0 (Below w.heap.size w w99) := ⟨by rw [← hq_]; exact (by repeat (first | (with_reducible first | exact HB.out | apply below_alloc | apply pw_below_drewN | apply below_drew1 | refine below_set ?_ GE402.out) | exact HB.out))⟩; clear BK402 HB hq_; have BK402 := n0_; have HB := n1_; clear n0_ n1_)); have hcz100_0 : w99.cell? ⟨gb402, 0, none⟩ = some (.int .i64 0) := (blk_cell BK402.out 0).trans rfl; have hcz100_1 : w99.cell? ⟨gb402, 1, none⟩ = some (.string (⟨#[]⟩ : ByteArray)) := (blk_cell BK402.out 1).trans rfl; have hcz100_2 : w99.cell? ⟨gb402, 2, none⟩ = some (.int .i64 0) := (blk_cell BK402.out 2).trans rfl; have hfz100_0 := blk_frozen BK402.out 0; have hfz100_1 := blk_frozen BK402.out 1; have hfz100_2 := blk_frozen BK402.out 2))
              refine bodyPost_ret (results_ctt rfl _ _ gb402 47 #[.int .i64 0, .string (⟨#[]⟩ : ByteArray), .int .i64 0] (0, 0) _ rfl (by (with_reducible repeat (first | refine blk_drewN ?_ _ | refine blk_drew ?_ | refine blk_alloc ?_ _)); refine blk_put (cs := #[.int .i64 0, .string (⟨#[]⟩ : ByteArray), .int .i64 0]) ?_ 2 _ rfl; (with_reducible repeat (first | refine blk_drewN ?_ _ | refine blk_drew ?_ | refine blk_alloc ?_ _)); refine blk_put (cs := #[.int .i64 0, .string (⟨#[]⟩ : ByteArray), .int .i64 0]) ?_ 1 _ rfl; (with_reducible repeat (first | refine blk_drewN ?_ _ | refine blk_drew ?_ | refine blk_alloc ?_ _)); refine blk_put (cs := #[.int .i64 0, .string (⟨#[]⟩ : ByteArray), .int .i64 0]) ?_ 0 _ rfl; (with_reducible repeat (first | refine blk_drewN ?_ _ | refine blk_drew ?_ | refine blk_alloc ?_ _)); exact BK402.out) Tryz.underlying47 rfl (by kernel_rfl)) rfl ?_
              exact ⟨by first | rfl | (simp [errW_none, errW_some] <;> rfl) | (simp [*, errW_none, errW_some] <;> rfl), by repeat (first | (with_reducible first | exact HB.out | apply below_alloc | apply pw_below_drewN | apply below_drew1 | refine below_set ?_ GE402.out) | exact HB.out)⟩
    · rw [if_neg c4] at H
      exact absurd H (by simp)
  · rw [if_neg c3] at H
    exact absurd H (by simp)
end Go.Proofs.YtjaobihcdkjmbaaGreatDoor.PReadTokens
end
