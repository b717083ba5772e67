/- A part of the proof that the law ReadTokens answers true for every input. -/
import Derived.Test.YtjaobihcdkjmbaaGreatDoorZ3
import Derived.Test.YtjaobihcdkjmbaaGreatDoorZ6
import Derived.Test.YtjaobihcdkjmbaaGreatDoorZ19
section
namespace Go.Proofs.YtjaobihcdkjmbaaGreatDoor.PReadTokens
open Go.RowKit Go.Proofs.YtjaobihcdkjmbaaGreatDoorW.PrintWords Go.Proofs.YtjaobihcdkjmbaaGreatDoorW.PrintLast Go.Proofs.YtjaobihcdkjmbaaGreatDoorW.PrintMore
attribute [local go_sem] max2_int min2_int max_two min_two max_three min_three max_four min_four   -- for this text's walks alone
set_option linter.unusedVariables false
set_option linter.unusedSimpArgs false
def metewandref13_scan.l0 : Nat → ByteArray → List (S47) → Int → Option ((List (S47)) × Int)
  | 0, _, _, _ => none
  | k + 1, x0, x4, x5 => if x5 < (x0.size : Int) then (if 0 ≤ x5 then (if (bt x0 x5) = 32 then (metewandref13_scan.l0 k x0 x4 (wrap64 (x5 + 1))) else ((metewandref13_token.f k x0 x5).bind fun bt414 => (if bt414.2.2.2.2 = true then (if x4.length < 4398046511104 then (metewandref13_scan.l0 k x0 (x4 ++ [(⟨bt414.1, bt414.2.1, bt414.2.2.1⟩ : S47)]) bt414.2.2.2.1) else (none)) else (some (x4, x5))))) else (none)) else (some (x4, (-1)))
def metewandref13_scan.f (k : Nat) (a0 : ByteArray) : Option ((List (S47)) × Int) := metewandref13_scan.l0 k a0 ([] : List (S47)) 0
theorem metewandref13_scan.mono_l : ∀ k, (∀ y0 y1 y2, LeO (metewandref13_scan.l0 k y0 y1 y2) (metewandref13_scan.l0 (k + 1) y0 y1 y2))
  | 0 => fun _ _ _ r h => by simp [metewandref13_scan.l0] at h
  | k + 1 => by
    have ih0 := metewandref13_scan.mono_l k
    · intro y0 y1 y2
      unfold metewandref13_scan.l0
      repeat' first
      | (with_reducible exact ih0 _ _ _)
      | (with_reducible exact metewandref13_token.mono _ _ _)
      | (with_reducible exact LeO.refl _)
      | (with_reducible exact LeO.none _)
      | (with_reducible refine LeO.ite ?_ ?_)
      | (with_reducible refine LeO.bind ?_ (fun _ => ?_))
      | exact ih0 _ _ _
      | exact metewandref13_token.mono _ _ _
      | exact LeO.none _
      | refine LeO.ite ?_ ?_
      | refine LeO.bind ?_ (fun _ => ?_)
theorem metewandref13_scan.mono : ∀ a0 k, LeO (metewandref13_scan.f k a0) (metewandref13_scan.f (k + 1) a0) := by
  intro a0 k
  have ih0 := metewandref13_scan.mono_l k
  unfold metewandref13_scan.f
  repeat' first
      | (with_reducible exact ih0 _ _ _)
      | (with_reducible exact metewandref13_token.mono _ _ _)
      | (with_reducible exact LeO.refl _)
      | (with_reducible exact LeO.none _)
      | (with_reducible refine LeO.ite ?_ ?_)
      | (with_reducible refine LeO.bind ?_ (fun _ => ?_))
      | exact ih0 _ _ _
      | exact metewandref13_token.mono _ _ _
      | exact LeO.none _
      | refine LeO.ite ?_ ?_
      | refine LeO.bind ?_ (fun _ => ?_)
set_option maxHeartbeats 8000000 in
set_option maxRecDepth 100000 in
theorem metewandref13_scan.calls (k : Nat) (a0 : ByteArray) (r1 : List (S47)) (r2 : Int) (w : World) (h : metewandref13_scan.f k a0 = some (r1, r2)) :
    Calls Tryz.prog 54 #[.string a0] w fun e w' => ∃ v0_ : Value, e = .returned (.tuple #[v0_, .int .i64 r2]) ∧ Kd.R k47 47 w' w.heap.size (fun _ => True) v0_ r1 ∧ Below w.heap.size w w' := by
  have hu47 := Tryz.underlying47
  have HB := Aside0.mk (Below.refl w.heap.size w)
  have H : (metewandref13_scan.l0 k a0 ([] : List (S47)) 0) = some (r1, r2) := h
  clear h
  have H' := Aside0.mk H
  clear H
  go_enter Tryz.func54, Tryz.ntmps54
  go_wp2
  go_loopg [4, 5] k (fun kq v4 v5 w' => ∃ (x4_1 : List (S47)) (x5_1 : Int), v5 = .int .i64 x5_1 ∧ Aside0 (metewandref13_scan.l0 kq a0 x4_1 x5_1 = some (r1, r2)) ∧ Aside0 (kq ≤ k) ∧ Aside0 (Kd.R k47 47 w' w.heap.size (fun _ => True) v4 x4_1) ∧ Aside0 (Below w.heap.size w w'))
  case atStart => exact ⟨(([] : List (S47))), (0), (by first | rfl | (simp; done) | (simp [*]; done)), H', ⟨Nat.le_refl _⟩, ⟨by first | exact Kd.R_nil _ _ _ _ _ | exact Kd.N_nil _ _ _ _ _ | exact Kd.V_nil _ _ _ _ _ | exact Kd.Q_nil _ _ _ _ _ | exact Kd.S_nil _ _ _ _ _⟩, ⟨by repeat (first | (with_reducible first | exact HB.out | apply below_alloc | apply pw_below_drewN | apply below_drew1) | exact HB.out)⟩⟩
  case round =>
    clear H'
    obtain ⟨x4_1, x5_1, rfl, HA, HK1, HO_4, HB⟩ := hrel
    cases gk with
    | zero => exact absurd HA.out (by simp [metewandref13_scan.l0])
    | succ k1 =>
      have H := HA.out
      clear HA
      simp only [metewandref13_scan.l0] at H
      by_cases c2 : x5_1 < (a0.size : Int)
      · rw [if_pos c2] at H
        have c2b0 : decide (x5_1 < (a0.size : Int)) = true := decide_eq_true c2
        clear c2
        by_cases c3 : 0 ≤ x5_1
        · rw [if_pos c3] at H
          have c3b0 : decide (0 ≤ x5_1) = true := decide_eq_true c3
          clear c3
          by_cases c5 : (bt a0 x5_1) = 32
          · rw [if_pos c5] at H
            have c5b0 : ((bt a0 x5_1) == 32) = true := beq_iff_eq.mpr c5
            have c5b1 : ((bt a0 x5_1) != 32) = false := bne_eq_false_iff_eq.mpr c5
            clear c5
            have H' := Aside0.mk H
            clear H
            have p4 : 0 ≤ (x5_1 : Int) := of_decide_eq_true (by first | (with_reducible assumption) | assumption)
            have q4 : x5_1 < (a0.size : Int) := of_decide_eq_true (by first | (with_reducible assumption) | assumption)
            have hx4 := bt_at a0 x5_1
            replace p4 := eq_true p4
            replace q4 := eq_true q4
            go_wp2
            go_roundg k1
            case measure => have := HK1.out; omega
            case rel => exact ⟨(x4_1), (wrap64 (x5_1 + 1)), (by first | rfl | (simp; done) | (simp [*]; done)), H', ⟨by have := HK1.out; omega⟩, ⟨by (with_reducible repeat (first | apply Kd.R_alloc | apply Kd.R_drewN | apply Kd.R_drew)); exact HO_4.out⟩, ⟨by repeat (first | (with_reducible first | exact HB.out | apply below_alloc | apply pw_below_drewN | apply below_drew1) | exact HB.out)⟩⟩
          · rw [if_neg c5] at H
            have c5b0 : ((bt a0 x5_1) == 32) = false := beq_eq_false_iff_ne.mpr c5
            have c5b1 : ((bt a0 x5_1) != 32) = true := bne_iff_ne.mpr c5
            replace H := Option.bind_eq_some_iff.mp H
            obtain ⟨⟨t414, t415, t416, t417, t418⟩, A60, H⟩ := H
            replace H : (if t418 = true then (if x4_1.length < 4398046511104 then (metewandref13_scan.l0 k1 a0 (x4_1 ++ [(⟨t414, t415, t416⟩ : S47)]) t417) else (none)) else (some (x4_1, x5_1))) = some (r1, r2) := H
            have A6 := Aside0.mk A60
            clear A60
            by_cases c7 : t418 = true
            · subst c7
              have H1 : (if x4_1.length < 4398046511104 then (metewandref13_scan.l0 k1 a0 (x4_1 ++ [(⟨t414, t415, t416⟩ : S47)]) t417) else (none)) = some (r1, r2) := by rw [if_pos rfl] at H; exact H
              clear H
              have H := H1
              clear H1
              by_cases c8 : x4_1.length < 4398046511104
              · rw [if_pos c8] at H
                have LMc8 := Aside0.mk c8
                clear c8
                obtain ⟨y420, hy420⟩ : ∃ y_ : List (S47), y_ = (x4_1 ++ [(⟨t414, t415, t416⟩ : S47)]) := ⟨_, rfl⟩
                replace H : (metewandref13_scan.l0 k1 a0 y420 t417) = some (r1, r2) := by first | (rw [hy420]; with_reducible exact H) | (have H2_ := (Option.bind_some _ _).symm.trans H; rw [hy420]; with_reducible exact H2_) | (have H2_ := (Option.bind_some _ _).symm.trans H; with_reducible exact H2_) | with_reducible exact H | (rw [hy420]; exact H) | exact H
                have Ny420 := Aside0.mk hy420
                clear hy420
                have H' := Aside0.mk H
                clear H
                have p4 : 0 ≤ (x5_1 : Int) := of_decide_eq_true (by first | (with_reducible assumption) | assumption)
                have q4 : x5_1 < (a0.size : Int) := of_decide_eq_true (by first | (with_reducible assumption) | assumption)
                have hx4 := bt_at a0 x5_1
                replace p4 := eq_true p4
                replace q4 := eq_true q4
                go_wp2_with (first | ((with_reducible refine gate_callee (f := 89) rfl ?_); refine goesL_ (some 22) rfl rfl Tryz.func89 (by kernel_rfl) rfl #[.string a0, .int .i64 x5_1] rfl (by (try simp only [List.map_toArray, List.map_cons, List.map_nil]); first | done | rfl | (simp only [List.length_drop, List.length_take]; rfl)) ?_; (with_reducible refine (metewandref13_token.calls k1 a0 x5_1 t414 t415 t416 t417 true _ A6.out).mono ?_); rintro e w9 ⟨rfl, hb⟩; refine ⟨_, rfl, ?_⟩; have n0_ := Aside0.mk (Kd.R_below (by (with_reducible repeat (first | apply Kd.R_alloc | apply Kd.R_drewN | apply Kd.R_drew)); exact HO_4.out) hb); have n1_ := Aside0.mk (below_step (by repeat (first | (with_reducible first | exact HB.out | apply below_alloc | apply pw_below_drewN | apply below_drew1) | exact HB.out)) hb); clear HO_4; clear HB; have HO_4 := n0_; have HB := n1_; clear n0_ n1_; (try clear hb); (try clear hb2); (try clear hk); (try clear hi)) | ((with_reducible refine gate_dst (N := 6) rfl ?_); refine box_event ?hg (N := 6) ?hd (cs := #[.int .i64 0, .string (⟨#[]⟩ : ByteArray), .int .i64 0]) (t := 47) ?hr ?_; (case hd => rfl); (case hg => rfl); (case hr => first | (go_simp; done) | (go_simp; rfl)); intro gb419 hg w10 hbox hb; have n0_ := Aside0.mk (Kd.R_below (Kd.R_elderB (by (with_reducible repeat (first | apply Kd.R_alloc | apply Kd.R_drewN | apply Kd.R_drew)); exact HO_4.out) gb419 (Nat.le_of_eq hg.symm)) hb); have n1_ := Aside0.mk (below_step (by repeat (first | (with_reducible first | exact HB.out | apply below_alloc | apply pw_below_drewN | apply below_drew1) | exact HB.out)) hb); have n2_ := Aside0.mk (hbox); have n3_ := Aside0.mk ((by rw [hg]; exact (below_size (by repeat (first | (with_reducible first | exact HB.out | apply below_alloc | apply pw_below_drewN | apply below_drew1) | exact HB.out))) : w.heap.size ≤ gb419)); have n4_ := Aside0.mk ((by rw [hg]; exact (below_size (by repeat (first | (with_reducible first | exact HB.out | apply below_alloc | apply pw_below_drewN | apply below_drew1) | exact HB.out))) : w.heap.size ≤ gb419)); clear HO_4; clear HB; have HO_4 := n0_; have HB := n1_; have BK419 := n2_; have GW419 := n3_; have GE419 := n4_; clear n0_ n1_ n2_ n3_ n4_; clear hb hbox hg; have hcz11_0 : w10.cell? ⟨gb419, 0, none⟩ = some (.int .i64 0) := (blk_cell BK419.out 0).trans rfl; have hcz11_1 : w10.cell? ⟨gb419, 1, none⟩ = some (.string (⟨#[]⟩ : ByteArray)) := (blk_cell BK419.out 1).trans rfl; have hcz11_2 : w10.cell? ⟨gb419, 2, none⟩ = some (.int .i64 0) := (blk_cell BK419.out 2).trans rfl; have hfz11_0 := blk_frozen BK419.out 0; have hfz11_1 := blk_frozen BK419.out 1; have hfz11_2 := blk_frozen BK419.out 2) | ((with_reducible refine gate_builtin (b := .append) (xs := #[.tmp 30, .tmp 32]) rfl ?_); at_builtin; refine Kd.R_append k47 (w0 := w) w.heap.size rfl (.tmp 30) (.tmp 32) 35 47 (.agg #[(.int .i64 0), (.string ⟨#[]⟩), (.int .i64 0)]) 32 rfl Tryz.underlying35 info47 rfl (by decide) (by omega) u4 x4_1 (⟨t414, t415, t416⟩ : S47) [.int .i64 t414, .string t415, .int .i64 t416] (fun k_ => k_ ≠ gb419) (fun _ => False) rfl (by first | (go_simp; done) | (go_simp; rfl)) ?aP (fun _ hk => hk.elim) ?aF ?aO ?aB ?aS ?aL ?_; (case aP => exact k47_mkM _ _ _ (⟨t414, t415, t416⟩ : S47)); (case aB => exact (by repeat (first | (with_reducible first | exact HB.out | apply below_alloc | apply pw_below_drewN | apply below_drew1 | refine below_set ?_ GE419.out) | exact HB.out))); (case aF => exact (fun k_ hk => Kd.freshB (g := gb419) (o := .cells #[.int .i64 t414, .string t415, .int .i64 t416] 47 (0, 0)) (by (with_reducible repeat (first | refine blk_drewN ?_ _ | refine blk_drew ?_ | refine blk_alloc ?_ _)); refine blk_put (cs := #[.int .i64 t414, .string t415, .int .i64 0]) ?_ 2 _ rfl; (with_reducible repeat (first | refine blk_drewN ?_ _ | refine blk_drew ?_ | refine blk_alloc ?_ _)); refine blk_put (cs := #[.int .i64 t414, .string (⟨#[]⟩ : ByteArray), .int .i64 0]) ?_ 1 _ rfl; (with_reducible repeat (first | refine blk_drewN ?_ _ | refine blk_drew ?_ | refine blk_alloc ?_ _)); refine blk_put (cs := #[.int .i64 0, .string (⟨#[]⟩ : ByteArray), .int .i64 0]) ?_ 0 _ rfl; (with_reducible repeat (first | refine blk_drewN ?_ _ | refine blk_drew ?_ | refine blk_alloc ?_ _)); exact BK419.out) k_ hk)); (case aO => exact (by (with_reducible repeat (first | apply Kd.R_alloc | apply Kd.R_drewN | apply Kd.R_drew)); exact Kd.R_mono (Kd.R_far (p := ⟨gb419, 2, none⟩) (Kd.R_far (p := ⟨gb419, 1, none⟩) (Kd.R_far (p := ⟨gb419, 0, none⟩) (Kd.R_mono HO_4.out (fun k_ hk => (⟨hk, hk.2⟩ : _ ∧ k_ ≠ gb419))) (fun _ hk => hk.2) (.int .i64 t414)) (fun _ hk => hk.2) (.string t415)) (fun _ hk => hk.2) (.int .i64 t416)) (fun _ hk => hk.1.2))); (case aS => exact (below_size (by repeat (first | (with_reducible first | exact HB.out | apply below_alloc | apply pw_below_drewN | apply below_drew1 | refine below_set ?_ GE419.out) | exact HB.out)))); (case aL => have := LMc8.out; omega); intro v421 w12 ho hb hg hat; rw [← Ny420.out] at ho; have n0_ := Aside0.mk (blk_grown (g := gb419) (o := .cells #[.int .i64 t414, .string t415, .int .i64 t416] 47 (0, 0)) (by (with_reducible repeat (first | refine blk_drewN ?_ _ | refine blk_drew ?_ | refine blk_alloc ?_ _)); refine blk_put (cs := #[.int .i64 t414, .string t415, .int .i64 0]) ?_ 2 _ rfl; (with_reducible repeat (first | refine blk_drewN ?_ _ | refine blk_drew ?_ | refine blk_alloc ?_ _)); refine blk_put (cs := #[.int .i64 t414, .string (⟨#[]⟩ : ByteArray), .int .i64 0]) ?_ 1 _ rfl; (with_reducible repeat (first | refine blk_drewN ?_ _ | refine blk_drew ?_ | refine blk_alloc ?_ _)); refine blk_put (cs := #[.int .i64 0, .string (⟨#[]⟩ : ByteArray), .int .i64 0]) ?_ 0 _ rfl; (with_reducible repeat (first | refine blk_drewN ?_ _ | refine blk_drew ?_ | refine blk_alloc ?_ _)); exact BK419.out) hg (Kd.R_away HO_4.out (fun _ hk => hk.2))); have n1_ := Aside0.mk (hb); have n2_ := Aside0.mk (ho); clear BK419; clear HB; clear HO_4; have BK419 := n0_; have HB := n1_; have HO422 := n2_; clear n0_ n1_ n2_; clear ho hb hg hat))
                go_roundg k1
                case measure => have := HK1.out; omega
                case rel => exact ⟨(y420), (t417), (by first | rfl | (simp; done) | (simp [*]; done)), H', ⟨by have := HK1.out; omega⟩, ⟨by (with_reducible repeat (first | apply Kd.R_alloc | apply Kd.R_drewN | apply Kd.R_drew)); exact Kd.R_mono HO422.out (fun _ hk => trivial)⟩, ⟨by repeat (first | (with_reducible first | exact HB.out | apply below_alloc | apply pw_below_drewN | apply below_drew1 | refine below_set ?_ GE419.out) | exact HB.out)⟩⟩
              · rw [if_neg c8] at H
                exact absurd H (by simp)
            · replace c7 := Bool.eq_false_iff.mpr c7
              subst c7
              have H1 : (some (x4_1, x5_1)) = some (r1, r2) := by rw [if_neg (show ¬ (false = true) by decide)] at H; exact H
              clear H
              have H := H1
              clear H1
              simp only [Option.some.injEq, Prod.mk.injEq] at H
              obtain ⟨rfl, rfl⟩ := H
              have p4 : 0 ≤ (x5_1 : Int) := of_decide_eq_true (by first | (with_reducible assumption) | assumption)
              have q4 : x5_1 < (a0.size : Int) := of_decide_eq_true (by first | (with_reducible assumption) | assumption)
              have hx4 := bt_at a0 x5_1
              replace p4 := eq_true p4
              replace q4 := eq_true q4
              go_wp2_with (first | ((with_reducible refine gate_callee (f := 89) rfl ?_); refine goesL_ (some 22) rfl rfl Tryz.func89 (by kernel_rfl) rfl #[.string a0, .int .i64 x5_1] rfl (by (try simp only [List.map_toArray, List.map_cons, List.map_nil]); first | done | rfl | (simp only [List.length_drop, List.length_take]; rfl)) ?_; (with_reducible refine (metewandref13_token.calls k1 a0 x5_1 t414 t415 t416 t417 false _ A6.out).mono ?_); rintro e w13 ⟨rfl, hb⟩; refine ⟨_, rfl, ?_⟩; have n0_ := Aside0.mk (Kd.R_below (by (with_reducible repeat (first | apply Kd.R_alloc | apply Kd.R_drewN | apply Kd.R_drew)); exact HO_4.out) hb); have n1_ := Aside0.mk (below_step (by repeat (first | (with_reducible first | exact HB.out | apply below_alloc | apply pw_below_drewN | apply below_drew1) | exact HB.out)) hb); clear HO_4; clear HB; have HO_4 := n0_; have HB := n1_; clear n0_ n1_; (try clear hb); (try clear hb2); (try clear hk); (try clear hi)) | ((with_reducible refine gate_dst (N := 6) rfl ?_); refine box_event ?hg (N := 6) ?hd (cs := #[.int .i64 0, .string (⟨#[]⟩ : ByteArray), .int .i64 0]) (t := 47) ?hr ?_; (case hd => rfl); (case hg => rfl); (case hr => first | (go_simp; done) | (go_simp; rfl)); intro gb419 hg w14 hbox hb; have n0_ := Aside0.mk (Kd.R_below (Kd.R_elderB (by (with_reducible repeat (first | apply Kd.R_alloc | apply Kd.R_drewN | apply Kd.R_drew)); exact HO_4.out) gb419 (Nat.le_of_eq hg.symm)) hb); have n1_ := Aside0.mk (below_step (by repeat (first | (with_reducible first | exact HB.out | apply below_alloc | apply pw_below_drewN | apply below_drew1) | exact HB.out)) hb); have n2_ := Aside0.mk (hbox); have n3_ := Aside0.mk ((by rw [hg]; exact (below_size (by repeat (first | (with_reducible first | exact HB.out | apply below_alloc | apply pw_below_drewN | apply below_drew1) | exact HB.out))) : w.heap.size ≤ gb419)); have n4_ := Aside0.mk ((by rw [hg]; exact (below_size (by repeat (first | (with_reducible first | exact HB.out | apply below_alloc | apply pw_below_drewN | apply below_drew1) | exact HB.out))) : w.heap.size ≤ gb419)); clear HO_4; clear HB; have HO_4 := n0_; have HB := n1_; have BK419 := n2_; have GW419 := n3_; have GE419 := n4_; clear n0_ n1_ n2_ n3_ n4_; clear hb hbox hg; have hcz15_0 : w14.cell? ⟨gb419, 0, none⟩ = some (.int .i64 0) := (blk_cell BK419.out 0).trans rfl; have hcz15_1 : w14.cell? ⟨gb419, 1, none⟩ = some (.string (⟨#[]⟩ : ByteArray)) := (blk_cell BK419.out 1).trans rfl; have hcz15_2 : w14.cell? ⟨gb419, 2, none⟩ = some (.int .i64 0) := (blk_cell BK419.out 2).trans rfl; have hfz15_0 := blk_frozen BK419.out 0; have hfz15_1 := blk_frozen BK419.out 1; have hfz15_2 := blk_frozen BK419.out 2))
              go_ret2
              exact ⟨_, by first | rfl | (simp [errW_none, errW_some] <;> rfl) | (simp [*, errW_none, errW_some] <;> rfl), by (with_reducible repeat (first | apply Kd.R_alloc | apply Kd.R_drewN | apply Kd.R_drew)); exact Kd.R_mono (Kd.R_far (p := ⟨gb419, 2, none⟩) (Kd.R_far (p := ⟨gb419, 1, none⟩) (Kd.R_far (p := ⟨gb419, 0, none⟩) (Kd.R_mono HO_4.out (fun k_ hk => (⟨hk, hk.2⟩ : _ ∧ k_ ≠ gb419))) (fun _ hk => hk.2) (.int .i64 t414)) (fun _ hk => hk.2) (.string t415)) (fun _ hk => hk.2) (.int .i64 t416)) (fun _ hk => trivial), by repeat (first | (with_reducible first | exact HB.out | apply below_alloc | apply pw_below_drewN | apply below_drew1 | refine below_set ?_ GE419.out) | exact HB.out)⟩
        · rw [if_neg c3] at H
          exact absurd H (by simp)
      · rw [if_neg c2] at H
        have c2b0 : decide (x5_1 < (a0.size : Int)) = false := decide_eq_false c2
        clear c2
        simp only [Option.some.injEq, Prod.mk.injEq] at H
        obtain ⟨rfl, rfl⟩ := H
        go_wp2
        go_ret2
        exact ⟨_, by first | rfl | (simp [errW_none, errW_some] <;> rfl) | (simp [*, errW_none, errW_some] <;> rfl), by (with_reducible repeat (first | apply Kd.R_alloc | apply Kd.R_drewN | apply Kd.R_drew)); exact HO_4.out, by repeat (first | (with_reducible first | exact HB.out | apply below_alloc | apply pw_below_drewN | apply below_drew1) | exact HB.out)⟩
def metewandref13_Tokens.f (k : Nat) (a0 : ByteArray) : Option ((List (S47)) × Int × Int) := if (a0.size : Int) > 2000 then (some (([] : List (S47)), 0, 13)) else ((metewandref13_scan.f k a0).bind fun bt423 => (if bt423.2 ≥ 0 then (some (([] : List (S47)), bt423.2, 1)) else (some (bt423.1, 0, 0))))
theorem metewandref13_Tokens.mono : ∀ a0 k, LeO (metewandref13_Tokens.f k a0) (metewandref13_Tokens.f (k + 1) a0) := by
  intro a0 k
  unfold metewandref13_Tokens.f
  repeat' first
      | (with_reducible exact metewandref13_scan.mono _ _)
      | (with_reducible exact LeO.refl _)
      | (with_reducible exact LeO.none _)
      | (with_reducible refine LeO.ite ?_ ?_)
      | (with_reducible refine LeO.bind ?_ (fun _ => ?_))
      | exact metewandref13_scan.mono _ _
      | exact LeO.none _
      | refine LeO.ite ?_ ?_
      | refine LeO.bind ?_ (fun _ => ?_)
set_option maxHeartbeats 8000000 in
set_option maxRecDepth 100000 in
theorem metewandref13_Tokens.calls (k : Nat) (a0 : ByteArray) (r1 : List (S47)) (r2 : Int) (r3 : Int) (w : World) (h : metewandref13_Tokens.f k a0 = some (r1, r2, r3)) :
    Calls Tryz.prog 16 #[.string a0] w fun e w' => ∃ v0_ : Value, e = .returned (.tuple #[v0_, .int .i64 r2, .int .i64 r3]) ∧ Kd.R k47 47 w' w.heap.size (fun _ => True) v0_ r1 ∧ Below w.heap.size w w' := by
  have HB := Aside0.mk (Below.refl w.heap.size w)
  have H : (if (a0.size : Int) > 2000 then (some (([] : List (S47)), 0, 13)) else ((metewandref13_scan.f k a0).bind fun bt423 => (if bt423.2 ≥ 0 then (some (([] : List (S47)), bt423.2, 1)) else (some (bt423.1, 0, 0))))) = some (r1, r2, r3) := h
  clear h
  by_cases c2 : (a0.size : Int) > 2000
  · rw [if_pos c2] at H
    have c2b0 : decide (2000 < (a0.size : Int)) = true := decide_eq_true c2
    have c2b1 : decide (2000 < a0.size) = true := decide_eq_true (by omega)
    clear c2
    simp only [Option.some.injEq, Prod.mk.injEq] at H
    obtain ⟨rfl, rfl, rfl⟩ := H
    go_enter Tryz.func16, Tryz.ntmps16
    go_wp2
    go_ret3
    exact ⟨_, by first | rfl | (simp [errW_none, errW_some] <;> rfl) | (simp [*, errW_none, errW_some] <;> rfl), by first | exact Kd.R_nil _ _ _ _ _ | exact Kd.N_nil _ _ _ _ _ | exact Kd.V_nil _ _ _ _ _ | exact Kd.Q_nil _ _ _ _ _ | exact Kd.S_nil _ _ _ _ _, by repeat (first | (with_reducible first | exact HB.out | apply below_alloc | apply pw_below_drewN | apply below_drew1) | exact HB.out)⟩
  · rw [if_neg c2] at H
    have c2b0 : decide (2000 < (a0.size : Int)) = false := decide_eq_false c2
    have c2b1 : decide (2000 < a0.size) = false := decide_eq_false (by omega)
    clear c2
    replace H := Option.bind_eq_some_iff.mp H
    obtain ⟨⟨t423, t424⟩, A30, H⟩ := H
    replace H : (if t424 ≥ 0 then (some (([] : List (S47)), t424, 1)) else (some (t423, 0, 0))) = some (r1, r2, r3) := H
    have A3 := Aside0.mk A30
    clear A30
    by_cases c4 : t424 ≥ 0
    · rw [if_pos c4] at H
      have c4b0 : decide (0 ≤ t424) = true := decide_eq_true c4
      clear c4
      simp only [Option.some.injEq, Prod.mk.injEq] at H
      obtain ⟨rfl, rfl, rfl⟩ := H
      go_enter Tryz.func16, Tryz.ntmps16
      go_wp2_with (first | ((with_reducible refine gate_callee (f := 54) rfl ?_); refine goesL_ (some 12) rfl rfl Tryz.func54 (by kernel_rfl) rfl #[.string a0] rfl (by (try simp only [List.map_toArray, List.map_cons, List.map_nil]); first | done | rfl | (simp only [List.length_drop, List.length_take]; rfl)) ?_; (with_reducible refine (metewandref13_scan.calls k a0 t423 t424 _ A3.out).mono ?_); rintro e w5 ⟨v425, rfl, ho0, hb⟩; refine ⟨_, rfl, ?_⟩; have n0_ := Aside0.mk (Kd.R_lower ho0 (below_size (by repeat (first | (with_reducible first | exact HB.out | apply below_alloc | apply pw_below_drewN | apply below_drew1) | exact HB.out)))); have n1_ := Aside0.mk (below_step (by repeat (first | (with_reducible first | exact HB.out | apply below_alloc | apply pw_below_drewN | apply below_drew1) | exact HB.out)) hb); clear HB; have HO426 := n0_; have HB := n1_; clear n0_ n1_; (try clear hb); (try clear hb2); (try clear hk); (try clear hi); (try clear ho0)))
      go_ret3
      exact ⟨_, by first | rfl | (simp [errW_none, errW_some] <;> rfl) | (simp [*, errW_none, errW_some] <;> rfl), by first | exact Kd.R_nil _ _ _ _ _ | exact Kd.N_nil _ _ _ _ _ | exact Kd.V_nil _ _ _ _ _ | exact Kd.Q_nil _ _ _ _ _ | exact Kd.S_nil _ _ _ _ _, by repeat (first | (with_reducible first | exact HB.out | apply below_alloc | apply pw_below_drewN | apply below_drew1) | exact HB.out)⟩
    · rw [if_neg c4] at H
      have c4b0 : decide (0 ≤ t424) = false := decide_eq_false c4
      clear c4
      simp only [Option.some.injEq, Prod.mk.injEq] at H
      obtain ⟨rfl, rfl, rfl⟩ := H
      go_enter Tryz.func16, Tryz.ntmps16
      go_wp2_with (first | ((with_reducible refine gate_callee (f := 54) rfl ?_); refine goesL_ (some 12) rfl rfl Tryz.func54 (by kernel_rfl) rfl #[.string a0] rfl (by (try simp only [List.map_toArray, List.map_cons, List.map_nil]); first | done | rfl | (simp only [List.length_drop, List.length_take]; rfl)) ?_; (with_reducible refine (metewandref13_scan.calls k a0 t423 t424 _ A3.out).mono ?_); rintro e w6 ⟨v425, rfl, ho0, hb⟩; refine ⟨_, rfl, ?_⟩; have n0_ := Aside0.mk (Kd.R_lower ho0 (below_size (by repeat (first | (with_reducible first | exact HB.out | apply below_alloc | apply pw_below_drewN | apply below_drew1) | exact HB.out)))); have n1_ := Aside0.mk (below_step (by repeat (first | (with_reducible first | exact HB.out | apply below_alloc | apply pw_below_drewN | apply below_drew1) | exact HB.out)) hb); clear HB; have HO426 := n0_; have HB := n1_; clear n0_ n1_; (try clear hb); (try clear hb2); (try clear hk); (try clear hi); (try clear ho0)))
      go_ret3
      exact ⟨_, by first | rfl | (simp [errW_none, errW_some] <;> rfl) | (simp [*, errW_none, errW_some] <;> rfl), by (with_reducible repeat (first | apply Kd.R_alloc | apply Kd.R_drewN | apply Kd.R_drew)); exact HO426.out, by repeat (first | (with_reducible first | exact HB.out | apply below_alloc | apply pw_below_drewN | apply below_drew1) | exact HB.out)⟩
end Go.Proofs.YtjaobihcdkjmbaaGreatDoor.PReadTokens
end
section
namespace Go.Proofs.YtjaobihcdkjmbaaGreatDoor
open Go.RowKit Go.Proofs.YtjaobihcdkjmbaaGreatDoorW.PrintWords Go.Proofs.YtjaobihcdkjmbaaGreatDoor.PReadTokens
theorem beq_not {a b : Int} (h : a ≠ b) : (a == b) = false := beq_eq_false_iff_ne.2 h
theorem small_srt (c : Int) : metewandref13_small.f c = some (srt c == 2) := by
  unfold metewandref13_small.f srt
  by_cases h1 : c = 32
  · subst h1; rfl
  · rw [if_neg h1]
    by_cases h2 : 97 ≤ c ∧ c ≤ 122
    · rw [if_pos h2, if_pos h2.1, decide_eq_true h2.2]; rfl
    · rw [if_neg h2]
      have e : ((if 65 ≤ c ∧ c ≤ 90 then 3 else if 48 ≤ c ∧ c ≤ 57 then 4 else if markFrom c ms.data.toList = true then 5 else 0 : Int) == 2) = false := by
        repeat' split
        all_goals rfl
      rw [e]
      by_cases h3 : c ≥ 97
      · rw [if_pos h3, decide_eq_false (by omega)]
      · rw [if_neg h3]
theorem digit_srt (c : Int) : metewandref13_digit.f c = some (srt c == 4) := by
  unfold metewandref13_digit.f srt
  by_cases h1 : c = 32
  · subst h1; rfl
  · rw [if_neg h1]
    by_cases h2 : 97 ≤ c ∧ c ≤ 122
    · rw [if_pos h2, if_pos (by omega), decide_eq_false (by omega)]; rfl
    · rw [if_neg h2]
      by_cases h3 : 65 ≤ c ∧ c ≤ 90
      · rw [if_pos h3, if_pos (by omega), decide_eq_false (by omega)]; rfl
      · rw [if_neg h3]
        by_cases h4 : 48 ≤ c ∧ c ≤ 57
        · rw [if_pos h4, if_pos h4.1, decide_eq_true h4.2]; rfl
        · rw [if_neg h4]
          have e : ((if markFrom c ms.data.toList = true then 5 else 0 : Int) == 4) = false := by
            split <;> rfl
          rw [e]
          by_cases h5 : c ≥ 48
          · rw [if_pos h5, decide_eq_false (by omega)]
          · rw [if_neg h5]
theorem large_srt (c : Int) : metewandref13_large.f c = some (srt c == 3) := by
  unfold metewandref13_large.f srt
  by_cases h1 : c = 32
  · subst h1; rfl
  · rw [if_neg h1]
    by_cases h2 : 97 ≤ c ∧ c ≤ 122
    · rw [if_pos h2, if_pos (by omega), decide_eq_false (by omega)]; rfl
    · rw [if_neg h2]
      by_cases h3 : 65 ≤ c ∧ c ≤ 90
      · rw [if_pos h3, if_pos (by omega), decide_eq_true h3.2]; rfl
      · rw [if_neg h3]
        have e : ((if 48 ≤ c ∧ c ≤ 57 then 4 else if markFrom c ms.data.toList = true then 5 else 0 : Int) == 3) = false := by
          repeat' split
          all_goals rfl
        rw [e]
        by_cases h5 : c ≥ 65
        · rw [if_pos h5, decide_eq_false (by omega)]
        · rw [if_neg h5]
theorem sign_mark (c : Int) (d : Nat) : ∀ (k i : Nat), i + d = 14 → d < k → metewandref13_sign.l0 k c (i : Int) = some (markFrom c (ms.data.toList.drop i)) := by
  have hsz : ms.size = 14 := rfl
  induction d with
  | zero =>
    intro k i hi hk
    obtain ⟨k, rfl⟩ : ∃ m, k = m + 1 := ⟨k - 1, by omega⟩
    obtain rfl : i = 14 := by omega
    simp only [metewandref13_sign.l0]
    rw [if_neg (by decide)]
    rfl
  | succ d ih =>
    intro k i hi hk
    obtain ⟨k, rfl⟩ : ∃ m, k = m + 1 := ⟨k - 1, by omega⟩
    simp only [metewandref13_sign.l0]
    rw [if_pos (by omega), if_pos (by omega), wrap_nat i (by omega), ih k (i + 1) (by omega) (by omega), markFrom_drop c i (by omega)]
    have hb : bt ms (i : Int) = ((ms[i]'(by omega)).toNat : Int) := bt_nat ms i (by omega)
    rw [hb]
    by_cases h : ((ms[i]'(by omega)).toNat : Int) = c
    · rw [if_pos h, h]; simp
    · rw [if_neg h, beq_not (fun e => h e.symm), Bool.false_or]
theorem sign_srt (c : Int) (k : Nat) (hk : 15 ≤ k) : metewandref13_sign.f k c = some (srt c == 5) := by
  unfold metewandref13_sign.f
  rw [show (0 : Int) = ((0 : Nat) : Int) from rfl, sign_mark c 14 k 0 (by omega) (by omega), List.drop_zero]
  congr 1
  have hm : ∀ c : Int, markFrom c ms.data.toList = true → c ≠ 32 ∧ ¬ (97 ≤ c ∧ c ≤ 122) ∧ ¬ (65 ≤ c ∧ c ≤ 90) ∧ ¬ (48 ≤ c ∧ c ≤ 57) := by
    intro c h
    have : c = 40 ∨ c = 41 ∨ c = 91 ∨ c = 93 ∨ c = 44 ∨ c = 43 ∨ c = 45 ∨ c = 42 ∨ c = 47 ∨ c = 94 ∨ c = 60 ∨ c = 61 ∨ c = 46 ∨ c = 124 := by
      simpa [markFrom] using h
    omega
  cases h : markFrom c ms.data.toList with
  | true =>
    obtain ⟨a, b, c', d⟩ := hm c h
    unfold srt
    rw [if_neg a, if_neg b, if_neg c', if_neg d, if_pos h]
    rfl
  | false =>
    unfold srt
    rw [h]
    repeat' split
    all_goals first | rfl | simp_all
theorem blank_srt (c : Int) : c = 32 ↔ srt c = 1 := by
  unfold srt
  by_cases h : c = 32
  · rw [if_pos h]; exact ⟨fun _ => rfl, fun _ => h⟩
  · rw [if_neg h]
    refine ⟨fun e => absurd e h, fun e => ?_⟩
    revert e
    repeat' split
    all_goals intro e; exact absurd e (by decide)
theorem word_same (s : ByteArray) : metewandref13_Word.f s = some (wordB s) := by
  unfold wordB read_word.f metewandref13_Word.f
  repeat' split
  all_goals first | rfl | skip
  all_goals
    simp_all
theorem name_tail (s : ByteArray) (hs : s.size < 9223372036854775807) (d : Nat) : ∀ (k pos : Nat), 0 < pos → pos + d = s.size → d < k → metewandref13_Name.l0 k s (pos : Int) = some (nameFrom pos (s.data.toList.drop pos)) := by
  induction d with
  | zero =>
    intro k pos h0 hp hk
    obtain ⟨k, rfl⟩ : ∃ m, k = m + 1 := ⟨k - 1, by omega⟩
    simp only [metewandref13_Name.l0]
    rw [if_neg (by omega), List.drop_eq_nil_of_le (show s.data.toList.length ≤ pos by have : s.data.toList.length = s.size := rfl; omega)]
    rfl
  | succ d ih =>
    intro k pos h0 hp hk
    obtain ⟨k, rfl⟩ : ∃ m, k = m + 1 := ⟨k - 1, by omega⟩
    have hlt : pos < s.size := by omega
    simp only [metewandref13_Name.l0]
    rw [if_pos (by omega), if_pos (by omega), bt_nat s pos hlt, wrap_nat pos (by omega), ih k (pos + 1) (by omega) (by omega) (by omega), nameFrom_drop s pos hlt, small_srt, digit_srt]
    simp only [Option.bind_some]
    unfold nchk
    rw [decide_eq_true h0, Bool.and_true]
    cases (srt ((s[pos]'hlt).toNat : Int) == 2) <;> cases (srt ((s[pos]'hlt).toNat : Int) == 4) <;> rfl
theorem name_same (s : ByteArray) (hs : s.size < 9223372036854775807) (k : Nat) (hk : s.size + 2 ≤ k) : metewandref13_Name.f k s = some (nameB s) := by
  obtain ⟨k, rfl⟩ : ∃ m, k = m + 1 := ⟨k - 1, by omega⟩
  unfold metewandref13_Name.f nameB
  by_cases h1 : s.size = 0
  · rw [if_pos (by omega), decide_eq_false (show ¬ 0 < s.size by omega)]
    simp [metewandref13_Name.j0]
  · rw [if_neg (by omega), decide_eq_true (show 0 < s.size by omega), Bool.true_and]
    by_cases h2 : s.size ≤ 12
    · rw [if_neg (by omega), if_pos (by omega), decide_eq_true h2, Bool.true_and]
      have hlt : 0 < s.size := by omega
      have hb := bt_nat s 0 hlt
      rw [show ((0 : Nat) : Int) = 0 from rfl] at hb
      rw [hb, small_srt, word_same]
      simp only [Option.bind_some]
      have hd := nameFrom_drop s 0 hlt
      rw [List.drop_zero] at hd
      rw [hd]
      unfold nchk
      simp only [Nat.lt_irrefl, decide_false, Bool.and_false, Bool.or_false]
      cases h3 : (srt ((s[0]'hlt).toNat : Int) == 2) with
      | false => simp [metewandref13_Name.j0]
      | true =>
        cases h4 : wordB s with
        | true => simp [metewandref13_Name.j0]
        | false =>
          simp only [metewandref13_Name.j0]
          rw [if_pos trivial, if_neg (by decide)]
          obtain ⟨k, rfl⟩ : ∃ m, k = m + 1 := ⟨k - 1, by omega⟩
          rw [show (0 : Int) = ((0 : Nat) : Int) from rfl]
          simp only [metewandref13_Name.l0]
          rw [if_pos (by omega), if_pos (by omega), bt_nat s 0 hlt, small_srt, h3]
          simp only [Option.bind_some]
          rw [if_pos trivial, wrap_nat 0 (by omega), name_tail s hs (s.size - 1) k 1 (by omega) (by omega) (by omega)]
          rfl
    · rw [if_pos (by omega), decide_eq_false h2]
      simp [metewandref13_Name.j0]
theorem unit_tail (s : ByteArray) (hs : s.size < 9223372036854775807) (d : Nat) : ∀ (k pos : Nat), pos + d = s.size → d < k → metewandref13_unit.l0 k s (pos : Int) = some ((s.data.toList.drop pos).all uchk) := by
  induction d with
  | zero =>
    intro k pos hp hk
    obtain ⟨k, rfl⟩ : ∃ m, k = m + 1 := ⟨k - 1, by omega⟩
    simp only [metewandref13_unit.l0]
    rw [if_neg (by omega), List.drop_eq_nil_of_le (show s.data.toList.length ≤ pos by have : s.data.toList.length = s.size := rfl; omega)]
    rfl
  | succ d ih =>
    intro k pos hp hk
    obtain ⟨k, rfl⟩ : ∃ m, k = m + 1 := ⟨k - 1, by omega⟩
    have hlt : pos < s.size := by omega
    have hl : pos < s.data.toList.length := hlt
    simp only [metewandref13_unit.l0]
    rw [if_pos (by omega), if_pos (by omega), bt_nat s pos hlt, wrap_nat pos (by omega), ih k (pos + 1) (by omega) (by omega), List.drop_eq_getElem_cons hl, List.all_cons]
    have e : s.data.toList[pos] = s[pos] := rfl
    rw [e]
    unfold uchk
    by_cases h1 : ((s[pos]'hlt).toNat : Int) < 32
    · rw [if_pos h1, decide_eq_false (show ¬ 32 ≤ (s[pos]'hlt).toNat by omega)]; rfl
    · rw [if_neg h1, decide_eq_true (show 32 ≤ (s[pos]'hlt).toNat by omega)]
      by_cases h2 : ((s[pos]'hlt).toNat : Int) > 126
      · rw [if_pos h2, decide_eq_false (show ¬ (s[pos]'hlt).toNat ≤ 126 by omega)]; rfl
      · rw [if_neg h2, decide_eq_true (show (s[pos]'hlt).toNat ≤ 126 by omega)]
        by_cases h3 : ((s[pos]'hlt).toNat : Int) = 123
        · rw [if_pos h3, decide_eq_false (show ¬ (s[pos]'hlt).toNat ≠ 123 by omega)]; rfl
        · rw [if_neg h3, decide_eq_true (show (s[pos]'hlt).toNat ≠ 123 by omega)]
          by_cases h4 : ((s[pos]'hlt).toNat : Int) = 125
          · rw [if_pos h4, decide_eq_false (show ¬ (s[pos]'hlt).toNat ≠ 125 by omega)]; rfl
          · rw [if_neg h4, decide_eq_true (show (s[pos]'hlt).toNat ≠ 125 by omega)]; rfl
theorem unit_same (s : ByteArray) (hs : s.size < 9223372036854775807) (k : Nat) (hk : s.size + 2 ≤ k) : metewandref13_unit.f k s = some (unitB s) := by
  obtain ⟨k, rfl⟩ : ∃ m, k = m + 1 := ⟨k - 1, by omega⟩
  unfold metewandref13_unit.f unitB
  by_cases h1 : s.size = 0
  · rw [if_pos (by omega), decide_eq_false (show ¬ 1 ≤ s.size by omega)]
    simp [metewandref13_unit.j0]
  · rw [if_neg (by omega), decide_eq_true (show 1 ≤ s.size by omega), Bool.true_and]
    by_cases h2 : s.size ≤ 20
    · rw [decide_eq_true h2, decide_eq_false (by omega)]
      simp only [metewandref13_unit.j0]
      rw [if_neg (by decide), show (0 : Int) = ((0 : Nat) : Int) from rfl, unit_tail s hs s.size k 0 (by omega) (by omega), List.drop_zero, Bool.true_and]
    · rw [decide_eq_false h2, decide_eq_true (by omega)]
      simp [metewandref13_unit.j0]
theorem run_step {ks : List Int} {s : ByteArray} {pos : Nat} (h : pos < s.size) (hk : ks.contains (srt (s[pos]'h).toNat) = true) : runLen ks (bytesAt s pos) = 1 + runLen ks (bytesAt s (pos + 1)) := by
  unfold bytesAt runLen
  rw [List.drop_eq_getElem_cons (show pos < s.data.toList.length from h), List.takeWhile_cons]
  have : okC ks (s.data.toList[pos]'(show pos < s.data.toList.length from h)) = true := hk
  rw [if_pos this, List.length_cons]
  omega
theorem run_stop {ks : List Int} {s : ByteArray} {pos : Nat} (h : pos < s.size) (hk : ks.contains (srt (s[pos]'h).toNat) = false) : runLen ks (bytesAt s pos) = 0 := by
  unfold bytesAt runLen
  rw [List.drop_eq_getElem_cons (show pos < s.data.toList.length from h), List.takeWhile_cons]
  have : ¬ okC ks (s.data.toList[pos]'(show pos < s.data.toList.length from h)) = true := by rw [show okC ks (s.data.toList[pos]'(show pos < s.data.toList.length from h)) = false from hk]; decide
  rw [if_neg this]; rfl
theorem run_over {ks : List Int} {s : ByteArray} {pos : Nat} (h : s.size ≤ pos) : runLen ks (bytesAt s pos) = 0 := by
  unfold bytesAt runLen
  rw [List.drop_eq_nil_of_le (show s.data.toList.length ≤ pos from h)]; rfl
abbrev RefTok := Int × ByteArray × Int × Int × Bool
theorem token_l0 (s : ByteArray) (hs : s.size < 9223372036854775807) (a K n : Nat) (V : Option RefTok) (hj : ∀ k, K ≤ k → metewandref13_token.j1 k s (a : Int) (n : Int) = V) (d : Nat) :
    ∀ (k pos : Nat), pos + d = s.size → pos + runLen [2, 3, 4] (bytesAt s pos) = n → K + d + 1 ≤ k → metewandref13_token.l0 k s (a : Int) (pos : Int) = V := by
  induction d with
  | zero =>
    intro k pos hp hn hk
    obtain ⟨k, rfl⟩ : ∃ m, k = m + 1 := ⟨k - 1, by omega⟩
    rw [run_over (by omega)] at hn
    simp only [metewandref13_token.l0]
    rw [if_neg (by omega), show pos = n by omega, hj k (by omega)]
  | succ d ih =>
    intro k pos hp hn hk
    obtain ⟨k, rfl⟩ : ∃ m, k = m + 1 := ⟨k - 1, by omega⟩
    have hlt : pos < s.size := by omega
    simp only [metewandref13_token.l0]
    rw [if_pos (by omega), if_pos (by omega), bt_nat s pos hlt, wrap_nat pos (by omega), small_srt, digit_srt, large_srt]
    simp only [Option.bind_some]
    cases hc : ([2, 3, 4] : List Int).contains (srt (s[pos]'hlt).toNat) with
    | true =>
      have hr := ih k (pos + 1) (by omega) (by rw [run_step hlt hc] at hn; omega) (by omega)
      rw [hr]
      have : (srt (s[pos]'hlt).toNat == 2) = true ∨ (srt (s[pos]'hlt).toNat == 4) = true ∨ (srt (s[pos]'hlt).toNat == 3) = true := by
        simpa [or_comm, or_left_comm] using hc
      rcases this with h | h | h <;> simp [h]
    | false =>
      have : (srt (s[pos]'hlt).toNat == 2) = false ∧ (srt (s[pos]'hlt).toNat == 3) = false ∧ (srt (s[pos]'hlt).toNat == 4) = false := by
        simpa using hc
      rw [this.1, this.2.1, this.2.2]
      rw [run_stop hlt hc] at hn
      simp only [Bool.false_eq_true, if_false]
      rw [show pos = n by omega, hj k (by omega)]
theorem token_j1 (s : ByteArray) (hs : s.size < 9223372036854775807) (a n : Nat) (ha : a ≤ n) (hn : n ≤ s.size) (k : Nat) (hk : s.size + 3 ≤ k) :
    metewandref13_token.j1 k s (a : Int) (n : Int) = (some (if wordB (s.extract a n) then 1 else 0, s.extract a n, (a : Int), (n : Int), wordB (s.extract a n) || nameB (s.extract a n)) : Option RefTok) := by
  obtain ⟨k, rfl⟩ : ∃ m, k = m + 1 := ⟨k - 1, by omega⟩
  simp only [metewandref13_token.j1]
  have hx : (s.extract a n).size ≤ s.size := by rw [ByteArray.size_extract]; omega
  rw [if_pos (by omega), if_pos (by omega), if_pos (by omega), Int.toNat_natCast, Int.toNat_natCast, word_same, name_same (s.extract a n) (by omega) k (by omega)]
  simp only [Option.bind_some]
  cases wordB (s.extract a n) <;> simp
theorem bt_first (s : ByteArray) (a n : Nat) (h : a < n) (hn : n ≤ s.size) : bt (s.extract a n) 0 = ((s[a]'(by omega)).toNat : Int) := by
  have hsz : (s.extract a n).size = n - a := by rw [ByteArray.size_extract]; omega
  have := bt_nat (s.extract a n) 0 (by omega)
  rw [show ((0 : Nat) : Int) = 0 from rfl] at this
  rw [this]
  congr 1
  rw [ByteArray.getElem_extract]
  rfl
def numV (s : ByteArray) (a n : Nat) : Option RefTok :=
  some (2, s.extract a n, a, n, if (s.extract a n).size ≤ 400 then (if bt (s.extract a n) 0 = 48 then ((s.extract a n).size : Int) == 1 else true) else false)
theorem num_at (s : ByteArray) (a n : Nat) (ha : a < n) (hn : n ≤ s.size) :
    (if 0 ≤ (a : Int) then (if (a : Int) ≤ (n : Int) then (if (n : Int) ≤ (s.size : Int) then (if ((s.extract (a : Int).toNat (n : Int).toNat).size : Int) ≤ 400 then (if 0 < ((s.extract (a : Int).toNat (n : Int).toNat).size : Int) then (if (bt (s.extract (a : Int).toNat (n : Int).toNat) 0) = 48 then (some ((2 : Int), s.extract (a : Int).toNat (n : Int).toNat, (a : Int), (n : Int), (((s.extract (a : Int).toNat (n : Int).toNat).size : Int) == 1))) else (some (2, s.extract (a : Int).toNat (n : Int).toNat, (a : Int), (n : Int), true))) else (none)) else (some (2, s.extract (a : Int).toNat (n : Int).toNat, (a : Int), (n : Int), false))) else (none)) else (none)) else (none)) = numV s a n := by
  have hsz : (s.extract a n).size = n - a := by rw [ByteArray.size_extract]; omega
  rw [if_pos (by omega), if_pos (by omega), if_pos (by omega), Int.toNat_natCast, Int.toNat_natCast]
  unfold numV
  by_cases h1 : (s.extract a n).size ≤ 400
  · rw [if_pos (by omega), if_pos (by omega), if_pos h1]
    by_cases h2 : bt (s.extract a n) 0 = 48
    · rw [if_pos h2, if_pos h2]
    · rw [if_neg h2, if_neg h2]
  · rw [if_neg (by omega), if_neg h1]
theorem token_l1 (s : ByteArray) (hs : s.size < 9223372036854775807) (a n : Nat) (d : Nat) :
    ∀ (k pos : Nat), a < pos → pos + d = s.size → pos + runLen [4] (bytesAt s pos) = n → d + 1 ≤ k → metewandref13_token.l1 k s (a : Int) (pos : Int) = numV s a n := by
  induction d with
  | zero =>
    intro k pos ha hp hn hk
    obtain ⟨k, rfl⟩ : ∃ m, k = m + 1 := ⟨k - 1, by omega⟩
    rw [run_over (by omega)] at hn
    simp only [metewandref13_token.l1]
    rw [if_neg (by omega), show pos = n by omega]
    exact num_at s a n (by omega) (by omega)
  | succ d ih =>
    intro k pos ha hp hn hk
    obtain ⟨k, rfl⟩ : ∃ m, k = m + 1 := ⟨k - 1, by omega⟩
    have hlt : pos < s.size := by omega
    simp only [metewandref13_token.l1]
    rw [if_pos (by omega), if_pos (by omega), bt_nat s pos hlt, wrap_nat pos (by omega), digit_srt]
    simp only [Option.bind_some]
    cases hc : (srt (s[pos]'hlt).toNat == 4) with
    | true =>
      rw [if_pos rfl]
      have hc' : ([4] : List Int).contains (srt (s[pos]'hlt).toNat) = true := by simpa using hc
      exact ih k (pos + 1) (by omega) (by omega) (by rw [run_step hlt hc'] at hn; omega) (by omega)
    | false =>
      have hc' : ([4] : List Int).contains (srt (s[pos]'hlt).toNat) = false := by simpa using hc
      rw [run_stop hlt hc'] at hn
      rw [if_neg (by decide), show pos = n by omega]
      exact num_at s a n (by omega) (by omega)
theorem brk_step {s : ByteArray} {pos : Nat} (h : pos < s.size) (hk : (s[pos]'h).toNat ≠ 125) : brk (bytesAt s pos) = 1 + brk (bytesAt s (pos + 1)) := by
  unfold bytesAt brk
  rw [List.drop_eq_getElem_cons (show pos < s.data.toList.length from h), List.takeWhile_cons]
  have : (s.data.toList[pos]'(show pos < s.data.toList.length from h) != 125) = true := by
    rw [bne_iff_ne]; intro e; apply hk; show (s.data.toList[pos]'(show pos < s.data.toList.length from h)).toNat = 125; rw [e]; rfl
  rw [if_pos this, List.length_cons]
  omega
theorem brk_stop {s : ByteArray} {pos : Nat} (h : pos < s.size) (hk : (s[pos]'h).toNat = 125) : brk (bytesAt s pos) = 0 := by
  unfold bytesAt brk
  rw [List.drop_eq_getElem_cons (show pos < s.data.toList.length from h), List.takeWhile_cons]
  have h1 : s[pos]'h = 125 := UInt8.toNat_inj.1 hk
  have : ¬ (s.data.toList[pos]'(show pos < s.data.toList.length from h) != 125) = true := by
    rw [show s.data.toList[pos]'(show pos < s.data.toList.length from h) = 125 from h1]; decide
  rw [if_neg this]; rfl
theorem brk_over {s : ByteArray} {pos : Nat} (h : s.size ≤ pos) : brk (bytesAt s pos) = 0 := by
  unfold bytesAt brk
  rw [List.drop_eq_nil_of_le (show s.data.toList.length ≤ pos from h)]; rfl
def noTok : Option RefTok := some (0, (⟨#[]⟩ : ByteArray), 0, 0, false)
def unitV (s : ByteArray) (a n : Nat) : Option RefTok :=
  if n = s.size then noTok else if unitB (s.extract (a + 1) n) = true then some (3, s.extract (a + 1) n, a, (n + 1 : Nat), true) else noTok
theorem unit_at (s : ByteArray) (hs : s.size < 9223372036854775807) (a n : Nat) (ha : a + 1 ≤ n) (hn : n ≤ s.size) (k : Nat) (hk : s.size + 2 ≤ k) :
    (if (n : Int) = (s.size : Int) then (some ((0 : Int), (⟨#[]⟩ : ByteArray), (0 : Int), (0 : Int), false)) else (if 0 ≤ (wrap64 ((a : Int) + 1)) then (if (wrap64 ((a : Int) + 1)) ≤ (n : Int) then (if (n : Int) ≤ (s.size : Int) then ((metewandref13_unit.f k (s.extract ((wrap64 ((a : Int) + 1)) : Int).toNat (n : Int).toNat)).bind fun t411 => (if t411 = true then (some ((3 : Int), s.extract ((wrap64 ((a : Int) + 1)) : Int).toNat (n : Int).toNat, (a : Int), wrap64 ((n : Int) + 1), true)) else (some (0, (⟨#[]⟩ : ByteArray), 0, 0, false)))) else (none)) else (none)) else (none))) = unitV s a n := by
  unfold unitV
  by_cases h1 : n = s.size
  · rw [if_pos (by omega), if_pos h1]; rfl
  · rw [if_neg (by omega), if_neg h1, wrap_nat a (by omega), if_pos (by omega), if_pos (by omega), if_pos (by omega), Int.toNat_natCast, Int.toNat_natCast, wrap_nat n (by omega)]
    have hx : (s.extract (a + 1) n).size ≤ s.size := by rw [ByteArray.size_extract]; omega
    rw [unit_same (s.extract (a + 1) n) (by omega) k (by omega)]
    simp only [Option.bind_some]
    by_cases h2 : unitB (s.extract (a + 1) n) = true
    · rw [if_pos h2, if_pos h2]
    · rw [if_neg h2, if_neg h2]; rfl
theorem token_l2 (s : ByteArray) (hs : s.size < 9223372036854775807) (a n : Nat) (d : Nat) :
    ∀ (k pos : Nat), a < pos → pos + d = s.size → pos + brk (bytesAt s pos) = n → s.size + d + 3 ≤ k → metewandref13_token.l2 k s (a : Int) (pos : Int) = unitV s a n := by
  induction d with
  | zero =>
    intro k pos ha hp hn hk
    obtain ⟨k, rfl⟩ : ∃ m, k = m + 1 := ⟨k - 1, by omega⟩
    rw [brk_over (by omega)] at hn
    simp only [metewandref13_token.l2]
    rw [if_neg (by omega), show pos = n by omega]
    exact unit_at s hs a n (by omega) (by omega) k (by omega)
  | succ d ih =>
    intro k pos ha hp hn hk
    obtain ⟨k, rfl⟩ : ∃ m, k = m + 1 := ⟨k - 1, by omega⟩
    have hlt : pos < s.size := by omega
    simp only [metewandref13_token.l2]
    rw [if_pos (by omega), if_pos (by omega), bt_nat s pos hlt]
    by_cases hc : (s[pos]'hlt).toNat = 125
    · rw [if_pos (by omega)]
      rw [brk_stop hlt hc] at hn
      rw [show pos = n by omega]
      exact unit_at s hs a n (by omega) (by omega) k (by omega)
    · rw [if_neg (by omega), wrap_nat pos (by omega)]
      exact ih k (pos + 1) (by omega) (by omega) (by rw [brk_step hlt hc] at hn; omega) (by omega)
theorem srt_brace {c : Int} (h : c = 123) : srt c = 0 := by subst h; rfl
theorem mark_one (s : ByteArray) (b : Nat) (h : b < s.size) : s.extract b (b + 1) = ⟨#[s[b]'h]⟩ := by
  apply ByteArray.ext
  apply Array.toList_inj.1
  rw [Lib.extract_data, List.drop_eq_getElem_cons (show b < s.data.toList.length from h), Nat.add_sub_cancel_left]
  rfl
theorem token_same (s : ByteArray) (hs : s.size < 9223372036854775807) (b : Nat) (hb : b < s.size) (k : Nat) (hk : 2 * s.size + 20 ≤ k) :
    ((tokAt s b).1.f0 ≠ -1 ∧ metewandref13_token.f k s (b : Int) = some ((tokAt s b).1.f0, (tokAt s b).1.f1, (tokAt s b).1.f2, ((tokAt s b).2 : Int), true)) ∨
    ((tokAt s b).1.f0 = -1 ∧ ∃ r, metewandref13_token.f k s (b : Int) = some r ∧ r.2.2.2.2 = false) := by
  have ff : ¬ (false = true) := by decide
  unfold metewandref13_token.f
  rw [if_pos (by omega), if_pos (by omega), bt_nat s b hb, wrap_nat b (by omega), small_srt, digit_srt]
  simp only [Option.bind_some]
  unfold tokAt
  rw [dif_pos hb]
  by_cases h2 : srt (s[b]'hb).toNat = 2
  · have e2 : (srt ((s[b]'hb).toNat : Int) == 2) = true := by rw [h2]; rfl
    have hr := run_step (ks := [2, 3, 4]) hb (by rw [h2]; rfl)
    have hle := run_le [2, 3, 4] s b (by omega)
    have hn : b + 1 + runLen [2, 3, 4] (bytesAt s (b + 1)) = endName s b := by unfold endName; omega
    have hn1 : b < endName s b := by unfold endName; omega
    have hn2 : endName s b ≤ s.size := hle
    rw [if_pos h2, e2, if_pos rfl, token_l0 s hs b (s.size + 3) (endName s b) _ (fun k hk => token_j1 s hs b (endName s b) (by omega) hn2 k hk) (s.size - (b + 1)) k (b + 1) (by omega) hn (by omega)]
    unfold nameKind
    simp only []
    generalize s.extract b (endName s b) = x
    cases hw : wordB x with
    | true => left; simp
    | false =>
      cases hnb : nameB x with
      | true => left; simp
      | false => right; exact ⟨by simp, _, rfl, rfl⟩
  · have e2 : (srt ((s[b]'hb).toNat : Int) == 2) = false := beq_not h2
    rw [if_neg h2, e2, if_neg ff]
    by_cases h4 : srt (s[b]'hb).toNat = 4
    · have e4 : (srt ((s[b]'hb).toNat : Int) == 4) = true := by rw [h4]; rfl
      have hr := run_step (ks := [4]) hb (by rw [h4]; rfl)
      have hle := run_le [4] s b (by omega)
      have hn : b + 1 + runLen [4] (bytesAt s (b + 1)) = endNum s b := by unfold endNum; omega
      have hn1 : b < endNum s b := by unfold endNum; omega
      have hn2 : endNum s b ≤ s.size := hle
      rw [if_pos h4, e4, if_pos rfl, token_l1 s hs b (endNum s b) (s.size - (b + 1)) k (b + 1) (by omega) (by omega) hn (by omega)]
      unfold numV numKind
      rw [bt_first s b (endNum s b) hn1 hn2]
      simp only []
      generalize s.extract b (endNum s b) = x
      generalize (s[b]'hb).toNat = c
      by_cases h5 : x.size ≤ 400
      · rw [if_pos h5]
        by_cases h6 : c = 48
        · rw [if_pos (show (c : Int) = 48 by omega)]
          by_cases h7 : x.size = 1
          · left
            rw [if_pos ⟨.inr h7, h5⟩, h7]
            exact ⟨by decide, rfl⟩
          · right
            rw [if_neg (show ¬ ((c ≠ 48 ∨ x.size = 1) ∧ x.size ≤ 400) by omega)]
            exact ⟨rfl, _, rfl, beq_not (by omega)⟩
        · left
          rw [if_neg (show ¬ (c : Int) = 48 by omega), if_pos ⟨.inl h6, h5⟩]
          exact ⟨by decide, rfl⟩
      · right
        rw [if_neg h5, if_neg (show ¬ ((c ≠ 48 ∨ x.size = 1) ∧ x.size ≤ 400) by omega)]
        exact ⟨rfl, _, rfl, rfl⟩
    · have e4 : (srt ((s[b]'hb).toNat : Int) == 4) = false := beq_not h4
      rw [if_neg h4, e4, if_neg ff]
      by_cases h123 : (s[b]'hb).toNat = 123
      · have h0 : srt (s[b]'hb).toNat = 0 := srt_brace (by omega)
        rw [if_pos (show ((s[b]'hb).toNat : Int) = 123 by omega), token_l2 s hs b (closeAt s b) (s.size - (b + 1)) k (b + 1) (by omega) (by omega) rfl (by omega), if_neg (show ¬ srt (s[b]'hb).toNat = 5 by omega)]
        unfold unitV
        have hbl : (bytesAt s (b + 1)).length = s.size - (b + 1) := bytesAt_length s (b + 1)
        have hbk : brk (bytesAt s (b + 1)) ≤ (bytesAt s (b + 1)).length := (List.takeWhile_sublist _).length_le
        have hc : closeAt s b ≤ s.size := by unfold closeAt; omega
        by_cases h7 : closeAt s b = s.size
        · right
          rw [if_pos h7, if_neg (by intro h; omega)]
          exact ⟨rfl, _, rfl, rfl⟩
        · rw [if_neg h7]
          by_cases h8 : unitB (s.extract (b + 1) (closeAt s b)) = true
          · left
            rw [if_pos h8, if_pos ⟨h123, by omega, h8⟩]
            exact ⟨show (3 : Int) ≠ -1 by decide, rfl⟩
          · right
            rw [if_neg h8, if_neg (by intro h; exact h8 h.2.2)]
            exact ⟨rfl, _, rfl, rfl⟩
      · rw [if_neg (show ¬ ((s[b]'hb).toNat : Int) = 123 by omega), sign_srt _ k (by omega)]
        simp only [Option.bind_some]
        by_cases h5 : srt (s[b]'hb).toNat = 5
        · left
          have e5 : (srt ((s[b]'hb).toNat : Int) == 5) = true := by rw [h5]; rfl
          rw [if_pos h5, e5, if_pos rfl, if_pos (by omega), if_pos (by omega), Int.toNat_natCast, Int.toNat_natCast, mark_one s b hb]
          exact ⟨show (4 : Int) ≠ -1 by decide, rfl⟩
        · right
          have e5 : (srt ((s[b]'hb).toNat : Int) == 5) = false := beq_not h5
          rw [if_neg h5, e5, if_neg ff, if_neg (by intro h; exact h123 h.1)]
          exact ⟨rfl, _, rfl, rfl⟩
theorem scan_skip (s : ByteArray) (hs : s.size < 9223372036854775807) (acc : List S47) (j : Nat) : ∀ (k pos : Nat), pos ≤ s.size → runLen [1] (bytesAt s pos) = j → metewandref13_scan.l0 (k + j) s acc (pos : Int) = metewandref13_scan.l0 k s acc ((pos + j : Nat) : Int) := by
  induction j with
  | zero => intro k pos _ _; rfl
  | succ j ih =>
    intro k pos hp hj
    have hlt : pos < s.size := by
      rcases Nat.lt_or_ge pos s.size with h | h
      · exact h
      · rw [run_over h] at hj; omega
    have hc : ([1] : List Int).contains (srt (s[pos]'hlt).toNat) = true := by
      cases h : ([1] : List Int).contains (srt (s[pos]'hlt).toNat) with
      | true => rfl
      | false => rw [run_stop hlt h] at hj; omega
    have h1 : srt (s[pos]'hlt).toNat = 1 := by simpa using hc
    rw [run_step hlt hc] at hj
    rw [show k + (j + 1) = (k + j) + 1 by omega]
    simp only [metewandref13_scan.l0]
    rw [if_pos (show (pos : Int) < (s.size : Int) by omega), if_pos (show 0 ≤ (pos : Int) by omega), bt_nat s pos hlt, if_pos ((blank_srt _).2 h1), wrap_nat pos (by omega), ih k (pos + 1) (by omega) (by omega)]
    rw [show pos + 1 + j = pos + (j + 1) by omega]
theorem not_blank (s : ByteArray) (a : Nat) (h : skipB s a < s.size) : srt (s[skipB s a]'h).toNat ≠ 1 := by
  intro h1
  have key : ∀ (d a : Nat) (h : skipB s a < s.size), a + d = s.size → srt (s[skipB s a]'h).toNat ≠ 1 := by
    intro d
    induction d with
    | zero => intro a h hd; exact absurd h (by unfold skipB; omega)
    | succ d ih =>
      intro a h hd
      have hlt : a < s.size := by omega
      cases hc : ([1] : List Int).contains (srt (s[a]'hlt).toNat) with
      | true =>
        have hr := run_step hlt hc
        have e : skipB s a = skipB s (a + 1) := by unfold skipB; omega
        have := ih (a + 1) (by rw [← e]; exact h) (by omega)
        intro h1
        apply this
        simpa only [← e] using h1
      | false =>
        have hr := run_stop hlt hc
        have e : skipB s a = a := by unfold skipB; omega
        intro h1
        have : ([1] : List Int).contains (srt (s[a]'hlt).toNat) = true := by
          have h2 : srt (s[a]'hlt).toNat = 1 := by simpa only [e] using h1
          rw [h2]; rfl
        rw [hc] at this
        exact absurd this (by decide)
  rcases Nat.lt_or_ge a s.size with ha | ha
  · exact key (s.size - a) a h (by omega) h1
  · exact absurd h (by unfold skipB; omega)
theorem tokAt_place (s : ByteArray) (b : Nat) : (tokAt s b).1.f2 = b := by
  unfold tokAt
  repeat' split
  all_goals rfl
theorem scan_same (s : ByteArray) (hs : s.size ≤ 2000) (n : Nat) : ∀ (a k : Nat) (acc : List S47), a ≤ s.size → s.size - a < n → acc.length + n ≤ 4398046511104 → 3 * s.size + 30 + n ≤ k + a →
    ((badOf (toksF n s a) = none ∧ metewandref13_scan.l0 k s acc (a : Int) = some (acc ++ toksF n s a, -1)) ∨
     (∃ t l, badOf (toksF n s a) = some t ∧ 0 ≤ t.f2 ∧ metewandref13_scan.l0 k s acc (a : Int) = some (l, t.f2))) := by
  induction n with
  | zero => intro a k acc ha h; omega
  | succ n ih =>
    intro a k acc ha hn hacc hk
    have hle : skipB s a ≤ s.size := run_le [1] s a ha
    have hsk : a ≤ skipB s a := by unfold skipB; omega
    obtain ⟨k2, hk2⟩ : ∃ k2, k = (k2 + 1) + (skipB s a - a) := ⟨k - 1 - (skipB s a - a), by omega⟩
    have hskip := scan_skip s (by omega) acc (skipB s a - a) (k2 + 1) a ha (by unfold skipB; omega)
    rw [hk2, hskip, show a + (skipB s a - a) = skipB s a by omega]
    unfold toksF
    by_cases hb : skipB s a < s.size
    · rw [if_pos hb]
      simp only [metewandref13_scan.l0]
      rw [if_pos (show (skipB s a : Int) < (s.size : Int) by omega), if_pos (show 0 ≤ (skipB s a : Int) by omega), bt_nat s _ hb, if_neg (fun e => not_blank s a hb ((blank_srt _).1 e))]
      have hpl := tokAt_place s (skipB s a)
      have hmore := tokAt_more s (skipB s a) hb
      rcases token_same s (by omega) (skipB s a) hb k2 (by omega) with ⟨h1, h2⟩ | ⟨h1, r, h2, h3⟩
      · obtain ⟨hm1, hm2⟩ := hmore h1
        rw [h2, if_neg h1]
        simp only [Option.bind_some]
        rw [if_pos (show acc.length < 4398046511104 by omega)]
        generalize tokAt s (skipB s a) = p at *
        obtain ⟨⟨p0, p1, p2⟩, p3⟩ := p
        simp only at h1 hm1 hm2 ⊢
        have e1 : ((⟨p0, p1, p2⟩ : S47).f0 == -1) = false := beq_not h1
        rcases ih p3 k2 (acc ++ [⟨p0, p1, p2⟩]) hm2 (by omega) (by rw [List.length_append, List.length_singleton]; omega) (by omega) with ⟨g1, g2⟩ | ⟨t, l, g1, g2, g3⟩
        · left
          refine ⟨?_, ?_⟩
          · unfold badOf at g1 ⊢
            rw [List.find?_cons, e1]
            exact g1
          · rw [if_pos trivial, g2, List.append_assoc]
            rfl
        · right
          refine ⟨t, l, ?_, g2, ?_⟩
          · unfold badOf at g1 ⊢
            rw [List.find?_cons, e1]
            exact g1
          · rw [if_pos trivial, g3]
      · right
        rw [h2, if_pos h1]
        simp only [Option.bind_some]
        refine ⟨(tokAt s (skipB s a)).1, acc, ?_, by rw [hpl]; omega, ?_⟩
        · unfold badOf
          rw [List.find?_cons, show ((tokAt s (skipB s a)).1.f0 == -1) = true by rw [h1]; rfl]
        · rw [h3, if_neg (by decide), hpl]
    · left
      rw [if_neg hb]
      simp only [metewandref13_scan.l0]
      rw [if_neg (show ¬ (skipB s a : Int) < (s.size : Int) by omega), List.append_nil]
      exact ⟨rfl, rfl⟩
theorem Tokens_same (s : ByteArray) : (s.size ≤ 2000 → (badOf (allToks s) = none ∧ metewandref13_Tokens.f 20000 s = some (allToks s, 0, 0)) ∨ (∃ t, badOf (allToks s) = some t ∧ metewandref13_Tokens.f 20000 s = some ([], t.f2, 1))) ∧
    (2000 < s.size → metewandref13_Tokens.f 20000 s = some ([], 0, 13)) := by
  refine ⟨fun hs => ?_, fun hs => ?_⟩
  · unfold metewandref13_Tokens.f metewandref13_scan.f
    rw [if_neg (show ¬ (s.size : Int) > 2000 by omega)]
    rcases scan_same s hs (s.size + 1) 0 20000 [] (by omega) (by omega) (by simp; omega) (by omega) with ⟨h1, h2⟩ | ⟨t, l, h1, h2, h3⟩
    · left
      refine ⟨h1, ?_⟩
      rw [show (0 : Int) = ((0 : Nat) : Int) from rfl, h2]
      rfl
    · right
      refine ⟨t, h1, ?_⟩
      rw [show metewandref13_scan.l0 20000 s [] 0 = some (l, t.f2) from h3]
      simp only [Option.bind_some]
      rw [if_pos h2]
  · unfold metewandref13_Tokens.f
    rw [if_pos (show (s.size : Int) > 2000 by omega)]
end Go.Proofs.YtjaobihcdkjmbaaGreatDoor
end
