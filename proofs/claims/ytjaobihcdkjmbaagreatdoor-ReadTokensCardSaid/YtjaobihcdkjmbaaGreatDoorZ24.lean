/- The law ReadTokens answers true, without a panic, for every list of arguments: any text, any two numbers, any byte, any row of numbers. There is no condition beyond the statement's own. -/
import Derived.RegionTactic
import Derived.BigRegion
import Derived.Deep.QuietTactic
import Derived.BigQuiet
import Derived.Test.YtjaobihcdkjmbaaGreatDoorTie
import Derived.Test.YtjaobihcdkjmbaaGreatDoorCards
import Derived.ProofKit
import Derived.LaidMore
import Derived.OpenShut
import Derived.Stop.Joined
import Derived.Stop.LaidErr
import Derived.Lib.LaidTab
import Derived.Carry
import Derived.JoinedOf
import Derived.Test.YtjaobihcdkjmbaaGreatDoorZ17
import Derived.Test.YtjaobihcdkjmbaaGreatDoorZ22
import Derived.Test.YtjaobihcdkjmbaaGreatDoorZ23
section
namespace Go.Proofs.YtjaobihcdkjmbaaGreatDoor
open Go.RowKit Go.Proofs.YtjaobihcdkjmbaaGreatDoorW.PrintWords Go.Proofs.YtjaobihcdkjmbaaGreatDoor.PReadTokens
set_option maxRecDepth 100000 in
set_option maxHeartbeats 4000000 in
theorem open_ref (num : S28) (name : ByteArray) (size : Int) (v : Value) (w : World) (hv : Vw w ⟨1, num, name, size, []⟩ v) :
    Calls Tryz.prog 46 #[v] w fun e w' => e = .returned (.string name) ∧ Below w.heap.size w w' := by
  obtain ⟨A, c, rfl, hc1, hc2⟩ := hv.out
  unfold exV at hv ⊢
  simp only at hv ⊢
  clear hv hc2
  go_enter Tryz.func46, Tryz.ntmps46
  go_wp2
  go_ret
  exact ⟨rfl, (Below.refl _ w).alloc (Nat.le_refl _) _⟩
set_option maxRecDepth 100000 in
set_option maxHeartbeats 4000000 in
theorem open_lit (num : S28) (name : ByteArray) (size : Int) (v : Value) (w : World) (hv : Vw w ⟨0, num, name, size, []⟩ v) (h1 : num.f0.size ≤ 1000000) (h2 : num.f1.size ≤ 1000000) (h3 : name.size ≤ 1000000) :
    Calls Tryz.prog 46 #[v] w fun e w' => e = .returned (.string (litR num name)) ∧ Below w.heap.size w w' := by
  obtain ⟨A, c, rfl, hc1, hc2⟩ := hv.out
  unfold exV at hv ⊢
  simp only at hv ⊢
  clear hv hc2
  have HL : Hid (∀ a b, (num.f1.toList == [49]) = a → (name.toList == []) = b → litR num name = (if b then (if a then num.f0 else num.f0 ++ ⟨#[124]⟩ ++ num.f1) else (if a then num.f0 else num.f0 ++ ⟨#[124]⟩ ++ num.f1) ++ ⟨#[123]⟩ ++ name ++ ⟨#[125]⟩)) := Lib.hid (fun a b ha hb => by unfold litR litN; rw [ha, hb])
  generalize litR num name = r at *
  have a0 : ∀ w, (Op.stringOp .add num.f0 ⟨#[124]⟩).run Tryz.prog w = .ok (.string (num.f0 ++ ⟨#[124]⟩)) w := fun w => run_string_add_sum w _ _ (by simp only [ByteArray.size_mk', List.size_toArray, List.length_cons, List.length_nil]; omega)
  have a1 : ∀ w, (Op.stringOp .add (num.f0 ++ ⟨#[124]⟩) num.f1).run Tryz.prog w = .ok (.string (num.f0 ++ ⟨#[124]⟩ ++ num.f1)) w := fun w => run_string_add_sum w _ _ (by simp only [ByteArray.size_append', ByteArray.size_mk', List.size_toArray, List.length_cons, List.length_nil]; omega)
  have hadd : ∀ (n : ByteArray) (w : World), n.size ≤ 2000001 → (Op.stringOp .add n ⟨#[123]⟩).run Tryz.prog w = .ok (.string (n ++ ⟨#[123]⟩)) w ∧ (Op.stringOp .add (n ++ ⟨#[123]⟩) name).run Tryz.prog w = .ok (.string (n ++ ⟨#[123]⟩ ++ name)) w ∧
      (Op.stringOp .add (n ++ ⟨#[123]⟩ ++ name) ⟨#[125]⟩).run Tryz.prog w = .ok (.string (n ++ ⟨#[123]⟩ ++ name ++ ⟨#[125]⟩)) w := fun n w hn => by
    refine ⟨run_string_add_sum w _ _ ?_, run_string_add_sum w _ _ ?_, run_string_add_sum w _ _ ?_⟩ <;> simp only [ByteArray.size_append', ByteArray.size_mk', List.size_toArray, List.length_cons, List.length_nil] <;> omega
  have HA := Lib.hid hadd
  clear hadd
  have BW := (Below.refl _ w).alloc (Nat.le_refl _) (.cells #[.int .i64 0, .string num.f0, .string num.f1, .string name, .int .i64 size, .slice A 0 c] 31)
  cases ha : (num.f1.toList == [49]) with
  | true =>
    cases hb : (name.toList == []) with
    | true =>
      obtain rfl := HL.out _ _ ha hb
      go_enter Tryz.func46, Tryz.ntmps46
      go_wp2
      go_ret
      exact ⟨rfl, BW⟩
    | false =>
      have hr := HL.out _ _ ha hb
      simp only [if_true, Bool.false_eq_true, if_false] at hr
      have hb2 : name.toList.isEmpty = false := by rw [← hb]; cases name.toList <;> rfl
      have b0 := fun w => (HA.out num.f0 w (by omega)).1
      have b1 := fun w => (HA.out num.f0 w (by omega)).2.1
      have b2 := fun w => (HA.out num.f0 w (by omega)).2.2
      have HR := Lib.hid hr
      clear hr a0 a1
      go_enter Tryz.func46, Tryz.ntmps46
      go_wp2
      go_ret
      exact ⟨by rw [HR.out]; rfl, BW⟩
  | false =>
    cases hb : (name.toList == []) with
    | true =>
      have hr := HL.out _ _ ha hb
      simp only [if_true, Bool.false_eq_true, if_false] at hr
      have HR := Lib.hid hr
      clear hr
      go_enter Tryz.func46, Tryz.ntmps46
      go_wp2
      go_ret
      exact ⟨by rw [HR.out]; rfl, BW⟩
    | false =>
      have hr := HL.out _ _ ha hb
      simp only [if_true, Bool.false_eq_true, if_false] at hr
      have hb2 : name.toList.isEmpty = false := by rw [← hb]; cases name.toList <;> rfl
      have hsz : (num.f0 ++ ⟨#[124]⟩ ++ num.f1).size ≤ 2000001 := by simp only [ByteArray.size_append', ByteArray.size_mk', List.size_toArray, List.length_cons, List.length_nil]; omega
      have b0 := fun w => (HA.out _ w hsz).1
      have b1 := fun w => (HA.out _ w hsz).2.1
      have b2 := fun w => (HA.out _ w hsz).2.2
      have HR := Lib.hid hr
      clear hr hsz
      go_enter Tryz.func46, Tryz.ntmps46
      go_wp2
      go_ret
      exact ⟨by rw [HR.out]; rfl, BW⟩
set_option maxRecDepth 100000 in
set_option maxHeartbeats 4000000 in
theorem open_list (num : S28) (name : ByteArray) (size : Int) (l : List S31) (v : Value) (w : World) (hv : Vw w ⟨8, num, name, size, l⟩ v) (hs : (joinR (l.map fun y => rtext y 0)).size ≤ 1000000)
    (hr : ∀ A c w, k31.C w A l.length l → Calls Tryz.prog 85 #[.slice A l.length c] w fun e w' => e = .returned (.string (joinR (l.map fun y => rtext y 0))) ∧ Below w.heap.size w w') :
    Calls Tryz.prog 46 #[v] w fun e w' => e = .returned (.string (⟨#[91]⟩ ++ joinR (l.map fun y => rtext y 0) ++ ⟨#[93]⟩)) ∧ Below w.heap.size w w' := by
  obtain ⟨A, c, rfl, hc1, hc2⟩ := hv.out
  unfold exV at hv ⊢
  simp only at hv hc2 ⊢
  have BW := (Below.refl _ w).alloc (Nat.le_refl _) (.cells #[.int .i64 8, .string num.f0, .string num.f1, .string name, .int .i64 size, .slice A l.length c] 31)
  have HR := Lib.hid (hr A c _ (Kd.C_below hc2 BW))
  clear hv hc2 hr
  generalize joinR (l.map fun y => rtext y 0) = t at *
  have a0 : ∀ w, (Op.stringOp .add ⟨#[91]⟩ t).run Tryz.prog w = .ok (.string (⟨#[91]⟩ ++ t)) w := fun w => run_string_add_sum w _ _ (by simp only [ByteArray.size_mk', List.size_toArray, List.length_cons, List.length_nil]; omega)
  have a1 : ∀ w, (Op.stringOp .add (⟨#[91]⟩ ++ t) ⟨#[93]⟩).run Tryz.prog w = .ok (.string (⟨#[91]⟩ ++ t ++ ⟨#[93]⟩)) w := fun w => run_string_add_sum w _ _ (by simp only [ByteArray.size_append', ByteArray.size_mk', List.size_toArray, List.length_cons, List.length_nil]; omega)
  go_enter Tryz.func46, Tryz.ntmps46
  go_wp2_with fail
  refine HR.out.mono ?_
  rintro e w1 ⟨rfl, hb1⟩
  go_wp2
  go_ret
  exact ⟨rfl, BW.trans (hb1.mono BW.size)⟩
set_option maxRecDepth 100000 in
set_option maxHeartbeats 4000000 in
theorem open_call (num : S28) (name : ByteArray) (size : Int) (l : List S31) (v : Value) (w : World) (hv : Vw w ⟨14, num, name, size, l⟩ v) (hs : (joinR (l.map fun y => rtext y 0)).size ≤ 1000000) (hn : name.size ≤ 1000000)
    (hr : ∀ A c w, k31.C w A l.length l → Calls Tryz.prog 85 #[.slice A l.length c] w fun e w' => e = .returned (.string (joinR (l.map fun y => rtext y 0))) ∧ Below w.heap.size w w') :
    Calls Tryz.prog 46 #[v] w fun e w' => e = .returned (.string (name ++ ⟨#[40]⟩ ++ joinR (l.map fun y => rtext y 0) ++ ⟨#[41]⟩)) ∧ Below w.heap.size w w' := by
  obtain ⟨A, c, rfl, hc1, hc2⟩ := hv.out
  unfold exV at hv ⊢
  simp only at hv hc2 ⊢
  have BW := (Below.refl _ w).alloc (Nat.le_refl _) (.cells #[.int .i64 14, .string num.f0, .string num.f1, .string name, .int .i64 size, .slice A l.length c] 31)
  have hbl := blk_new w (.cells #[.int .i64 14, .string num.f0, .string num.f1, .string name, .int .i64 size, .slice A l.length c] 31)
  obtain ⟨⟨p0, p1, p2, p3, p4, p5⟩, _, xl⟩ := cells6 hbl
  have HR := Lib.hid (fun w h => hr A c w h)
  have HC := Lib.hid hc2
  clear hv hc2 hr
  generalize joinR (l.map fun y => rtext y 0) = t at *
  have a0 : ∀ w, (Op.stringOp .add name ⟨#[40]⟩).run Tryz.prog w = .ok (.string (name ++ ⟨#[40]⟩)) w := fun w => run_string_add_sum w _ _ (by simp only [ByteArray.size_mk', List.size_toArray, List.length_cons, List.length_nil]; omega)
  have a1 : ∀ w, (Op.stringOp .add (name ++ ⟨#[40]⟩) t).run Tryz.prog w = .ok (.string (name ++ ⟨#[40]⟩ ++ t)) w := fun w => run_string_add_sum w _ _ (by simp only [ByteArray.size_append', ByteArray.size_mk', List.size_toArray, List.length_cons, List.length_nil]; omega)
  have a2 : ∀ w, (Op.stringOp .add (name ++ ⟨#[40]⟩ ++ t) ⟨#[41]⟩).run Tryz.prog w = .ok (.string (name ++ ⟨#[40]⟩ ++ t ++ ⟨#[41]⟩)) w := fun w => run_string_add_sum w _ _ (by simp only [ByteArray.size_append', ByteArray.size_mk', List.size_toArray, List.length_cons, List.length_nil]; omega)
  go_enter Tryz.func46, Tryz.ntmps46
  go_wp2_with fail
  generalize hX : w.alloc (.cells #[.int .i64 14, .string num.f0, .string num.f1, .string name, .int .i64 size, .slice A l.length c] 31) = X at *
  have BW := BW.drew
  have K : X.drew.cell? ⟨w.heap.size, 3, none⟩ = some (.string name) ∧ X.drew.cell? ⟨w.heap.size, 5, none⟩ = some (.slice A l.length c) := ⟨p3, p5⟩
  have C := Kd.C_below HC.out BW
  clear hbl p0 p1 p2 p3 p4 p5 xl
  go_region_held3 (fun w' : World => w'.cell? ⟨w.heap.size, 3, none⟩ = some (.string name) ∧ w'.cell? ⟨w.heap.size, 5, none⟩ = some (.slice A l.length c)) (first | exact K) (first
    | (go_at_call 85; refine (HR.out _ C).mono ?_; rintro e wq ⟨rfl, hq⟩; have K := (⟨pw_cell_below hq K.1, pw_cell_below hq K.2⟩ : wq.cell? ⟨w.heap.size, 3, none⟩ = some (.string name) ∧ wq.cell? ⟨w.heap.size, 5, none⟩ = some (.slice A l.length c)); have BW := BW.trans (hq.mono BW.size)))
  all_goals
    go_wp2
    go_ret
    exact ⟨rfl, BW⟩
def refKind (op size : Int) (k : Nat) : Prop :=
  ((op = 0 ∨ op = 1) ∧ k = 0) ∨ (op = 2 ∧ k = 1) ∨ ((op = 3 ∨ op = 4 ∨ op = 5 ∨ op = 6 ∨ op = 9 ∨ op = 13) ∧ k = 2) ∨ ((op = 7 ∨ op = 10 ∨ op = 11) ∧ k = 1 ∧ -9 ≤ size ∧ size ≤ 99) ∨ (op = 12 ∧ k = 4) ∨ (op = 8 ∨ op = 14)
inductive RefOk : S31 → Prop
  | mk (op : Int) (num : S28) (name : ByteArray) (size : Int) (l : List S31) (hk : refKind op size l.length) (h0 : num.f0.size ≤ 1000000) (h1 : num.f1.size ≤ 1000000) (h2 : name.size ≤ 1000000) (h3 : l.length ≤ 1000000)
      (hj : ∀ j, j ≤ l.length → (joinR ((l.take j).map fun y => rtext y 0)).size ≤ 1000000) (hs : ∀ y ∈ l, (openR y).size ≤ 999000) (hl : ∀ y ∈ l, RefOk y) : RefOk ⟨op, num, name, size, l⟩
theorem open_all (x : S31) (h : RefOk x) : ∀ v w, Vw w x v → Calls Tryz.prog 46 #[v] w fun e w' => e = .returned (.string (openR x)) ∧ Below w.heap.size w w' := by
  induction h with
  | mk op num name size l hk h0 h1 h2 h3 hj hs hl ih =>
    intro v w hv
    have ht : ∀ y ∈ l, ∀ want v w, Vw w y v → Calls Tryz.prog 83 #[v, .int .i64 want] w fun e w' => e = .returned (.string (rtext y want)) ∧ Below w.heap.size w w' :=
      fun y hy want v w hv => rtext_of y (by have := hs y hy; omega) (ih y hy) want v w hv
    have hts : ∀ y ∈ l, ∀ want, (rtext y want).size ≤ 1000000 := fun y hy want => by have := hs y hy; have := rtext_size y want; omega
    have hjf : (joinR (l.map fun y => rtext y 0)).size ≤ 1000000 := by have := hj l.length (Nat.le_refl _); rwa [List.take_length] at this
    have htx : ∀ A c w, k31.C w A l.length l → Calls Tryz.prog 85 #[.slice A l.length c] w fun e w' => e = .returned (.string (joinR (l.map fun y => rtext y 0))) ∧ Below w.heap.size w w' :=
      fun A c w hc => rtexts_of l h3 hj (fun j h => hts _ (List.getElem_mem h) 0) (fun j h v w hv => ht _ (List.getElem_mem h) 0 v w hv) A c w hc
    rcases hk with ⟨rfl | rfl, hk⟩ | ⟨rfl, hk⟩ | ⟨rfl | rfl | rfl | rfl | rfl | rfl, hk⟩ | ⟨rfl | rfl | rfl, hk, hz0, hz1⟩ | ⟨rfl, hk⟩ | (rfl | rfl)
    · match l, hk with
      | [], _ => exact open_lit num name size v w hv h0 h1 h2
    · match l, hk with
      | [], _ => exact open_ref num name size v w hv
    · match l, hk with
      | [a], _ => exact open_op2 num name size a v w hv h2 (fun v w => ht a (by simp) _ v w) (hts a (by simp) _)
    · match l, hk with
      | [a, b], _ => exact open_op3 num name size a b v w hv h2 (fun v w => ht a (by simp) _ v w) (hts a (by simp) _) (fun v w => ht b (by simp) _ v w) (hts b (by simp) _)
    · match l, hk with
      | [a, b], _ => exact open_op4 num name size a b v w hv h2 (fun v w => ht a (by simp) _ v w) (hts a (by simp) _) (fun v w => ht b (by simp) _ v w) (hts b (by simp) _)
    · match l, hk with
      | [a, b], _ => exact open_op5 num name size a b v w hv h2 (fun v w => ht a (by simp) _ v w) (hts a (by simp) _) (fun v w => ht b (by simp) _ v w) (hts b (by simp) _)
    · match l, hk with
      | [a, b], _ => exact open_op6 num name size a b v w hv h2 (fun v w => ht a (by simp) _ v w) (hts a (by simp) _) (fun v w => ht b (by simp) _ v w) (hts b (by simp) _)
    · match l, hk with
      | [a, b], _ => exact open_op9 num name size a b v w hv h2 (fun v w => ht a (by simp) _ v w) (hts a (by simp) _) (fun v w => ht b (by simp) _ v w) (hts b (by simp) _)
    · match l, hk with
      | [a, b], _ => exact open_op13 num name size a b v w hv h2 (fun v w => ht a (by simp) _ v w) (hts a (by simp) _) (fun v w => ht b (by simp) _ v w) (hts b (by simp) _)
    · match l, hk with
      | [a], _ => exact open_op7 num name size a v w hv h2 hz0 hz1 (fun v w => ht a (by simp) _ v w) (hts a (by simp) _)
    · match l, hk with
      | [a], _ => exact open_op10 num name size a v w hv h2 hz0 hz1 (fun v w => ht a (by simp) _ v w) (hts a (by simp) _)
    · match l, hk with
      | [a], _ => exact open_op11 num name size a v w hv h2 hz0 hz1 (fun v w => ht a (by simp) _ v w) (hts a (by simp) _)
    · match l, hk with
      | [a, b, c, d], _ => exact open_op12 num name size a b c d v w hv h2 (fun v w => ht a (by simp) _ v w) (hts a (by simp) _) (fun v w => ht b (by simp) _ v w) (hts b (by simp) _) (fun v w => ht c (by simp) _ v w) (hts c (by simp) _) (fun v w => ht d (by simp) _ v w) (hts d (by simp) _)
    · have e : openR ⟨8, num, name, size, l⟩ = ⟨#[91]⟩ ++ joinR (l.map fun y => rtext y 0) ++ ⟨#[93]⟩ := by
        rw [← argsR_map]; rfl
      rw [e]
      exact open_list num name size l v w hv hjf htx
    · have e : openR ⟨14, num, name, size, l⟩ = name ++ ⟨#[40]⟩ ++ joinR (l.map fun y => rtext y 0) ++ ⟨#[41]⟩ := by
        rw [← argsR_map]; rfl
      rw [e]
      exact open_call num name size l v w hv hjf h2 htx
set_option maxRecDepth 100000 in
set_option maxHeartbeats 1000000 in
theorem ExprText_calls (x : S31) (h : RefOk x) (v : Value) (w : World) (hv : Vw w x v) : Calls Tryz.prog 12 #[v] w fun e w' => e = .returned (.string (openR x)) ∧ Below w.heap.size w w' := by
  obtain ⟨A, c, rfl, hc1, hc2⟩ := hv.out
  have HO := Lib.hid (open_all x h)
  have HV := Lib.hid hv
  have BW := (Below.refl _ w).alloc (Nat.le_refl _) (.cells #[.int .i64 x.f0, .string x.f1.f0, .string x.f1.f1, .string x.f2, .int .i64 x.f3, .slice A x.f4.length c] 31)
  generalize openR x = r at *
  unfold exV at *
  clear h hv hc2
  go_enter Tryz.func12, Tryz.ntmps12
  go_wp2_with fail
  refine (HO.out _ _ (HV.out.below BW)).mono ?_
  rintro e w1 ⟨rfl, hb1⟩
  go_wp2
  go_ret
  exact ⟨rfl, BW.trans (hb1.mono BW.size)⟩
end Go.Proofs.YtjaobihcdkjmbaaGreatDoor
end
section
namespace Go.Proofs.YtjaobihcdkjmbaaGreatDoor
open Go.RowKit Go.Proofs.YtjaobihcdkjmbaaGreatDoorW.PrintWords Go.Proofs.YtjaobihcdkjmbaaGreatDoor.PReadTokens
def longR : Nat → Nat
  | 0 => 20
  | n + 1 => 100 + 4 * longR n
theorem nameL_size {s : ByteArray} (h : s ∈ nameL) : s.size ≤ 2 := by
  simp only [nameL, List.mem_cons, List.not_mem_nil, or_false] at h
  rcases h with rfl | rfl | rfl | rfl | rfl <;> decide
theorem callL_size {s : ByteArray} (h : s ∈ callL) : s.size ≤ 2 := by
  simp only [callL, List.mem_cons, List.not_mem_nil, or_false] at h
  rcases h with rfl | rfl | rfl <;> decide
theorem unitL_size {s : ByteArray} (h : s ∈ unitL) : s.size ≤ 6 := by
  simp only [unitL, List.mem_cons, List.not_mem_nil, or_false] at h
  rcases h with rfl | rfl | rfl | rfl | rfl <;> decide
theorem ratS_size {p q : Int} (h0 : 0 ≤ p) (h1 : p ≤ 20) (h2 : 1 ≤ q) (h3 : q ≤ 6) : (ratS p q).f0.size ≤ 2 ∧ (ratS p q).f1.size ≤ 2 := by
  have hg : 0 ≤ (Int.gcd p q : Int) := Int.natCast_nonneg _
  have a := Int.ediv_le_self (Int.gcd p q : Int) h0
  have b := Int.ediv_le_self (Int.gcd p q : Int) (show 0 ≤ q by omega)
  have a0 := Int.ediv_nonneg h0 hg
  have b0 := Int.ediv_nonneg (show 0 ≤ q by omega) hg
  exact ⟨(dec_some _ a0 (by omega)).2, (dec_some _ b0 (by omega)).2⟩
theorem joinR_size (B : Nat) : ∀ l : List ByteArray, (∀ t ∈ l, t.size ≤ B) → (joinR l).size ≤ l.length * (B + 2)
  | [], _ => by show 0 ≤ _; omega
  | t :: ts, h => by
    have key : ∀ (ts : List ByteArray) (a : ByteArray), (∀ t ∈ ts, t.size ≤ B) → (ts.foldl (fun a u => a ++ ⟨#[44, 32]⟩ ++ u) a).size ≤ a.size + ts.length * (B + 2) := by
      intro ts
      induction ts with
      | nil => intro a _; simp
      | cons u ts ih =>
        intro a h
        have h1 := ih (a ++ ⟨#[44, 32]⟩ ++ u) (fun t ht => h t (List.mem_cons_of_mem _ ht))
        have h2 := h u List.mem_cons_self
        rw [ByteArray.size_append, ByteArray.size_append] at h1
        have h3 : (⟨#[44, 32]⟩ : ByteArray).size = 2 := rfl
        rw [List.foldl_cons, List.length_cons, Nat.add_mul]
        omega
    have h1 := key ts t (fun u hu => h u (List.mem_cons_of_mem _ hu))
    have h2 := h t List.mem_cons_self
    rw [List.length_cons, Nat.add_mul]
    show (ts.foldl (fun a u => a ++ ⟨#[44, 32]⟩ ++ u) t).size ≤ _
    omega
theorem litR_size (num : S28) (name : ByteArray) : (litR num name).size ≤ num.f0.size + num.f1.size + name.size + 3 := by
  have h1 : (⟨#[124]⟩ : ByteArray).size = 1 := rfl
  have h2 : (⟨#[123]⟩ : ByteArray).size = 1 := rfl
  have h3 : (⟨#[125]⟩ : ByteArray).size = 1 := rfl
  unfold litR litN
  repeat' split
  all_goals
    (try simp only [ByteArray.size_append, h1, h2, h3])
    omega
theorem made_text (n : Nat) (x : S31) (h : Made n x) : (openR x).size ≤ longR n := by
  induction h with
  | ref n s h =>
    have := nameL_size h
    have e : openR ⟨1, z28, s, 0, []⟩ = s := rfl
    rw [e]
    cases n <;> simp only [longR] <;> omega
  | lit n p q u h0 h1 h2 h3 hu =>
    have a := unitL_size hu
    have b := ratS_size h0 h1 h2 h3
    have c := litR_size (ratS p q) u
    have e : openR ⟨0, ratS p q, u, 0, []⟩ = litR (ratS p q) u := rfl
    rw [e]
    cases n <;> simp only [longR] <;> omega
  | node n op name size l hk hl ih =>
    have hr : ∀ y ∈ l, ∀ want, (rtext y want).size ≤ longR n + 2 := fun y hy want => Nat.le_trans (rtext_size y want) (by have := ih y hy; omega)
    have hj : (joinR (l.map fun y => rtext y 0)).size ≤ l.length * (longR n + 2 + 2) := by
      have := joinR_size (longR n + 2) (l.map fun y => rtext y 0) (fun t ht => by
        obtain ⟨y, hy, rfl⟩ := List.mem_map.1 ht
        exact hr y hy 0)
      rwa [List.length_map] at this
    simp only [longR]
    rcases hk with ⟨rfl, rfl, rfl, hk⟩ | ⟨ho, rfl, rfl, hk⟩ | ⟨rfl, rfl, ⟨hs0, hs1⟩, hk⟩ | ⟨rfl, rfl, rfl, hk0, hk1⟩ | ⟨ho, hn, ⟨hs0, hs1⟩, hk⟩ | ⟨rfl, rfl, rfl, hk⟩ | ⟨rfl, hn, rfl, hk⟩ | ⟨rfl, hn, rfl, hk⟩
    · match l, hk with
      | [a], _ =>
        have ha := hr a (by simp) 2
        have e : openR ⟨2, z28, eB, 0, [a]⟩ = ⟨#[45]⟩ ++ rtext a 2 := rfl
        rw [e]
        simp only [ByteArray.size_append', ByteArray.size_mk', List.size_toArray, List.length_cons, List.length_nil]
        omega
    · match l, hk with
      | [a, b], _ =>
        have ha := fun z => hr a (by simp) z
        have hb := fun z => hr b (by simp) z
        have e : ∃ u v s : ByteArray, ∃ i j, openR ⟨op, z28, eB, 0, [a, b]⟩ = rtext a i ++ s ++ rtext b j ++ u ∧ s.size ≤ 3 ∧ u.size ≤ 3 := by
          have hz : ∀ t : ByteArray, t ++ ⟨#[]⟩ = t := fun t => by apply ByteArray.ext; simp [ByteArray.data_append]
          rcases ho with rfl | rfl | rfl | rfl | rfl
          · exact ⟨⟨#[]⟩, ⟨#[]⟩, ⟨#[32, 43, 32]⟩, 1, 2, by rw [hz]; rfl, by decide, by decide⟩
          · exact ⟨⟨#[]⟩, ⟨#[]⟩, ⟨#[32, 45, 32]⟩, 1, 2, by rw [hz]; rfl, by decide, by decide⟩
          · exact ⟨⟨#[]⟩, ⟨#[]⟩, ⟨#[32, 42, 32]⟩, 2, 3, by rw [hz]; rfl, by decide, by decide⟩
          · exact ⟨⟨#[]⟩, ⟨#[]⟩, ⟨#[32, 47, 32]⟩, 2, 3, by rw [hz]; rfl, by decide, by decide⟩
          · exact ⟨⟨#[93]⟩, ⟨#[]⟩, ⟨#[91]⟩, 4, 0, rfl, by decide, by decide⟩
        obtain ⟨u, _, s, i, j, e, hs, hu⟩ := e
        have := ha i
        have := hb j
        rw [e]
        simp only [ByteArray.size_append']
        omega
    · match l, hk with
      | [a], _ =>
        have ha := hr a (by simp) 4
        have hz := ofR_size size hs0 (by omega)
        have e : openR ⟨7, z28, eB, size, [a]⟩ = rtext a 4 ++ ⟨#[94]⟩ ++ ofR size := rfl
        rw [e]
        simp only [ByteArray.size_append', ByteArray.size_mk', List.size_toArray, List.length_cons, List.length_nil]
        omega
    · have e : openR ⟨8, z28, eB, 0, l⟩ = ⟨#[91]⟩ ++ joinR (l.map fun y => rtext y 0) ++ ⟨#[93]⟩ := by
        rw [← argsR_map]; rfl
      have := Nat.mul_le_mul_right (longR n + 2 + 2) (show l.length ≤ 4 by omega)
      rw [e]
      simp only [ByteArray.size_append', ByteArray.size_mk', List.size_toArray, List.length_cons, List.length_nil]
      omega
    · have hn := nameL_size hn
      have hz := ofR_size size (by omega) (by omega)
      match l, hk with
      | [a], _ =>
        have ha := hr a (by simp) 0
        have e : ∃ u : ByteArray, u.size = 4 ∧ openR ⟨op, z28, name, size, [a]⟩ = u ++ name ++ ⟨#[32, 60, 32]⟩ ++ (ofR size) ++ ⟨#[32, 46, 32]⟩ ++ rtext a 0 := by
          rcases ho with rfl | rfl
          · exact ⟨_, rfl, rfl⟩
          · exact ⟨_, rfl, rfl⟩
        obtain ⟨u, hu, e⟩ := e
        rw [e]
        simp only [ByteArray.size_append', ByteArray.size_mk', List.size_toArray, List.length_cons, List.length_nil]
        omega
    · match l, hk with
      | [a, b, c, d], _ =>
        have ha := hr a (by simp) 1
        have hb := hr b (by simp) 1
        have hc := hr c (by simp) 0
        have hd := hr d (by simp) 0
        have e : openR ⟨12, z28, eB, 0, [a, b, c, d]⟩ = ⟨#[105, 102, 32]⟩ ++ rtext a 1 ++ ⟨#[32, 60, 32]⟩ ++ rtext b 1 ++ ⟨#[32, 116, 104, 101, 110, 32]⟩ ++ rtext c 0 ++ ⟨#[32, 101, 108, 115, 101, 32]⟩ ++ rtext d 0 := rfl
        rw [e]
        simp only [ByteArray.size_append', ByteArray.size_mk', List.size_toArray, List.length_cons, List.length_nil]
        omega
    · have hn := nameL_size hn
      match l, hk with
      | [a, b], _ =>
        have ha := hr a (by simp) 0
        have hb := hr b (by simp) 0
        have e : openR ⟨13, z28, name, 0, [a, b]⟩ = ⟨#[108, 101, 116, 32]⟩ ++ name ++ ⟨#[32, 61, 32]⟩ ++ rtext a 0 ++ ⟨#[32, 105, 110, 32]⟩ ++ rtext b 0 := rfl
        rw [e]
        simp only [ByteArray.size_append', ByteArray.size_mk', List.size_toArray, List.length_cons, List.length_nil]
        omega
    · have hn := callL_size hn
      have e : openR ⟨14, z28, name, 0, l⟩ = name ++ ⟨#[40]⟩ ++ joinR (l.map fun y => rtext y 0) ++ ⟨#[41]⟩ := by
        rw [← argsR_map]; rfl
      have := Nat.mul_le_mul_right (longR n + 2 + 2) (show l.length ≤ 4 by omega)
      rw [e]
      simp only [ByteArray.size_append', ByteArray.size_mk', List.size_toArray, List.length_cons, List.length_nil]
      omega
theorem nodeOk_kind {op : Int} {name : ByteArray} {size : Int} {k : Nat} (h : nodeOk op name size k) : refKind op size k ∧ name.size ≤ 2 := by
  rcases h with ⟨rfl, rfl, rfl, hk⟩ | ⟨ho, rfl, rfl, hk⟩ | ⟨rfl, rfl, ⟨hs0, hs1⟩, hk⟩ | ⟨rfl, rfl, rfl, hk0, hk1⟩ | ⟨ho, hn, ⟨hs0, hs1⟩, hk⟩ | ⟨rfl, rfl, rfl, hk⟩ | ⟨rfl, hn, rfl, hk⟩ | ⟨rfl, hn, rfl, hk⟩
  · exact ⟨.inr (.inl ⟨rfl, hk⟩), by decide⟩
  · exact ⟨.inr (.inr (.inl ⟨by omega, hk⟩)), by decide⟩
  · exact ⟨.inr (.inr (.inr (.inl ⟨by omega, hk, by omega, by omega⟩))), by decide⟩
  · exact ⟨.inr (.inr (.inr (.inr (.inr (.inl rfl))))), by decide⟩
  · exact ⟨.inr (.inr (.inr (.inl ⟨by omega, hk, by omega, by omega⟩))), nameL_size hn⟩
  · exact ⟨.inr (.inr (.inr (.inr (.inl ⟨rfl, hk⟩)))), by decide⟩
  · exact ⟨.inr (.inr (.inl ⟨by omega, hk⟩)), nameL_size hn⟩
  · exact ⟨.inr (.inr (.inr (.inr (.inr (.inr rfl))))), callL_size hn⟩
theorem made_ref (n : Nat) (x : S31) (h : Made n x) (hn : longR n ≤ 200000) : RefOk x := by
  induction h with
  | ref n s h => exact .mk 1 z28 s 0 [] (.inl ⟨.inr rfl, rfl⟩) (by decide) (by decide) (by have := nameL_size h; omega) (by decide) (fun j hj => by rw [List.take_nil]; decide) (fun y hy => by cases hy) (fun y hy => by cases hy)
  | lit n p q u h0 h1 h2 h3 hu =>
    have b := ratS_size h0 h1 h2 h3
    exact .mk 0 (ratS p q) u 0 [] (.inl ⟨.inl rfl, rfl⟩) (by omega) (by omega) (by have := unitL_size hu; omega) (by decide) (fun j hj => by rw [List.take_nil]; decide) (fun y hy => by cases hy) (fun y hy => by cases hy)
  | node n op name size l hk hl ih =>
    have hln : longR n ≤ 200000 := by simp only [longR] at hn; omega
    have h4 := nodeOk_le hk
    refine .mk op z28 name size l (nodeOk_kind hk).1 (by decide) (by decide) (by have := (nodeOk_kind hk).2; omega) (by omega) (fun j hj => ?_) (fun y hy => ?_) (fun y hy => ih y hy hln)
    · have := joinR_size (longR n + 2) ((l.take j).map fun y => rtext y 0) (fun t ht => by
        obtain ⟨y, hy, rfl⟩ := List.mem_map.1 ht
        exact Nat.le_trans (rtext_size y 0) (by have := made_text n y (hl y (List.mem_of_mem_take hy)); omega))
      rw [List.length_map, List.length_take] at this
      simp only [longR] at hn
      have h5 := Nat.mul_le_mul_right (longR n + 2 + 2) (show min j l.length ≤ 4 by omega)
      omega
    · have := made_text n y (hl y hy)
      omega
end Go.Proofs.YtjaobihcdkjmbaaGreatDoor
end
section
namespace Go.Proofs.YtjaobihcdkjmbaaGreatDoor
open Go.RowKit Go.Proofs.YtjaobihcdkjmbaaGreatDoorW.PrintWords Go.Proofs.YtjaobihcdkjmbaaGreatDoor.PReadTokens
theorem one_byte (b : Int) (w : World) : (convert 84 9 (.slice (some ⟨w.heap.size, 0, none⟩) 1 1)).run Tryz.prog (w.alloc (.cells #[.int .u8 b] 5)) = .ok (.string (strOfNums [b])) (w.alloc (.cells #[.int .u8 b] 5)) := by
  refine Kd.C_string (xs := [b]) Tryz.underlying84 Tryz.underlying5 Tryz.underlying9 ?_
  obtain ⟨A, c, h1, h2, h3⟩ := OwnRow.reads (OwnRow.lit (R := (Kd.int .u8).K (w.alloc (.cells #[.int .u8 b] 5))) (e := 5) (ps := [b]) w 0 ((Reps.none _ _).snoc rfl rfl) (Nat.zero_le _) (by simp))
  injection h1 with h1
  subst h1
  exact h3
set_option maxRecDepth 100000 in
set_option maxHeartbeats 2000000 in
theorem Spoilt_empty (s : ByteArray) (a h b : Int) (hs : s.size = 0) (w : World) : Calls Tryz.prog 14 #[.string s, .int .i64 a, .int .i64 h, .int .u8 b] w fun e w' => (∃ t, e = .returned (.string t)) ∧ Below w.heap.size w w' := by
  have h0 : ((s.size : Int) == 0) = true := by rw [hs]; rfl
  have hk := one_byte b
  have BW := (Below.refl w.heap.size w).alloc (Nat.le_refl _) (.cells #[.int .u8 b] 5)
  clear hs
  go_enter Tryz.func14, Tryz.ntmps14
  go_wp2
  go_ret
  exact ⟨⟨_, rfl⟩, BW⟩
theorem one_byte_drew (b : Int) (w : World) : (convert 84 9 (.slice (some ⟨w.heap.size, 0, none⟩) 1 1)).run Tryz.prog (w.alloc (.cells #[.int .u8 b] 5)).drew = .ok (.string (strOfNums [b])) (w.alloc (.cells #[.int .u8 b] 5)).drew := one_byte b w.drew
set_option maxRecDepth 100000 in
set_option maxHeartbeats 2000000 in
theorem Spoilt_some (s : ByteArray) (a h b : Int) (hs : 0 < s.size) (hs1 : s.size ≤ 1000000) (w : World) : Calls Tryz.prog 14 #[.string s, .int .i64 a, .int .i64 h, .int .u8 b] w fun e w' => (∃ t, e = .returned (.string t)) ∧ Below w.heap.size w w' := by
  have h0 : ((s.size : Int) == 0) = false := beq_eq_false_iff_ne.2 (by omega)
  have hz1 : ((s.size : Int) = 0) = False := eq_false (by omega)
  have hk := one_byte_drew b
  have B0 := (Below.refl w.heap.size w).drew
  have B1 := ((Below.refl w.heap.size w).alloc (Nat.le_refl _) (.cells #[.int .u8 b] 5)).drew
  have hsz : (strOfNums [b]).size = 1 := rfl
  have tr : True := trivial
  go_enter Tryz.func14, Tryz.ntmps14
  go_upto_region 4 with (fail)
  have hx0 : -(s.size : Int) < a.tmod s.size := by have := Int.lt_tmod_of_pos a (show (0 : Int) < s.size by omega); omega
  have hx1 : a.tmod s.size < s.size := Int.tmod_lt_of_pos a (by omega)
  have hy0 : -3 < h.tmod 3 := by have := Int.lt_tmod_of_pos h (show (0 : Int) < 3 by omega); omega
  have hy1 : h.tmod 3 < 3 := Int.tmod_lt_of_pos h (by omega)
  generalize a.tmod s.size = x at *
  generalize h.tmod 3 = y at *
  clear hz1 h0
  have hy : y = -2 ∨ y = -1 ∨ y = 0 ∨ y = 1 ∨ y = 2 := by omega
  clear hy0 hy1
  by_cases hx : x < 0
  · have hd : decide (x < 0) = true := decide_eq_true hx
    go_upto_region 6 with (fail)
    have hi0 : 0 ≤ x + s.size := by omega
    have hi1 : x + s.size < s.size := by omega
    generalize x + (s.size : Int) = i at *
    clear hd hx hx0 hx1
    have q1 : (0 ≤ i) = True := eq_true hi0
    have q2 : (i ≤ (s.size : Int)) = True := eq_true (by omega)
    have q3 : IntKind.i64.wrap (i + 1) = i + 1 := by simp [IntKind.wrap, IntKind.bits, IntKind.signed]; omega
    have q4 : (0 ≤ i + 1) = True := eq_true (by omega)
    have q5 : (i + 1 ≤ (s.size : Int)) = True := eq_true (by omega)
    rcases hy with rfl | rfl | rfl | rfl | rfl
    all_goals
      go_wp2_with fail
      first | go_quiet (fail) | go_region
      go_wp2
      go_ret
      exact ⟨⟨_, rfl⟩, by first | exact B0 | exact B1 | exact pw_below_drewN (Below.refl _ _) _⟩
  · have hd : decide (x < 0) = false := decide_eq_false hx
    go_upto_region 6 with (fail)
    have hi0 : 0 ≤ x := by omega
    have hi1 : x < s.size := by omega
    clear hd hx hx0
    generalize x = i at *
    have q1 : (0 ≤ i) = True := eq_true hi0
    have q2 : (i ≤ (s.size : Int)) = True := eq_true (by omega)
    have q3 : IntKind.i64.wrap (i + 1) = i + 1 := by simp [IntKind.wrap, IntKind.bits, IntKind.signed]; omega
    have q4 : (0 ≤ i + 1) = True := eq_true (by omega)
    have q5 : (i + 1 ≤ (s.size : Int)) = True := eq_true (by omega)
    rcases hy with rfl | rfl | rfl | rfl | rfl
    all_goals
      go_wp2_with fail
      first | go_quiet (fail) | go_region
      go_wp2
      go_ret
      exact ⟨⟨_, rfl⟩, by first | exact B0 | exact B1 | exact pw_below_drewN (Below.refl _ _) _⟩
theorem Spoilt_calls (s : ByteArray) (a h b : Int) (hs1 : s.size ≤ 1000000) (w : World) : Calls Tryz.prog 14 #[.string s, .int .i64 a, .int .i64 h, .int .u8 b] w fun e w' => (∃ t, e = .returned (.string t)) ∧ Below w.heap.size w w' := by
  rcases Nat.eq_zero_or_pos s.size with h0 | h0
  · exact Spoilt_empty s a h b h0 w
  · exact Spoilt_some s a h b h0 hs1 w
end Go.Proofs.YtjaobihcdkjmbaaGreatDoor
end
section
namespace Go.Proofs.YtjaobihcdkjmbaaGreatDoor
open Go.RowKit Go.Proofs.YtjaobihcdkjmbaaGreatDoorW.PrintWords Go.Proofs.YtjaobihcdkjmbaaGreatDoor.PReadTokens
def resT (t : ByteArray) : List S47 × Int × Int :=
  if t.size ≤ 2000 then (match badOf (allToks t) with | none => (allToks t, 0, 0) | some u => ([], u.f2, 1)) else ([], 0, 13)
theorem rd_same (ts : List S47) (i : Int) : (!(((rd_T47 ts i).f0) == ((rd_T47 ts i).f0)) || (!((((rd_T47 ts i).f1).toList) == (((rd_T47 ts i).f1).toList)) || (!(((rd_T47 ts i).f2) == ((rd_T47 ts i).f2))))) = false := by
  simp
theorem eqToks_from (ts : List S47) (h : ts.length ≤ 9223372036854775807) : ∀ (d k i : Nat), i + d = ts.length → d < k → metewandkit_EqTokens.l0 k ts ts (i : Int) = some true := by
  intro d
  induction d with
  | zero =>
    intro k i hi hk
    obtain ⟨k, rfl⟩ : ∃ m, k = m + 1 := ⟨k - 1, by omega⟩
    simp only [metewandkit_EqTokens.l0]
    rw [if_neg (by omega)]
  | succ d ih =>
    intro k i hi hk
    obtain ⟨k, rfl⟩ : ∃ m, k = m + 1 := ⟨k - 1, by omega⟩
    have hw : wrap64 ((i : Int) + 1) = ((i + 1 : Nat) : Int) := by unfold wrap64; omega
    simp only [metewandkit_EqTokens.l0]
    rw [if_pos (by omega), if_pos (by omega), if_pos (by omega), rd_same, hw, ih k (i + 1) (by omega) (by omega)]
    rfl
theorem eqToks_self (ts : List S47) (h : ts.length ≤ 9223372036854775807) : metewandkit_EqTokens.f (ts.length + 1) ts ts = some true := by
  unfold metewandkit_EqTokens.f
  rw [if_pos rfl]
  exact eqToks_from ts h ts.length (ts.length + 1) 0 (by omega) (by omega)
theorem eqToks_calls (ts : List S47) (h : ts.length ≤ 9223372036854775807) (A0 : Option Addr) (c0 : Nat) (A1 : Option Addr) (c1 : Nat) (w : World) (h0 : Kd.C k47 w A0 ts.length ts) (hc0 : ts.length ≤ c0) (h1 : Kd.C k47 w A1 ts.length ts) (hc1 : ts.length ≤ c1) :
    Calls Tryz.prog 17 #[.slice A0 ts.length c0, .slice A1 ts.length c1] w fun e w' => e = .returned (.bool true) ∧ Below w.heap.size w w' :=
  (metewandkit_EqTokens.calls (ts.length + 1) A0 c0 ts A1 c1 ts true w h0 hc0 h1 hc1 (eqToks_self ts h)).mono fun e w' ⟨h2, h3⟩ => by
    obtain ⟨k, h3⟩ := h3.out
    subst h3
    exact ⟨h2, pw_below_drewN (Below.refl _ _) k⟩
def ToksPost (t : ByteArray) (w : World) (e : Ending) (w' : World) : Prop :=
  ∃ A c, e = .returned (.tuple #[.slice A (resT t).1.length c, .int .i64 (resT t).2.1, .int .i64 (resT t).2.2]) ∧ (resT t).1.length ≤ c ∧ (resT t).1.length ≤ 9223372036854775807 ∧ Kd.C k47 w' A (resT t).1.length (resT t).1 ∧ Below w.heap.size w w'
theorem nilToks (w : World) : Kd.C k47 w none 0 ([] : List S47) := by
  obtain ⟨A, c, h1, h2, h3⟩ := Kd.R_reads (Kd.R_nil k47 47 w 0 (fun _ => True))
  injection h1 with h1
  subst h1
  exact h3
theorem ptoks_calls (t : ByteArray) (w : World) : Calls Tryz.prog 15 #[.string t] w (ToksPost t w) := by
  by_cases ht : t.size ≤ 2000
  · refine (Tokens_calls t ht w).mono ?_
    intro e w' h
    unfold TokPost at h
    unfold ToksPost resT
    rw [if_pos ht]
    cases hb : badOf (allToks t) with
    | none =>
      rw [hb] at h
      obtain ⟨v, h1, h2, h3⟩ := h
      obtain ⟨A, c, rfl, h4, h5⟩ := h2.C
      exact ⟨A, c, h1, h4, q_max (q_of_own h2), h5, h3⟩
    | some u =>
      rw [hb] at h
      obtain ⟨h1, h3⟩ := h
      exact ⟨none, 0, h1, Nat.le_refl _, Nat.zero_le _, nilToks _, h3⟩
  · refine (Tokens_large t (by omega) w).mono ?_
    rintro e w' ⟨h1, h3⟩
    unfold ToksPost resT
    rw [if_neg ht]
    exact ⟨none, 0, h1, Nat.le_refl _, Nat.zero_le _, nilToks _, h3⟩
theorem rtoks_calls (t : ByteArray) (w : World) : Calls Tryz.prog 16 #[.string t] w (ToksPost t w) := by
  have key : metewandref13_Tokens.f 20000 t = some (resT t) := by
    have hs := Tokens_same t
    unfold resT
    by_cases ht : t.size ≤ 2000
    · rw [if_pos ht]
      rcases hs.1 ht with ⟨h1, h2⟩ | ⟨u, h1, h2⟩
      · rw [h1, h2]
      · rw [h1, h2]
    · rw [if_neg ht]
      exact hs.2 (by omega)
  refine (metewandref13_Tokens.calls 20000 t (resT t).1 (resT t).2.1 (resT t).2.2 w key).mono ?_
  rintro e w' ⟨v, rfl, hr, hb⟩
  obtain ⟨A, c, rfl, h4, h5⟩ := Kd.R_reads hr
  obtain ⟨inner, ho⟩ := Kd.R_own hr
  exact ⟨A, c, rfl, h4, q_max (q_of_own ho), h5, hb⟩
set_option maxRecDepth 100000 in
theorem NewRod_calls (A : Option Addr) (l : List Int) (c : Nat) (hl : l.length ≤ 9223372036854775807) (w : World) (hc : Kd.C (Kd.int .i64) w A l.length l) :
    Calls Tryz.prog 11 #[.slice A l.length c] w fun e w' => e = .returned (.pointer (some ⟨w.heap.size, 0, none⟩)) ∧ Rod w' w.heap.size 0 ∧ Below w.heap.size w w' := by
  have hcells : ∀ i, i < l.length → ∃ ad x, A = some ad ∧ w.cell? (ad.add i) = some (.int .i64 x) ∧ ad.block < w.heap.size := by
    intro i hi
    obtain ⟨ad, h1, h2⟩ := Kd.at_int hc i (by omega) (by omega)
    have h3 := World.block_lt_of_cell? w _ h2
    rw [addr_block] at h3
    exact ⟨ad, _, h1, h2, h3⟩
  have HC := Lib.hid hcells
  clear hcells hc
  have BW := (Below.refl w.heap.size w).alloc (Nat.le_refl _) (.cells #[.slice A l.length c, .int .i64 0, .int .u64 7640891576956012809] 77)
  have hb := Lib.hid (blk_new w (.cells #[.slice A l.length c, .int .i64 0, .int .u64 7640891576956012809] 77))
  go_enter Tryz.func11, Tryz.ntmps11
  go_wp2
  go_ret
  refine ⟨rfl, ⟨A, l.length, c, 0, _, hb.out, by omega, by omega, hl, fun i hi => ?_⟩, BW⟩
  obtain ⟨ad, x, h1, h2, h3⟩ := HC.out i hi
  exact ⟨ad, x, h1, pw_cell_below BW h2, h3⟩
end Go.Proofs.YtjaobihcdkjmbaaGreatDoor
end
section
namespace Go.Proofs.YtjaobihcdkjmbaaGreatDoor
open Go.RowKit Go.Proofs.YtjaobihcdkjmbaaGreatDoorW.PrintWords Go.Proofs.YtjaobihcdkjmbaaGreatDoor.PReadTokens
set_option maxRecDepth 100000 in
set_option maxHeartbeats 4000000 in
theorem ReadTokens_calls (s : ByteArray) (a h b : Int) (A : Option Addr) (l : List Int) (c : Nat) (hl : l.length ≤ 9223372036854775807) (hm : s.size ≤ 9223372036854775807) (w : World) (hc : Kd.C (Kd.int .i64) w A l.length l) (hS : Start w) (hT : Tab w) :
    Calls Tryz.prog 3 #[.string s, .int .i64 a, .int .i64 h, .int .u8 b, .slice A l.length c] w fun e w' => e = .returned (.bool true) ∧ Below w.heap.size w w' := by
  by_cases hs : 2100 < s.size
  · have ht := told_calls w hS hT
    have hd : decide (2100 < (s.size : Int)) = true := decide_eq_true (by omega)
    clear hc
    go_enter Tryz.func3, Tryz.ntmps3
    go_wp2_with fail
    refine ht.mono ?_
    rintro e w1 ⟨rfl, hb1⟩
    go_wp2
    go_ret
    exact ⟨rfl, hb1⟩
  · have hd : decide (2100 < (s.size : Int)) = false := decide_eq_false (by omega)
    have hr := NewRod_calls A l c hl w hc
    have HS := Lib.hid hS
    have HT := Lib.hid hT
    clear hc hS hT hl
    go_enter Tryz.func3, Tryz.ntmps3
    go_wp2_with fail
    refine hr.mono ?_
    rintro e w1 ⟨rfl, r1, hb1⟩
    clear hr
    have hx := ExprOf_calls 3 (by decide) w.heap.size 0 w1 r1 (by decide)
    go_wp2_with fail
    refine hx.mono ?_
    rintro e w2 ⟨x, v, rfl, hx1, hx2, r2, g2⟩
    have hb2 : Below w.heap.size w w2 := hb1.grown g2 (Nat.le_of_lt r1.lt) (fun k e => by injection e with e; omega)
    obtain ⟨vA, vc, rfl, hv1, hv2⟩ := hx2.vw.out
    have hxt := ExprText_calls x (made_ref 3 x hx1 (by decide)) _ w2 hx2.vw
    have hsz := made_text 3 x hx1
    unfold exV
    clear hx hv1 hv2 hx2 r1 g2 hb1
    generalize openR x = t1 at *
    have hsz : t1.size ≤ 1000000 := Nat.le_trans hsz (by decide)
    go_wp2_with fail
    refine hxt.mono ?_
    rintro e w3 ⟨rfl, hb3⟩
    have hb3 := hb2.trans (hb3.mono hb2.size)
    have hsp := Spoilt_calls t1 a h b hsz w3
    clear hxt hb2
    go_wp2_with fail
    refine hsp.mono ?_
    rintro e w4 ⟨⟨t2, rfl⟩, hb4⟩
    have hb4 := hb3.trans (hb4.mono hb3.size)
    clear hsp hb3
    go_wp2_with fail
    have hblk := blk_new w4 (.cells #[.string s, .string t1, .string t2] 9)
    have hb5 := hb4.alloc hb4.size (.cells #[.string s, .string t1, .string t2] 9)
    generalize hX : w4.alloc (.cells #[.string s, .string t1, .string t2] 9) = X at *
    generalize w4.heap.size = T at *
    have HB := Lib.hid hblk
    have h5 := Lib.hid hb5
    clear hblk hb5 hb4 hX
    go_loopg [14] 3 (fun k v14 wr => ∃ j : Nat, v14 = .int .i64 j ∧ j + k = 3 ∧ wr.heap[T]? = some (.cells #[.string s, .string t1, .string t2] 9 (0, 0)) ∧ Below w.heap.size w wr)
    case atStart => exact ⟨0, rfl, by omega, HB.out, h5.out⟩
    case round =>
      clear HB h5
      obtain ⟨j, rfl, hj, hblk, hb⟩ := hrel
      by_cases hj3 : j < 3
      · have hcell : ∃ t, wr.cell? ⟨T, j, none⟩ = some (.string t) := by
          have h1 := blk_cell hblk j
          rcases (show j = 0 ∨ j = 1 ∨ j = 2 by omega) with rfl | rfl | rfl
          · exact ⟨_, h1⟩
          · exact ⟨_, h1⟩
          · exact ⟨_, h1⟩
        obtain ⟨t, hcell⟩ := hcell
        have HP := Lib.hid (fun w => ptoks_calls t w)
        have HR := Lib.hid (fun w => rtoks_calls t w)
        unfold ToksPost at HP HR
        generalize (resT t).1 = ts at *
        generalize (resT t).2.1 = at_ at *
        generalize (resT t).2.2 = er at *
        go_wp2_with fail
        refine (HP.out _).mono ?_
        rintro e v1 ⟨A1, c1, rfl, hc1, hl1, hk1, hv1⟩
        have hk1 := Lib.hid hk1
        have hblk1 := bcell hv1 hblk
        have hb1 := hb.trans (hv1.mono hb.size)
        have hcell1 := pw_cell_below hv1 hcell
        clear hblk hb hcell hv1
        go_wp2_with fail
        refine (HR.out _).mono ?_
        rintro e v2 ⟨A2, c2, rfl, hc2, hl2, hk2, hv2⟩
        have hk1 := Lib.hid (Kd.C_below hk1.out hv2)
        have hk2 := Lib.hid hk2
        have hblk2 := bcell hv2 hblk1
        have hb2 := hb1.trans (hv2.mono hb1.size)
        clear hblk1 hb1 hcell1 hv2
        go_wp2_with fail
        refine (eqToks_calls ts hl1 A1 c1 A2 c2 _ hk1.out hc1 hk2.out hc2).mono ?_
        rintro e v3 ⟨rfl, hv3⟩
        have hblk3 := bcell hv3 hblk2
        have hb3 := hb2.trans (hv3.mono hb2.size)
        clear hblk2 hb2 hv3 hk1 hk2
        go_wp2_with fail
        go_roundg (gk - 1)
        case measure => omega
        case rel => exact ⟨j + 1, by go_num, by omega, hblk3, hb3⟩
      · obtain rfl : j = 3 := by omega
        have ht := told_calls wr (HS.out.below hb) (HT.out.below hb)
        clear hblk
        go_wp2_with fail
        refine ht.mono ?_
        rintro e v1 ⟨rfl, hv1⟩
        go_wp2
        go_ret
        exact ⟨rfl, hb.trans (hv1.mono hb.size)⟩
end Go.Proofs.YtjaobihcdkjmbaaGreatDoor
end
section
namespace Go.Proofs.YtjaobihcdkjmbaaGreatDoor
open Go.RowKit Go.ChangeShapes Go.WideShapes Go.ChangeAt
abbrev laidL : List (String × DataW Unit) := [("math/bits.deBruijn32tab", Rows.laid_math_bits_deBruijn32tab), ("math/bits.deBruijn64tab", Rows.laid_math_bits_deBruijn64tab), ("internal/strconv.uint64pow10", Rows.laid_internal_strconv_uint64pow10), ("errors.errorType", Rows.laid_errors_errorType), ("strconv.ErrRange", Rows.laid_strconv_ErrRange), ("strconv.ErrSyntax", Rows.laid_strconv_ErrSyntax)]
theorem noKnob : ownKnob Tryz.prog.godebug = none := by kernel_rfl
theorem gErr : Tryz.prog.globalNamed "errors.errorType" = some 0 := by kernel_rfl
theorem gPow : Tryz.prog.globalNamed "internal/strconv.uint64pow10" = some 2 := by kernel_rfl
theorem gSyn : Tryz.prog.globalNamed "strconv.ErrSyntax" = some 5 := by kernel_rfl
theorem gRng : Tryz.prog.globalNamed "strconv.ErrRange" = some 6 := by kernel_rfl
theorem tSyn : (Tryz.prog.globals[5]?).map (·.type) = some 134 := by kernel_rfl
theorem tRng : (Tryz.prog.globals[6]?).map (·.type) = some 134 := by kernel_rfl
theorem starE : "*" ++ "errors.errorString" = "*errors.errorString" := by decide
theorem row337 (u : TypeId) (h : Tryz.prog.typeName? 3 u = some "*errors.errorString") : u = 337 :=
  typeName_ptr_named (nm := "errors.errorString") (by rw [starE]; kernel_rfl) (by kernel_rfl) (by decide) u (by rw [starE]; exact h)
theorem cells339 : Tryz.prog.cellsOf 339 = 1 := by kernel_rfl
theorem cells9' : Tryz.prog.cellsOf 9 = 1 := by kernel_rfl
theorem rtypeRow : (Tryz.prog.cutTypes.find? (·.1 == "internal/reflectlite.rtype")).map (·.2) = some 209 := by kernel_rfl
theorem errorRow : ((List.range 367).filter fun t => Tryz.prog.rowNamed t [101, 114, 114, 111, 114]) = [134] := by kernel_rfl
theorem typesSize : Tryz.prog.types.size = 367 := by kernel_rfl
theorem filtH : (laidL.filter fun x => x.2.handleName?.isSome) = [("errors.errorType", Rows.laid_errors_errorType)] := rfl
theorem filtN : (laidL.filter fun x => x.2.handleName?.isNone) = [("math/bits.deBruijn32tab", Rows.laid_math_bits_deBruijn32tab), ("math/bits.deBruijn64tab", Rows.laid_math_bits_deBruijn64tab), ("internal/strconv.uint64pow10", Rows.laid_internal_strconv_uint64pow10), ("strconv.ErrRange", Rows.laid_strconv_ErrRange), ("strconv.ErrSyntax", Rows.laid_strconv_ErrSyntax)] := rfl
theorem laid_parts {W : World} (h : laidMetH Tryz.prog laidL W) : laidMet Tryz.prog [("math/bits.deBruijn32tab", Rows.laid_math_bits_deBruijn32tab), ("math/bits.deBruijn64tab", Rows.laid_math_bits_deBruijn64tab), ("internal/strconv.uint64pow10", Rows.laid_internal_strconv_uint64pow10), ("strconv.ErrRange", Rows.laid_strconv_ErrRange), ("strconv.ErrSyntax", Rows.laid_strconv_ErrSyntax)] W ∧ handlesMet Tryz.prog [("errors.errorType", Rows.laid_errors_errorType)] W := by
  unfold laidMetH at h
  rw [filtH, filtN] at h
  exact h
theorem start_of_laid {W : World} (h : laidMetH Tryz.prog laidL W) : Start W ∧ Tab W := by
  obtain ⟨hd, hh⟩ := laid_parts h
  obtain ⟨name, u, ty, e1, e2, e3, e4, e5⟩ := hh _ (List.mem_singleton.2 rfl)
  have en : name = [101, 114, 114, 111, 114] := (Option.some.inj e1).symm
  subst en
  obtain rfl := Option.some.inj (rtypeRow.symm.trans e2)
  have hm : ty ∈ (List.range 367).filter fun t => Tryz.prog.rowNamed t [101, 114, 114, 111, 114] := List.mem_filter.2 ⟨List.mem_range.2 (by rw [← typesSize]; exact e3), e4⟩
  rw [errorRow] at hm
  obtain rfl := List.mem_singleton.1 hm
  have hth : typeHandle Tryz.prog 134 = .pointer (some ⟨7, 134, none⟩) := As.handle134
  rw [hth] at e5
  have h2 := hd.tail.tail
  have h3 := h2.tail
  have h4 := h3.tail
  obtain ⟨a6, _, hv6, _⟩ := laid_sentinel h3 gRng tRng Tryz.underlying134 row337 Tryz.underlying337 Tryz.underlying339 rfl rfl Tryz.underlying9 cells339 cells9'
  obtain ⟨a5, _, hv5, _⟩ := laid_sentinel h4 gSyn tSyn Tryz.underlying134 row337 Tryz.underlying337 Tryz.underlying339 rfl rfl Tryz.underlying9 cells339 cells9'
  refine ⟨⟨⟨⟨_, _, by simpa using World.var?_cell gSyn hv5 0⟩, ⟨_, _, by simpa using World.var?_cell gRng hv6 0⟩⟩, by simpa using World.var?_cell gErr e5 0⟩, ?_⟩
  exact Lib.tabIs_of_head (t := 275) (e := 75) (n := 20) gPow (by kernel_rfl) (by kernel_rfl) (by kernel_rfl) (by kernel_rfl) (by kernel_rfl) h2
theorem door_met (os : Os) (args : Array Value) : laidMetH Tryz.prog laidL ((World.doorLaid Tryz.prog 69 os).forCall (fun _ _ => 0) ⟨#[], args, []⟩).memory :=
  laidMetH_of_parts3 (fuel := 8) (laidMet_of_run' 8 (by kernel_rfl) (by kernel_rfl)) (by kernel_rfl) (by kernel_rfl)
theorem laidOut : laidOutB Tryz.prog = true := by kernel_rfl
theorem trodAll_below {H : Type} {enc : TypeId × Value → H} {W W' : World} (hb : Below W.heap.size W W') : ∀ (ts : List TypeId) (vs : List Value) (ds : List (DataW H)) (ps : List MemPlace), (∀ t ∈ ts, Tryz.prog.readableRec t = true ∧ t < Tryz.prog.types.size) →
    DataW.TrodAll enc Tryz.prog W 0 (fun _ => true) true ts vs ds ps → (∀ x ∈ ps, x.block < W.heap.size) → DataW.TrodAll enc Tryz.prog W' 0 (fun b => decide (b < W.heap.size)) true ts vs ds ps := by
  intro ts
  induction ts with
  | nil =>
    intro vs ds ps _ h _
    cases vs with
    | nil => cases ds with
      | nil => exact h
      | cons d ds => exact h.elim
    | cons v vs => exact h.elim
  | cons t ts ih =>
    intro vs ds ps ht h hlt
    cases vs with
    | nil => exact h.elim
    | cons v vs =>
      cases ds with
      | nil => exact h.elim
      | cons d ds =>
        obtain ⟨p, q, h1, h2, rfl⟩ := h
        have h3 := ht t List.mem_cons_self
        exact ⟨p, q, Below.trod laidOut h3.1 h3.2 h1 hb (fun x hx => hlt x (List.mem_append_left _ hx)), ih vs ds q (fun t h => ht t (List.mem_cons_of_mem _ h)) h2 (fun x hx => hlt x (List.mem_append_right _ hx)), rfl⟩
end Go.Proofs.YtjaobihcdkjmbaaGreatDoor
end
section
namespace Go.Proofs.YtjaobihcdkjmbaaGreatDoor
set_option maxRecDepth 100000
theorem readTokensF0 : (Rows.readTokensRow.wf (OpenSpec.ofChange Rows.readTokensSpec)) = true := by kernel_rfl
theorem readTokensF1 : (laidOutB Tryz.prog) = true := by kernel_rfl
theorem readTokensF2 : (mapsRowed Tryz.prog) = true := by kernel_rfl
theorem readTokensF3 : (Tryz.f3.params.all (Tryz.prog.readableRec ·)) = true := by kernel_rfl
theorem readTokensF4 : (namedTie Tryz.prog Rows.readTokensRow.named Rows.readTokensSpec.vars) = true := by kernel_rfl
theorem readTokensF5 : ((Rows.readTokensRow.stops == [])) = true := by kernel_rfl
theorem readTokensF6 : ((Tryz.prog.stops == [])) = true := by kernel_rfl
theorem readTokensF7 : ((Rows.readTokensRow.knobs == [])) = true := by kernel_rfl
theorem readTokensF8 : ((Tryz.prog.stopKnobs == [])) = true := by kernel_rfl
theorem readTokensF9 : ((Rows.readTokensRow.inPlace == Tryz.prog.inPlace 3)) = true := by kernel_rfl
theorem readTokensF10 : ((Rows.readTokensRow.unfollowed == Tryz.prog.unfollowed 3)) = true := by kernel_rfl
theorem readTokensF11 : ((Rows.readTokensRow.recurses == Tryz.prog.recurses 3)) = true := by kernel_rfl
theorem readTokensF12 : ((Rows.readTokensRow.named == Tryz.prog.varsNamed 3)) = true := by kernel_rfl
theorem readTokensF13 : ((Rows.readTokensRow.maps == (Tryz.f3.params.toList ++ Rows.readTokensSpec.plain.varTypes Tryz.prog).any (Tryz.prog.mapsRec ·))) = true := by kernel_rfl
theorem readTokensF14 : ((Rows.readTokensRow.ifaces == (Tryz.f3.params.toList ++ Rows.readTokensSpec.plain.varTypes Tryz.prog).any (Tryz.prog.ifacesRec ·))) = true := by kernel_rfl
theorem readTokensF15 : ((Rows.readTokensRow.mapsOut == Tryz.prog.mapsAmong Tryz.f3.resultTypes.toList)) = true := by kernel_rfl
theorem readTokensF16 : ((Rows.readTokensRow.loops == (Tryz.f3.params.toList ++ Rows.readTokensSpec.plain.varTypes Tryz.prog).any (Tryz.prog.loopsFrom ·))) = true := by kernel_rfl
theorem readTokensF17 : ((Rows.readTokensRow.wideKeys == (Tryz.f3.params.toList ++ Rows.readTokensSpec.plain.varTypes Tryz.prog ++ Tryz.f3.resultTypes.toList).any (Tryz.prog.wideKeysFrom ·))) = true := by kernel_rfl
theorem readTokensF18 : (Rows.readTokensSpec.vars.all (Tryz.prog.varReadable ·)) = true := by kernel_rfl
theorem readTokensF19 : (Tryz.f3.resultTypes.all (fun t => Tryz.prog.readableRec t && decide (t < Tryz.prog.types.size))) = true := by kernel_rfl
theorem readTokensF20 : ((Rows.readTokensRow.ifacesOut == Tryz.f3.resultTypes.toList.any (Tryz.prog.ifacesRec ·))) = true := by kernel_rfl
theorem readTokensF21 : ((Rows.readTokensRow.loopsOut == Tryz.f3.resultTypes.toList.any (Tryz.prog.loopsFrom ·))) = true := by kernel_rfl
theorem readTokensF22 : ((Rows.readTokensRow.plainKeys == Tryz.prog.plainKeys)) = true := by kernel_rfl
theorem readTokensF23 : (Rows.readTokensRow.shortTexts.isNone) = true := by kernel_rfl
theorem readTokensF24 : (Tryz.prog.stopsHeard) = true := by kernel_rfl
theorem readTokensF25 : (Tryz.prog.mayEnter) = true := by kernel_rfl
theorem readTokensF26 : ((Rows.readTokensRow.lifted == Tryz.prog.liftsFinal)) = true := by kernel_rfl
theorem readTokensF27 : ((Tryz.prog.make == some Rows.readTokensRow.make)) = true := by kernel_rfl
theorem readTokensF29 : ((Rows.readTokensRow.pinned == Rows.readTokensRow.pinnedBy)) = true := by kernel_rfl
theorem readTokensF30 : ((Rows.readTokensRow.veiled == (Tryz.f3.params.toList ++ Rows.readTokensSpec.plain.varTypes Tryz.prog ++ Tryz.f3.resultTypes.toList).any (Tryz.prog.veiledRec ·))) = true := by kernel_rfl
theorem readTokensF31 : (Rows.readTokensRow.veiledFits Tryz.prog Tryz.f3.params.toList (Tryz.f3.params.toList ++ Rows.readTokensSpec.plain.varTypes Tryz.prog ++ Tryz.f3.resultTypes.toList)) = true := by kernel_rfl
theorem readTokens_closed : joinedFacts Tryz.prog 3 Tryz.f3 Rows.readTokensSpec Rows.readTokensRow = true := by
  unfold joinedFacts
  rw [readTokensF0, readTokensF1, readTokensF2, readTokensF3, readTokensF4, readTokensF5, readTokensF6, readTokensF7, readTokensF8, readTokensF9, readTokensF10, readTokensF11, readTokensF12, readTokensF13, readTokensF14, readTokensF15, readTokensF16, readTokensF17, readTokensF18, readTokensF19, readTokensF20, readTokensF21, readTokensF22, readTokensF23, readTokensF24, readTokensF25, readTokensF26, readTokensF27, readTokensF29, readTokensF30, readTokensF31]
  kernel_rfl
theorem readTokens_inst : Tryz.f3.isInstance Tryz.prog Rows.readTokensRow.origin Rows.readTokensRow.targs := of_decide_eq_true (by kernel_rfl)
theorem readTokens_wrap : Tryz.f3.isWrapper Tryz.prog Rows.readTokensRow.wrapper Rows.readTokensRow.mainSum := by
  unfold Func.isWrapper
  first | (rw [if_pos (by decide +kernel)]; kernel_rfl) | (rw [if_neg (by decide +kernel)]; exact ⟨rfl, rfl⟩)
theorem readTokens_named : Tryz.prog.funcNamed Rows.readTokensRow.func = some 3 := by kernel_rfl
theorem readTokens_looks : true = Tryz.prog.looks [] := by kernel_rfl
end Go.Proofs.YtjaobihcdkjmbaaGreatDoor
end
section
namespace Go.Proofs.YtjaobihcdkjmbaaGreatDoor
open Go.ChangeMaps (open_string)
open Go.RowKit Go.ChangeShapes Go.WideShapes Go.ChangeAt Go.Proofs.YtjaobihcdkjmbaaGreatDoorW.PrintWords
theorem ints_in {W : World} {H : Type} {enc : TypeId × Value → H} {v : Value} {d : DataW H} {p : List MemPlace} (hv : ∃ a len cap, v = .slice a len cap) (h : DataW.Trod enc Tryz.prog W 0 (fun _ => true) true 22 v d p) :
    ∃ A c, ∃ l : List Int, v = .slice A l.length c ∧ l.length ≤ 9223372036854775807 ∧ l.length ≤ c ∧ Kd.C (Kd.int .i64) W A l.length l := by
  obtain ⟨a0, len, cap, rfl⟩ := hv
  obtain ⟨fuel, hf⟩ := h
  rcases open_ints Tryz.underlying22 Tryz.underlying3 (by kernel_rfl) hf with ⟨hcs, hx⟩ | ⟨a, len', cap', zs, hcs, _, hl, hm, hz, hx, hcell, hwz⟩
  · have e : a0 = none ∧ len = 0 ∧ cap = 0 := by simpa [Value.cells] using hcs
    obtain ⟨rfl, rfl, rfl⟩ := e
    refine ⟨none, 0, [], rfl, Nat.zero_le _, Nat.le_refl _, ?_⟩
    obtain ⟨A, c, h1, _, h2⟩ := Kd.R_reads (Kd.R_nil (Kd.int .i64) 3 W 0 (fun _ => True))
    injection h1 with h1
    subst h1
    exact h2
  · have e : a0 = some a ∧ len = len' ∧ cap = cap' := by simpa [Value.cells] using hcs
    obtain ⟨rfl, rfl, rfl⟩ := e
    rw [if_pos rfl] at hz
    have hlen : (zs.take len).length = len := by rw [List.length_take]; omega
    unfold maxLen at hm
    refine ⟨some a, cap, zs.take len, by rw [hlen], by omega, by omega, Kd.C_of_reads (d := (0 : Int)) ⟨rfl, by omega, fun _ => ⟨a, rfl, fun j hj => ?_⟩⟩⟩
    rw [hlen] at hj
    rw [hcell j (by omega)]
    congr 2
    simp [List.getD_eq_getElem?_getD, List.getElem?_take, hj]
def a0 : Array Value := #[.string ⟨#[]⟩, .int .i64 0, .int .i64 0, .int .u8 0, .slice none 0 0]
set_option maxRecDepth 100000 in
theorem ReadTokens_lifted (os : Os) (started : os.Started) (H : Type) (enc : TypeId × Value → H) :
    ReturnsInHanded {} Tryz.checked os 3 .any (fun w args => (Rows.readTokensSpec.pre enc Tryz.prog Tryz.f3 [] false w args ∧ laidMetH Tryz.prog laidL w) ∧ sizedMet enc Tryz.prog Tryz.f3 (OpenSpec.ofChange Rows.readTokensSpec) false w args)
      (Rows.readTokensSpec.post enc Tryz.prog Tryz.f3 false true false false) := by
  refine returnsInHanded_of_change_and (C := Tryz.checked) (X := fun w _ => laidMetH Tryz.prog laidL w) (fun _ _ _ hh h => h.of_heap hh) noKnob started (by kernel_rfl) Tryz.func3
    (ChangeSpec.witness_shaped (enc := enc) (C := Tryz.checked) (os := os) (X := fun w _ => laidMetH Tryz.prog laidL w) false (World.doorLaid Tryz.prog 69 os) a0 8 rfl (World.shaped_of_RefB (by kernel_rfl) (by kernel_rfl)) (by kernel_rfl) (by kernel_rfl) (by kernel_rfl) (door_met os _)) ?_
  intro W base args ds gs before hval0 hW _ _ hL _
  have hval : ∀ (j : Nat) t v, Tryz.f3.params[j]? = some t → args[j]? = some v → Value.okWide Tryz.prog W .any base t v := hval0
  have hW' := hW
  obtain ⟨p, q, hA0, hV, rfl, hfz, hnd⟩ := hW
  have hA : DataW.TrodAll enc Tryz.prog W 0 (fun _ => true) true Tryz.f3.params.toList args.toList ds p := hA0
  have hlt : ∀ x ∈ p, x.block < W.heap.size := fun x hx => by simpa using hW'.lt x (List.mem_append_left _ hx)
  have hA2 := hA
  rw [Tryz.params3] at hA hval
  obtain ⟨v0, vs0, d0, ds0, p0, q0, hargs, rfl, rfl, h0, r0⟩ := trodAll_cons hA
  obtain ⟨v1, vs1, d1, ds1, p1, q1, rfl, rfl, rfl, h1, r1⟩ := trodAll_cons r0
  obtain ⟨v2, vs2, d2, ds2, p2, q2, rfl, rfl, rfl, h2, r2⟩ := trodAll_cons r1
  obtain ⟨v3, vs3, d3, ds3, p3, q3, rfl, rfl, rfl, h3, r3⟩ := trodAll_cons r2
  obtain ⟨v4, vs4, d4, ds4, p4, q4, rfl, rfl, rfl, h4, r4⟩ := trodAll_cons r3
  obtain ⟨rfl, rfl, rfl⟩ := trodAll_nil r4
  obtain rfl : args = #[v0, v1, v2, v3, v4] := by cases args; simp_all
  obtain ⟨pp, hpp⟩ : ∃ pp, pp = p0 ++ (p1 ++ (p2 ++ (p3 ++ (p4 ++ [])))) := ⟨_, rfl⟩
  rw [← hpp] at hA2 hlt hW'
  obtain ⟨rfl, rfl⟩ := trodVars_none hV
  obtain ⟨s, rfl, _, _, hs⟩ := open_string Tryz.underlying9 (hval 0 9 v0 rfl rfl) h0
  obtain ⟨a, rfl, _, _, wa⟩ := open_int Tryz.underlying3 (hval 1 3 v1 rfl rfl) h1
  obtain ⟨h, rfl, _, _, wh⟩ := open_int Tryz.underlying3 (hval 2 3 v2 rfl rfl) h2
  obtain ⟨b, rfl, _, _, wb⟩ := open_int Tryz.underlying5 (hval 3 5 v3 rfl rfl) h3
  obtain ⟨A, c, l, rfl, hl, hc, hC⟩ := ints_in (okWide_slice Tryz.underlying22 (hval 4 22 v4 rfl rfl)) h4
  obtain ⟨hS, hT⟩ := start_of_laid hL
  have e1 : Rows.readTokensSpec.fn H ([d0, d1, d2, d3, d4] ++ []) = { results := [.lit (.bool true)], args := [d0, d1, d2, d3, d4] } := rfl
  refine (ReadTokens_calls s a h b A l c hl hs W hC hS hT).mono fun e W' ⟨he, hb⟩ => ?_
  subst he
  refine ⟨_, rfl, _, _, _, [], pp, [], hW', ?_, ?_, ?_, hb.frame _, fun h => by cases h⟩
  · rw [e1]; exact trodAll_mk1 (shut_bool Tryz.underlying4 true)
  · rw [e1]; exact trodAll_below hb _ _ _ _ (by rw [Tryz.params3]; intro t ht; simp at ht; rcases ht with rfl | rfl | rfl | rfl <;> exact ⟨by kernel_rfl, by rw [typesSize]; decide⟩) hA2 hlt
  · rw [e1]; rfl
theorem ReadTokens_said : Rows.ReadTokensSaid :=
  OpenClaim.holds_of_wide 3 Tryz.f3 rfl rfl rfl rfl rfl rfl rfl ⟨rfl, rfl, rfl, rfl, rfl⟩ rfl rfl rfl rfl rfl readTokens_named Tryz.func3 readTokens_closed
    readTokens_inst readTokens_wrap
    (fun os started H enc _ => ReadTokens_lifted os started H enc)
theorem ReadTokens_plain (f : FuncId) (fn : Func) (hf : Tryz.pinned.checked.prog.funcNamed "metewand/metewandlaw13.ReadTokens" = some f) (hfn : Tryz.pinned.checked.prog.funcs[f]? = some fn) :
    true = Tryz.pinned.checked.prog.looks [] ∧ ∀ (j : Nat) t, fn.params[j]? = some t → Tryz.pinned.checked.prog.wantsStandIn t = false := by
  obtain rfl : f = 3 := Option.some.inj ((show Tryz.prog.funcNamed "metewand/metewandlaw13.ReadTokens" = some 3 by kernel_rfl).symm.trans hf) |>.symm
  obtain rfl : fn = Tryz.f3 := (Option.some.inj (Tryz.func3.symm.trans hfn)).symm
  refine ⟨readTokens_looks, fun j t ht => ?_⟩
  rw [Tryz.params3] at ht
  have hm := Array.mem_of_getElem? ht
  simp at hm
  rcases hm with rfl | rfl | rfl | rfl
  · exact (show Tryz.prog.wantsStandIn 9 = false by kernel_rfl)
  · exact (show Tryz.prog.wantsStandIn 3 = false by kernel_rfl)
  · exact (show Tryz.prog.wantsStandIn 5 = false by kernel_rfl)
  · exact (show Tryz.prog.wantsStandIn 22 = false by kernel_rfl)
theorem ReadTokens_card : Rows.ReadTokensCardSaid :=
  Claim7.holds_tied_plain_at .later [] _ _ _ _ ReadTokens_said (fun _ h => by cases h) (by kernel_rfl) (fun _ h => by cases h) readTokens_row_tie rfl ⟨rfl, rfl⟩ (by kernel_rfl) rfl ReadTokens_plain (by kernel_rfl)
end Go.Proofs.YtjaobihcdkjmbaaGreatDoor
end
