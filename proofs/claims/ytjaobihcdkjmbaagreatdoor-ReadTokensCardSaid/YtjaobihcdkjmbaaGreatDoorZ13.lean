/- A part of the proof that the law ReadTokens answers true for every input. -/
import Derived.Shelf.SlMaps.Copy
import Derived.Shelf.SlIter.Nil
import Derived.Shelf.SlLaysM
import Derived.Shelf.SortM.Plain
import Derived.Shelf.SortM.SortNone
import Derived.Ground.SlmpProg
import Derived.Ground.GgzProg
import Derived.Ground.SlgmProg
import Derived.Test.YtjaobihcdkjmbaaGreatDoorProg
import Derived.Maps.Own
import Derived.OwnWalkIn
import Derived.TacticsInMore
import Derived.Test.YtjaobihcdkjmbaaGreatDoorZ12
section
namespace Go.Proofs
open Go.RowKit Go.Maps Go.Sort Go.Shelf
def Tryz.copy110_ren : Go.Shelf.Ren := ⟨fun | 5 => 110 | n => n, fun | 23 => 116 | 24 => 116 | 26 => 9 | 27 => 4 | 0 => 0 | 4 => 4 | n => n, fun | n => n⟩
theorem Tryz.copy110 : Go.Proofs.SlLaysX.n5 Tryz.prog Tryz.copy110_ren := {
  mixed := by kernel_rfl
  f5 := ⟨Tryz.f110.name, by decide, Tryz.func110.trans (congrArg some (by kernel_rfl))⟩
  t0 := Tryz.underlying0
  a0 := Tryz.isAgg0
  z0 := Tryz.sizeOf0
  v0 := Tryz.zeroValue0
  t4 := Tryz.underlying4
  a4 := Tryz.isAgg4
  z4 := Tryz.sizeOf4
  v4 := Tryz.zeroValue4
  t23 := Tryz.underlying116
  a23 := Tryz.isAgg116
  z23 := Tryz.sizeOf116
  v23 := Tryz.zeroValue116
  t24 := Tryz.underlying116
  a24 := Tryz.isAgg116
  z24 := Tryz.sizeOf116
  v24 := Tryz.zeroValue116
  a26 := Tryz.isAgg9
  z26 := Tryz.sizeOf9
  a27 := Tryz.isAgg4
  z27 := Tryz.sizeOf4 }
def Tryz.keys112_ren : Go.Shelf.Ren := ⟨fun | 7 => 112 | 10 => 149 | n => n, fun | 23 => 116 | 26 => 9 | 3 => 4 | 28 => 169 | 0 => 0 | 27 => 168 | 33 => 114 | 4 => 4 | n => n, fun | n => n⟩
theorem Tryz.keys112 : Go.Proofs.SlLaysZ.n7 Tryz.prog Tryz.keys112_ren := {
  mixed := by kernel_rfl
  f7 := ⟨Tryz.f112.name, by decide, Tryz.func112.trans (congrArg some (by kernel_rfl))⟩
  f10 := ⟨Tryz.f149.name, by decide, Tryz.func149.trans (congrArg some (by kernel_rfl))⟩
  t0 := Tryz.underlying0
  a0 := Tryz.isAgg0
  z0 := Tryz.sizeOf0
  v0 := Tryz.zeroValue0
  t4 := Tryz.underlying4
  a4 := Tryz.isAgg4
  z4 := Tryz.sizeOf4
  v4 := Tryz.zeroValue4
  t23 := Tryz.underlying116
  a23 := Tryz.isAgg116
  z23 := Tryz.sizeOf116
  v23 := Tryz.zeroValue116
  t26 := Tryz.underlying9
  a26 := Tryz.isAgg9
  z26 := Tryz.sizeOf9
  v26 := Tryz.zeroValue9
  t27 := Tryz.underlying168
  a27 := Tryz.isAgg168
  z27 := Tryz.sizeOf168
  v27 := Tryz.zeroValue168
  t28 := Tryz.underlying169
  a28 := Tryz.isAgg169
  z28 := Tryz.sizeOf169
  v28 := Tryz.zeroValue169
  t33 := Tryz.underlying114
  a33 := Tryz.isAgg114
  z33 := Tryz.sizeOf114
  v33 := Tryz.zeroValue114 }
def Tryz.sorted111_ren : Go.Shelf.Ren := ⟨fun | 6 => 111 | 8 => 147 | 9 => 148 | 11 => 173 | 13 => 175 | 12 => 174 | 23 => 210 | 24 => 211 | 14 => 201 | 15 => 202 | 16 => 203 | 17 => 204 | 18 => 205 | 19 => 206 | 20 => 207 | 21 => 208 | 22 => 209 | 25 => 242 | 26 => 243 | 27 => 244 | 28 => 245 | 29 => 246 | 30 => 247 | 31 => 272 | n => n, fun | 26 => 9 | 28 => 169 | 24 => 34 | 0 => 0 | 3 => 3 | 37 => 157 | 48 => 270 | 50 => 75 | 4 => 4 | 40 => 264 | 39 => 263 | 45 => 164 | 5 => 5 | 9 => 9 | 51 => 291 | 55 => 294 | 57 => 316 | 58 => 201 | 33 => 114 | n => n, fun | n => n⟩
theorem Tryz.sorted111 : Go.Proofs.SlLaysZ.n6 Tryz.prog Tryz.sorted111_ren := {
  mixed := by kernel_rfl
  f6 := ⟨Tryz.f111.name, by decide, Tryz.func111.trans (congrArg some (by kernel_rfl))⟩
  f8 := ⟨Tryz.f147.name, by decide, Tryz.func147.trans (congrArg some (by kernel_rfl))⟩
  f11 := ⟨Tryz.f173.name, by decide, Tryz.func173.trans (congrArg some (by kernel_rfl))⟩
  t0 := Tryz.underlying0
  a0 := Tryz.isAgg0
  z0 := Tryz.sizeOf0
  v0 := Tryz.zeroValue0
  t24 := Tryz.underlying34
  a24 := Tryz.isAgg34
  z24 := Tryz.sizeOf34
  v24 := Tryz.zeroValue34
  t26 := Tryz.underlying9
  a26 := Tryz.isAgg9
  z26 := Tryz.sizeOf9
  v26 := Tryz.zeroValue9
  t28 := Tryz.underlying169
  a28 := Tryz.isAgg169
  z28 := Tryz.sizeOf169
  v28 := Tryz.zeroValue169
  i26 := by kernel_rfl }
def Tryz.sort148_ren : Go.Shelf.Ren := ⟨fun | 6 => 148 | 8 => 175 | 9 => 174 | 19 => 210 | 20 => 211 | 21 => 201 | 22 => 202 | 23 => 203 | 24 => 204 | 25 => 205 | 26 => 206 | 27 => 207 | 28 => 208 | 29 => 209 | 36 => 242 | 31 => 243 | 32 => 244 | 37 => 245 | 38 => 246 | 39 => 247 | 41 => 272 | n => n, fun | 27 => 34 | 29 => 9 | 3 => 3 | 32 => 157 | 26 => 34 | 0 => 0 | 44 => 270 | 46 => 75 | 4 => 4 | 36 => 264 | 35 => 263 | 41 => 164 | 5 => 5 | 9 => 9 | 53 => 291 | 57 => 294 | 63 => 316 | 64 => 201 | n => n, fun | n => n⟩
theorem Tryz.sort148 : Go.Proofs.SlLaysM.n6 Tryz.prog Tryz.sort148_ren := {
  mixed := by kernel_rfl
  f6 := ⟨Tryz.f148.name, by decide, Tryz.func148.trans (congrArg some (by kernel_rfl))⟩
  f8 := Tryz.func175.trans (congrArg some (by kernel_rfl))
  f9 := ⟨Tryz.f174.name, by decide, Tryz.func174.trans (congrArg some (by kernel_rfl))⟩
  f19 := Tryz.func210.trans (congrArg some (by kernel_rfl))
  f20 := Tryz.func211.trans (congrArg some (by kernel_rfl))
  f21 := ⟨Tryz.f201.name, by decide, Tryz.func201.trans (congrArg some (by kernel_rfl))⟩
  f22 := ⟨Tryz.f202.name, by decide, Tryz.func202.trans (congrArg some (by kernel_rfl))⟩
  f23 := ⟨Tryz.f203.name, by decide, Tryz.func203.trans (congrArg some (by kernel_rfl))⟩
  f24 := ⟨Tryz.f204.name, by decide, Tryz.func204.trans (congrArg some (by kernel_rfl))⟩
  f25 := ⟨Tryz.f205.name, by decide, Tryz.func205.trans (congrArg some (by kernel_rfl))⟩
  f26 := ⟨Tryz.f206.name, by decide, Tryz.func206.trans (congrArg some (by kernel_rfl))⟩
  f27 := ⟨Tryz.f207.name, by decide, Tryz.func207.trans (congrArg some (by kernel_rfl))⟩
  f28 := ⟨Tryz.f208.name, by decide, Tryz.func208.trans (congrArg some (by kernel_rfl))⟩
  f29 := ⟨Tryz.f209.name, by decide, Tryz.func209.trans (congrArg some (by kernel_rfl))⟩
  f31 := Tryz.func243.trans (congrArg some (by kernel_rfl))
  f32 := Tryz.func244.trans (congrArg some (by kernel_rfl))
  f36 := ⟨Tryz.f242.name, by decide, Tryz.func242.trans (congrArg some (by kernel_rfl))⟩
  f37 := ⟨Tryz.f245.name, by decide, Tryz.func245.trans (congrArg some (by kernel_rfl))⟩
  f38 := ⟨Tryz.f246.name, by decide, Tryz.func246.trans (congrArg some (by kernel_rfl))⟩
  f39 := ⟨Tryz.f247.name, by decide, Tryz.func247.trans (congrArg some (by kernel_rfl))⟩
  f41 := ⟨Tryz.f272.name, by decide, Tryz.func272.trans (congrArg some (by kernel_rfl))⟩
  t0 := Tryz.underlying0
  a0 := Tryz.isAgg0
  z0 := Tryz.sizeOf0
  v0 := Tryz.zeroValue0
  t3 := Tryz.underlying3
  a3 := Tryz.isAgg3
  z3 := Tryz.sizeOf3
  v3 := Tryz.zeroValue3
  t4 := Tryz.underlying4
  a4 := Tryz.isAgg4
  z4 := Tryz.sizeOf4
  v4 := Tryz.zeroValue4
  t5 := Tryz.underlying5
  a5 := Tryz.isAgg5
  z5 := Tryz.sizeOf5
  v5 := Tryz.zeroValue5
  t9 := Tryz.underlying9
  a9 := Tryz.isAgg9
  z9 := Tryz.sizeOf9
  v9 := Tryz.zeroValue9
  t26 := Tryz.underlying34
  a26 := Tryz.isAgg34
  z26 := Tryz.sizeOf34
  v26 := Tryz.zeroValue34
  t27 := Tryz.underlying34
  a27 := Tryz.isAgg34
  z27 := Tryz.sizeOf34
  v27 := Tryz.zeroValue34
  t29 := Tryz.underlying9
  a29 := Tryz.isAgg9
  z29 := Tryz.sizeOf9
  v29 := Tryz.zeroValue9
  t32 := Tryz.underlying157
  a32 := Tryz.isAgg157
  z32 := Tryz.sizeOf157
  v32 := Tryz.zeroValue157
  t35 := Tryz.underlying263
  a35 := Tryz.isAgg263
  z35 := Tryz.sizeOf263
  v35 := Tryz.zeroValue263
  t36 := Tryz.underlying264
  a36 := Tryz.isAgg264
  z36 := Tryz.sizeOf264
  v36 := Tryz.zeroValue264
  t41 := Tryz.underlying164
  a41 := Tryz.isAgg164
  z41 := Tryz.sizeOf164
  v41 := Tryz.zeroValue164
  t44 := Tryz.underlying270
  a44 := Tryz.isAgg270
  z44 := Tryz.sizeOf270
  v44 := Tryz.zeroValue270
  t46 := Tryz.underlying75
  a46 := Tryz.isAgg75
  z46 := Tryz.sizeOf75
  v46 := Tryz.zeroValue75
  t53 := Tryz.underlying291
  a53 := Tryz.isAgg291
  z53 := Tryz.sizeOf291
  v53 := Tryz.zeroValue291
  t57 := Tryz.underlying294
  a57 := Tryz.isAgg294
  z57 := Tryz.sizeOf294
  v57 := Tryz.zeroValue294
  t63 := Tryz.underlying316
  a63 := Tryz.isAgg316
  z63 := Tryz.sizeOf316
  v63 := Tryz.zeroValue316
  t64 := Tryz.underlying201
  a64 := Tryz.isAgg201
  z64 := Tryz.sizeOf201
  v64 := Tryz.zeroValue201 }
theorem Tryz.sorts111 (m : Nat) : AnyZ.SortsIn Tryz.prog Tryz.sorted111_ren Fence.wide m :=
  ⟨fun blk off cap ss W hH hblk hsz => callsIn_wide.2 (AnyM.slices_Sort_string Tryz.sort148 blk off cap ss W hH hblk hsz),
   fun p cap W => callsIn_wide.2 (AnyM.slices_Sort_string_none Tryz.sort148 p cap W)⟩
theorem Tryz.maps_Keys_112 (mb : Option Nat) (W : World) : CallsIn Fence.wide 5 Tryz.prog 112 #[.map mb] W fun e w' => e = .returned (.func (.func 149) #[] #[.pointer (some ⟨W.heap.size, 0, none⟩)]) ∧ w' = W.alloc (.cells #[.map mb] 116) :=
  AnyZ.keys_in Tryz.keys112 Fence.wide 5 trivial rfl mb W
set_option maxHeartbeats 1000000 in
theorem Tryz.slices_Sorted_keys_111_112 {H : Type} (b nn : Nat) (D0 : DataW H) (R : Value → Option (DataW H × List MemPlace)) (w : World) (hown : w.ownsMap Tryz.prog 9 R b nn D0) (hmax : Maps.size D0 ≤ maxLen) (hbytes : Maps.size D0 * 16 ≤ 140737488355328) :
    CallsIn Fence.wide 5 Tryz.prog 111 #[.func (.func 149) #[] #[.pointer (some ⟨w.heap.size, 0, none⟩)]] (w.alloc (.cells #[.map (some b)] 116)) fun e w' => ∃ (v : Value) (ss : List (List UInt8)), e = .returned v ∧ ss.Perm (strKeys D0) ∧
      w'.ownsRow (w.alloc (.cells #[.map (some b)] 116)).heap.size 9 1 v ss.length ((ss.mergeSort (fun x y => decide (x ≤ y))).map encStr) ∧ (v = .slice none 0 0 ↔ ss = []) ∧ Below (w.alloc (.cells #[.map (some b)] 116)).heap.size (w.alloc (.cells #[.map (some b)] 116)) w' := by
  have hbl := hown.lt
  have hseq : SeqGives Fence.wide 2 Tryz.prog 149 #[.pointer (some ⟨w.heap.size, 0, none⟩)] encStr (fun ss => ss.Perm (strKeys D0)) (Maps.size D0) (w.alloc (.cells #[.map (some b)] 116)) :=
    AnyZ.keys_gives (ρ := Tryz.keys112_ren) { Tryz.keys112 with } Fence.wide _ trivial rfl (by omega) w.heap.size b nn D0 _ (by simp) (by simp) (by
      obtain ⟨es, clock, hb, Ft, hs, hD⟩ := hown
      exact ⟨es, clock, (Below.heap_alloc _ _ b hbl).trans hb, Ft, hs, hD⟩)
  exact AnyZ.sorted_in Tryz.sorted111 Fence.wide 5 trivial trivial trivial trivial rfl (by omega) (Tryz.sorts111 _) (enters_of Tryz.func148 (by kernel_rfl) rfl) 149 #[.pointer (some ⟨w.heap.size, 0, none⟩)] trivial (enters_of Tryz.func149 (by kernel_rfl) rfl) _ _ hmax hbytes _ hseq
end Go.Proofs
end
section
namespace Go.Proofs.YtjaobihcdkjmbaaGreatDoor
open Go.RowKit Go.Maps Go.Proofs.YtjaobihcdkjmbaaGreatDoorW.PrintWords Go.Proofs.YtjaobihcdkjmbaaGreatDoor.PReadTokens
theorem kindT4 {op : Int} (h : op ≠ 10 ∧ op ≠ 11 ∧ op ≠ 12 ∧ op ≠ 13) : kindT op = 152 ∨ kindT op = 154 ∨ kindT op = 155 ∨ kindT op = 156 := by
  unfold kindT
  rw [if_neg (by omega)]
  by_cases h1 : op = 3 ∨ op = 4 ∨ op = 5 ∨ op = 6
  · rw [if_pos h1]; exact .inl rfl
  · rw [if_neg h1]
    by_cases h2 : op = 2
    · rw [if_pos h2]; exact .inr (.inl rfl)
    · rw [if_neg h2]
      by_cases h3 : op = 7 ∨ op = 9
      · rw [if_pos h3]; exact .inr (.inr (.inl rfl))
      · rw [if_neg h3]; exact .inr (.inr (.inr rfl))
theorem ta_other {t : TypeId} (h : t = 152 ∨ t = 154 ∨ t = 155 ∨ t = 156) (v : Value) (w : World) : (Instr.typeAssert (.iface t v) 147 150 true).run Tryz.prog w = .ok (.tuple #[zE, .bool false]) w := by
  rcases h with rfl | rfl | rfl | rfl
  · exact ta152_150 v w
  · exact ta154_150 v w
  · exact ta155_150 v w
  · exact ta156_150 v w
set_option maxRecDepth 100000 in
set_option maxHeartbeats 1000000 in
theorem binds_no (x : S31) (A : Option Addr) (n c : Nat) (h : x.f0 ≠ 10 ∧ x.f0 ≠ 11 ∧ x.f0 ≠ 12 ∧ x.f0 ≠ 13) (w : World) :
    Calls Tryz.prog 109 #[exV x (.slice A n c)] w fun e w' => e = .returned (.tuple #[.int .i64 0, .bool false]) ∧ Below w.heap.size w w' := by
  have hk := kindOf_calls x A n c
  have hta := fun v w => ta_other (kindT4 h) v w
  obtain ⟨f0, f1, f2, f3, xs⟩ := x
  simp only at *
  generalize kindT f0 = kt at *
  unfold exV at *
  simp only at *
  clear h
  go_enter Tryz.func109, Tryz.ntmps109
  go_wp2_with (go_at_call 96; refine (hk _).mono ?_; rintro e w1 ⟨rfl, hb1⟩)
  refine bodyPost_ret (results_tmp2 rfl _ _ _) rfl ⟨rfl, ?_⟩
  have h1 := ((Below.refl _ w).alloc (Nat.le_refl _) (.cells #[.int .i64 f0, .string f1.f0, .string f1.f1, .string f2, .int .i64 f3, .slice A n c] 31)).trans (hb1.mono (by simp))
  exact h1.alloc h1.size _
theorem law9 : Keyed Tryz.prog 9 := string_keyed Tryz.underlying9
abbrev MapAt (w : World) (b n : Nat) (D : DataW Unit) : Prop := w.ownsMap Tryz.prog 9 (plainElem Tryz.prog 4) b n D
theorem copy_calls (bd bs nd ns : Nat) (Dd Ds : DataW Unit) (w : World) (hd : MapAt w bd nd Dd) (hs : MapAt w bs ns Ds) (hne : bd ≠ bs) (hroom : nd + Maps.size Ds ≤ maxLen) :
    Calls Tryz.prog 110 #[.map (some bd), .map (some bs)] w fun e w' => e = .returned (.tuple #[]) ∧ MapAt w' bd (nd + Maps.size Ds) (Lib.mergeD Dd Ds) ∧ w.grownBy w' (some bd) :=
  (AnyX.maps_Copy Tryz.copy110 law9 (plainElem Tryz.prog 4) bd bs nd ns Dd Ds w hd hs hne hroom).mono fun _ _ ⟨h1, h2, _, h4⟩ => ⟨h1, h2, h4⟩
def ownD (x : S31) : DataW Unit := if x.f0 = 1 then (DataW.map []).put (.string x.f2.data.toList) (.lit (.bool true)) else .map []
mutual
def freeD : S31 → DataW Unit
  | ⟨op, num, name, size, l⟩ => mergeL (ownD ⟨op, num, name, size, l⟩) l
def mergeL : DataW Unit → List S31 → DataW Unit
  | D, [] => D
  | D, x :: l => mergeL (Lib.mergeD D (freeD x)) l
end
theorem freeD_eq (x : S31) : freeD x = mergeL (ownD x) x.f4 := by cases x; rfl
theorem mergeL_append (D : DataW Unit) (l m : List S31) : mergeL D (l ++ m) = mergeL (mergeL D l) m := by
  induction l generalizing D with
  | nil => rfl
  | cons x l ih => exact ih _
theorem mergeL_take (D : DataW Unit) (l : List S31) (j : Nat) (h : j < l.length) : mergeL D (l.take (j + 1)) = Lib.mergeD (mergeL D (l.take j)) (freeD l[j]) := by
  rw [take_snoc' l j h, mergeL_append]; rfl
def bare1 (x : S31) : Bool := decide (x.f0 ≠ 10) && decide (x.f0 ≠ 11) && decide (x.f0 ≠ 12) && decide (x.f0 ≠ 13) && decide (x.f2.size ≤ 1000)
mutual
def bareB : S31 → Bool
  | ⟨a, b, c, d, l⟩ => bare1 ⟨a, b, c, d, l⟩ && bareL l
def bareL : List S31 → Bool
  | [] => true
  | x :: l => bareB x && bareL l
end
theorem bareB_eq (x : S31) : bareB x = (bare1 x && bareL x.f4) := by cases x; rfl
theorem bareL_mem {l : List S31} (h : bareL l = true) {x : S31} (hx : x ∈ l) : bareB x = true := by
  induction l with
  | nil => simp at hx
  | cons y l ih =>
    simp only [bareL, Bool.and_eq_true] at h
    rcases List.mem_cons.1 hx with rfl | hx
    · exact h.1
    · exact ih h.2 hx
structure FreeAt (w : World) (D : DataW Unit) (xs : List S31) (B j : Nat) (wr : World) : Prop where
  map : MapAt wr B (1 + nodesL (xs.take j)) (mergeL D (xs.take j))
  below : Below w.heap.size w wr
set_option maxRecDepth 100000 in
set_option maxHeartbeats 4000000 in
theorem free_calls : ∀ (n : Nat) (x : S31), depthX x ≤ n → nodesX x ≤ 4611686018427387904 → bareB x = true → ∀ (v : Value) (w : World), Vw w x v →
    Calls Tryz.prog 73 #[v] w fun e w' => ∃ b, e = .returned (.map (some b)) ∧ w.heap.size ≤ b ∧ MapAt w' b (nodesX x) (freeD x) ∧ Below w.heap.size w w' := by
  intro n
  induction n with
  | zero => intro x h; rw [depthX_eq] at h; omega
  | succ n ih =>
    intro x hd hn hb v w hv
    obtain ⟨A, c, rfl, hc1, hc2⟩ := hv.out
    rw [bareB_eq, Bool.and_eq_true] at hb
    obtain ⟨hb1, hb2⟩ := hb
    unfold bare1 at hb1
    simp only [Bool.and_eq_true, decide_eq_true_eq] at hb1
    obtain ⟨⟨⟨⟨n10, n11⟩, n12⟩, n13⟩, hns⟩ := hb1
    rw [depthX_eq] at hd
    rw [nodesX_eq] at hn
    have hrec : ∀ (j : Nat) (hj : j < x.f4.length) v w, Vw w x.f4[j] v → Calls Tryz.prog 73 #[v] w fun e w' => ∃ b, e = .returned (.map (some b)) ∧ w.heap.size ≤ b ∧ MapAt w' b (nodesX x.f4[j]) (freeD x.f4[j]) ∧ Below w.heap.size w w' := by
      intro j hj
      have h1 := depthX_mem (List.getElem_mem hj)
      have h2 := nodesX_mem (List.getElem_mem hj)
      exact ih _ (by omega) (by omega) (bareL_mem hb2 (List.getElem_mem hj))
    have hbn := fun w' => binds_no x A x.f4.length c ⟨n10, n11, n12, n13⟩ w'
    have hkey : keyOf Tryz.prog 9 (.string x.f2) = some (.string x.f2.data.toList) := Go.WideMaps.keyOf_string_mk Tryz.underlying9 (by unfold maxLen; omega)
    have hD : ∃ D, D = ownD x := ⟨_, rfl⟩
    obtain ⟨D, hD⟩ := hD
    have hDe := hD
    unfold ownD at hDe
    have hmt := mergeL_take D x.f4
    have hnt := nodesL_take x.f4
    have hnl := nodesL_take_le x.f4
    have hlen := length_nodesL x.f4
    have htk : x.f4.take x.f4.length = x.f4 := List.take_length
    have hfe : freeD x = mergeL D x.f4 := by rw [freeD_eq, ← hD]
    rw [hfe, nodesX_eq]
    have hmm := @run_makeMap Tryz.prog
    obtain ⟨f0, f1, f2, f3, xs⟩ := x
    simp only at *
    clear ih hv hb2 n10 n11 n12 n13 hfe hD
    unfold exV at *
    simp only at *
    have HR := Lib.hid hrec
    have HN := Lib.hid hnt
    have HM := Lib.hid hmt
    have HNL := Lib.hid hnl
    have HT := Lib.hid htk
    have HC := Lib.hid hc2
    have HB := Lib.hid hbn
    have HK := Lib.hid hkey
    clear hrec hnt hmt hnl htk hc2 hbn hkey
    by_cases hop : f0 = 1
    · rw [if_pos hop] at hDe
      have HD := Lib.hid hDe
      clear hDe
      subst hop
      go_enter Tryz.func73, Tryz.ntmps73
      go_wp2_with (first
        | (at_mapUpdate; refine wpList_mapUpdate_own _ rfl _ _ _ 116 rfl 9 4 law9 Tryz.underlying116 (plainElem Tryz.prog 4) (w.heap.size + 1) 0 (.map []) rfl (by have := World.ownsMap_made (H := Unit) (w.alloc (.cells #[.int .i64 1, .string f1.f0, .string f1.f1, .string f2, .int .i64 f3, .slice A xs.length c] 31)) Tryz.prog 9 (plainElem Tryz.prog 4); rwa [World.size_alloc] at this) (by unfold maxLen; omega) _ _ _ rfl rfl HK.out _ [] (plainElem_bool Tryz.underlying4 true) ?_))
      intro w1 hown1 hgrow1
      rw [← HD.out] at hown1
      have hbx := (hgrow1.block w.heap.size (by simp; omega) (by intro e; injection e with e; omega)).trans ((Below.heap_alloc _ _ _ (by simp)).trans (blk_new w (.cells #[.int .i64 1, .string f1.f0, .string f1.f1, .string f2, .int .i64 f3, .slice A xs.length c] 31)))
      have hbe : Below w.heap.size w w1 := (((Below.refl _ w).alloc (Nat.le_refl _) (.cells #[.int .i64 1, .string f1.f0, .string f1.f1, .string f2, .int .i64 f3, .slice A xs.length c] 31)).alloc (by simp) (.map #[] 0)).grown hgrow1 (by simp; omega) (fun k e => by injection e with e; omega)
      clear hgrow1
      have BX := Lib.hid hbx
      have hb1 := Lib.hid hbe
      obtain ⟨⟨q0, q1, q2, q3, q4, q5⟩, _, xl⟩ := cells6 hbx
      clear hbx hbe
      go_wp2_with fail
      refine (HB.out _).mono ?_
      rintro e w2 ⟨rfl, hb2⟩
      have hx2 := bcell hb2 BX.out
      obtain ⟨⟨p0, p1, p2, p3, p4, p5⟩, _, xl2⟩ := cells6 hx2
      have hat : FreeAt w D xs (w.heap.size + 1) 0 w2 := ⟨by simpa [nodesL, mergeL] using hown1.kept (row := none) ⟨hb2.os, hb2.tape, hb2.output, hb2.size, fun k hk _ => hb2.block k hk⟩ (by simp), hb1.out.trans (hb2.mono hb1.out.size)⟩
      clear hx2 hown1 q0 q1 q2 q3 q4 q5 xl
      go_wp2
      go_loopg [24] xs.length (fun k i wr => ∃ j : Nat, j + k = xs.length ∧ i = .int .i64 j ∧ FreeAt w D xs (w.heap.size + 1) j wr)
      case atStart => exact ⟨0, by omega, rfl, hat⟩
      case round =>
        clear hat p0 p1 p2 p3 p4 p5 xl2
        obtain ⟨j, hj, rfl, hat⟩ := hrel
        by_cases hjl : j < xs.length
        · obtain ⟨ad, A5, c5, rfl, q0, q1, q2, q3, q4, q5, hvw⟩ := arg_cells (Kd.C_below HC.out hat.below) j hjl
          have hr := HR.out j hjl
          have hn1 := HN.out j hjl
          have hm1 := HM.out j hjl
          have hn2 := HNL.out (j + 1)
          generalize xs[j] = y at *
          have Hvw := Lib.hid hvw
          clear hvw
          go_wp2_with fail
          refine (hr _ _ (Hvw.out.below ((Below.refl _ _).alloc (Nat.le_refl _) _))).mono ?_
          rintro e w3 ⟨b, rfl, hbge, hmap3, hb3⟩
          have hbl : Below wr.heap.size wr w3 := ((Below.refl _ _).alloc (Nat.le_refl _) _).trans (hb3.mono (by simp))
          have hB3 : MapAt w3 (w.heap.size + 1) (1 + nodesL (xs.take j)) (mergeL D (xs.take j)) := hat.map.kept (row := none) ⟨hbl.os, hbl.tape, hbl.output, hbl.size, fun k hk _ => hbl.block k hk⟩ (by simp)
          have hBlt := hat.map.lt
          simp only [World.size_alloc] at hbge
          have hsz := hmap3.size_le
          have hcp := copy_calls (w.heap.size + 1) b _ _ _ _ w3 hB3 hmap3 (by omega) (by unfold maxLen; omega)
          have hw3 := hat.below.trans (hbl.mono hat.below.size)
          have HW := Lib.hid hw3
          clear hr hmap3 hB3 hat hbl hb3
          go_wp2_with fail
          refine hcp.mono ?_
          rintro e w4 ⟨rfl, hm4, hg4⟩
          have hat4 : FreeAt w D xs (w.heap.size + 1) (j + 1) w4 := by
            refine ⟨?_, HW.out.grown hg4 HW.out.size (fun k e => by injection e with e; omega)⟩
            rw [hm1, hn1]
            exact hm4.mono (by omega)
          clear hm4 hg4 hcp hw3
          go_wp2
          go_roundg (gk - 1)
          case measure => omega
          case rel => exact ⟨j + 1, round_next hj hjl, by go_num, hat4⟩
        · obtain rfl : j = xs.length := by omega
          go_wp2
          go_ret
          have h1 := hat.map
          rw [HT.out] at h1
          exact ⟨_, rfl, by omega, h1.mono (by omega), hat.below⟩
    · rw [if_neg hop] at hDe
      have HD := Lib.hid hDe
      have hop' := beq_no hop
      have hown0 : MapAt ((w.alloc (.cells #[.int .i64 f0, .string f1.f0, .string f1.f1, .string f2, .int .i64 f3, .slice A xs.length c] 31)).alloc (.map #[] 0)) (w.heap.size + 1) 0 (.map []) := by have := World.ownsMap_made (H := Unit) (w.alloc (.cells #[.int .i64 f0, .string f1.f0, .string f1.f1, .string f2, .int .i64 f3, .slice A xs.length c] 31)) Tryz.prog 9 (plainElem Tryz.prog 4); rwa [World.size_alloc] at this
      rw [← HD.out] at hown0
      have hown1 := hown0.mono (n' := 1) (by omega)
      have hbx : ((w.alloc (.cells #[.int .i64 f0, .string f1.f0, .string f1.f1, .string f2, .int .i64 f3, .slice A xs.length c] 31)).alloc (.map #[] 0)).heap[w.heap.size]? = _ := (Below.heap_alloc _ _ _ (by simp)).trans (blk_new w (.cells #[.int .i64 f0, .string f1.f0, .string f1.f1, .string f2, .int .i64 f3, .slice A xs.length c] 31))
      have hbe : Below w.heap.size w ((w.alloc (.cells #[.int .i64 f0, .string f1.f0, .string f1.f1, .string f2, .int .i64 f3, .slice A xs.length c] 31)).alloc (.map #[] 0)) := ((Below.refl _ w).alloc (Nat.le_refl _) _).alloc (by simp) _
      clear hDe hop hown0
      go_enter Tryz.func73, Tryz.ntmps73
      go_wp2_with fail
      generalize hw1 : (w.alloc (.cells #[.int .i64 f0, .string f1.f0, .string f1.f1, .string f2, .int .i64 f3, .slice A xs.length c] 31)).alloc (.map #[] 0) = w1 at *
      clear hw1
      have BX := Lib.hid hbx
      have hb1 := Lib.hid hbe
      obtain ⟨⟨q0, q1, q2, q3, q4, q5⟩, _, xl⟩ := cells6 hbx
      clear hbx hbe
      go_wp2_with fail
      refine (HB.out _).mono ?_
      rintro e w2 ⟨rfl, hb2⟩
      have hx2 := bcell hb2 BX.out
      obtain ⟨⟨p0, p1, p2, p3, p4, p5⟩, _, xl2⟩ := cells6 hx2
      have hat : FreeAt w D xs (w.heap.size + 1) 0 w2 := ⟨by simpa [nodesL, mergeL] using hown1.kept (row := none) ⟨hb2.os, hb2.tape, hb2.output, hb2.size, fun k hk _ => hb2.block k hk⟩ (by simp), hb1.out.trans (hb2.mono hb1.out.size)⟩
      clear hx2 hown1 q0 q1 q2 q3 q4 q5 xl
      go_wp2
      go_loopg [24] xs.length (fun k i wr => ∃ j : Nat, j + k = xs.length ∧ i = .int .i64 j ∧ FreeAt w D xs (w.heap.size + 1) j wr)
      case atStart => exact ⟨0, by omega, rfl, hat⟩
      case round =>
        clear hat p0 p1 p2 p3 p4 p5 xl2
        obtain ⟨j, hj, rfl, hat⟩ := hrel
        by_cases hjl : j < xs.length
        · obtain ⟨ad, A5, c5, rfl, q0, q1, q2, q3, q4, q5, hvw⟩ := arg_cells (Kd.C_below HC.out hat.below) j hjl
          have hr := HR.out j hjl
          have hn1 := HN.out j hjl
          have hm1 := HM.out j hjl
          have hn2 := HNL.out (j + 1)
          generalize xs[j] = y at *
          have Hvw := Lib.hid hvw
          clear hvw
          go_wp2_with fail
          refine (hr _ _ (Hvw.out.below ((Below.refl _ _).alloc (Nat.le_refl _) _))).mono ?_
          rintro e w3 ⟨b, rfl, hbge, hmap3, hb3⟩
          have hbl : Below wr.heap.size wr w3 := ((Below.refl _ _).alloc (Nat.le_refl _) _).trans (hb3.mono (by simp))
          have hB3 : MapAt w3 (w.heap.size + 1) (1 + nodesL (xs.take j)) (mergeL D (xs.take j)) := hat.map.kept (row := none) ⟨hbl.os, hbl.tape, hbl.output, hbl.size, fun k hk _ => hbl.block k hk⟩ (by simp)
          have hBlt := hat.map.lt
          simp only [World.size_alloc] at hbge
          have hsz := hmap3.size_le
          have hcp := copy_calls (w.heap.size + 1) b _ _ _ _ w3 hB3 hmap3 (by omega) (by unfold maxLen; omega)
          have hw3 := hat.below.trans (hbl.mono hat.below.size)
          have HW := Lib.hid hw3
          clear hr hmap3 hB3 hat hbl hb3
          go_wp2_with fail
          refine hcp.mono ?_
          rintro e w4 ⟨rfl, hm4, hg4⟩
          have hat4 : FreeAt w D xs (w.heap.size + 1) (j + 1) w4 := by
            refine ⟨?_, HW.out.grown hg4 HW.out.size (fun k e => by injection e with e; omega)⟩
            rw [hm1, hn1]
            exact hm4.mono (by omega)
          clear hm4 hg4 hcp hw3
          go_wp2
          go_roundg (gk - 1)
          case measure => omega
          case rel => exact ⟨j + 1, round_next hj hjl, by go_num, hat4⟩
        · obtain rfl : j = xs.length := by omega
          go_wp2
          go_ret
          have h1 := hat.map
          rw [HT.out] at h1
          exact ⟨_, rfl, by omega, h1.mono (by omega), hat.below⟩
end Go.Proofs.YtjaobihcdkjmbaaGreatDoor
end
section
namespace Go.Proofs.YtjaobihcdkjmbaaGreatDoor
open Go.RowKit Go.Maps Go.Sort Go.Proofs.YtjaobihcdkjmbaaGreatDoorW.PrintWords Go.Proofs.YtjaobihcdkjmbaaGreatDoor.PReadTokens
def NamesPost (D : DataW Unit) (w : World) (e : Ending) (w' : World) : Prop :=
  ∃ (v : Value) (ss : List (List UInt8)), e = .returned v ∧ ss.Perm (strKeys D) ∧ w'.ownsRow (w.heap.size + 1) 9 1 v ss.length ((ss.mergeSort (fun x y => decide (x ≤ y))).map encStr) ∧ (v = .slice none 0 0 ↔ ss = []) ∧ Below w.heap.size w w'
set_option maxRecDepth 100000 in
set_option maxHeartbeats 1000000 in
theorem names_calls (b nn : Nat) (D : DataW Unit) (w : World) (hm : MapAt w b nn D) (hn : nn ≤ 1000000000) :
    Calls Tryz.prog 74 #[.map (some b)] w (NamesPost D w) := by
  have hsz := hm.size_le
  have hs := Tryz.slices_Sorted_keys_111_112 b nn D (plainElem Tryz.prog 4) w hm (by unfold maxLen; omega) (by omega)
  refine (callsIn_wide (n := 6)).1 ?_
  have hfK : Fence.wide.fn 112 := trivial
  have hfS : Fence.wide.fn 111 := trivial
  have hD : Fence.wide.depth.isSome = false := rfl
  refine callsIn_of_wp Tryz.func74 rfl trivial ?_
  simp only [Tryz.ntmps74, List.size_toArray, List.length_cons, List.length_nil, Nat.reduceAdd, Nat.reduceSub, Array.replicate_succ, Array.replicate_zero, List.push_toArray, List.append_toArray, List.nil_append, List.cons_append]
  gi_wp2_with (first
    | (gi_at_call 112; refine (Tryz.maps_Keys_112 _ _).mono ?_; rintro e w' ⟨rfl, rfl⟩)
    | (gi_at_call 111; refine hs.mono ?_; rintro e w' ⟨v, ss, rfl, hS, hrow, hnil, hb⟩))
  go_ret
  unfold NamesPost
  refine ⟨v, ss, rfl, hS, by rwa [World.size_alloc] at hrow, hnil, ?_⟩
  exact ((Below.refl _ w).alloc (Nat.le_refl _) _).trans (hb.mono (by simp))
set_option maxRecDepth 100000 in
set_option maxHeartbeats 2000000 in
theorem Free_ok (chk : S28 → Int) (hchk : ∀ r, chk r = 0 → ChkIs chk r) (x : S31) (hd : depthX x ≤ 30) (hn : nodesX x ≤ 1000000000) (hall : allB chk x = true) (hbare : bareB x = true) (v : Value) (w : World) (hv : Vw w x v) (hS : Start w) :
    Calls Tryz.prog 33 #[v] w fun e w' => ∃ (u : Value) (ss : List (List UInt8)) (base : Nat), e = .returned (.tuple #[u, .int .i64 0]) ∧ ss.Perm (strKeys (freeD x)) ∧ w'.ownsRow base 9 1 u ss.length ((ss.mergeSort (fun x y => decide (x ≤ y))).map encStr) ∧ w.heap.size ≤ base ∧ Below w.heap.size w w' := by
  obtain ⟨A, c, rfl, hc1, hc2⟩ := hv.out
  have hck := fun w' (hb : Below w.heap.size w w') => CheckExpr_ok chk hchk x hd (by omega) hall _ w' (hv.below hb) (hS.below hb)
  have hfr := fun w' (hb : Below w.heap.size w w') => free_calls _ x (Nat.le_refl _) (by omega) hbare _ w' (hv.below hb)
  generalize freeD x = D at *
  generalize nodesX x = nn at *
  obtain ⟨f0, f1, f2, f3, xs⟩ := x
  simp only at *
  unfold exV at *
  simp only at *
  have HC := Lib.hid hck
  have HT := Lib.hid hfr
  clear hck hfr hv hS hc2 hall hchk hbare
  go_enter Tryz.func33, Tryz.ntmps33
  go_wp2_with fail
  have hb0 := (Below.refl _ w).alloc (Nat.le_refl _) (.cells #[.int .i64 f0, .string f1.f0, .string f1.f1, .string f2, .int .i64 f3, .slice A xs.length c] 31)
  have hbl := blk_new w (.cells #[.int .i64 f0, .string f1.f0, .string f1.f1, .string f2, .int .i64 f3, .slice A xs.length c] 31)
  refine (HC.out _ hb0).mono ?_
  rintro e w1 ⟨rfl, hb1⟩
  have hbl1 := bcell hb1 hbl
  obtain ⟨⟨q0, q1, q2, q3, q4, q5⟩, _, xl⟩ := cells6 hbl1
  have hbw := hb0.trans (hb1.mono (by simp))
  clear hbl hbl1
  go_wp2_with fail
  refine (HT.out _ hbw).mono ?_
  rintro e w2 ⟨b, rfl, hge, hm, hb2⟩
  have hbx := hbw.trans (hb2.mono hbw.size)
  have hnm := names_calls b nn D w2 hm hn
  unfold NamesPost at hnm
  have HN := Lib.hid hnm
  clear hnm hm
  go_wp2_with fail
  refine HN.out.mono ?_
  rintro e w3 ⟨u, ss, rfl, hp, hrow, hnil, hb3⟩
  have HP := Lib.hid hp
  have HR := Lib.hid hrow
  clear hp hrow hnil
  go_wp2
  refine bodyPost_ret (results_tmp2 rfl _ _ _) rfl ⟨u, ss, w2.heap.size + 1, rfl, HP.out, HR.out, by have := hbx.size; omega, hbx.trans (hb3.mono hbx.size)⟩
end Go.Proofs.YtjaobihcdkjmbaaGreatDoor
end
