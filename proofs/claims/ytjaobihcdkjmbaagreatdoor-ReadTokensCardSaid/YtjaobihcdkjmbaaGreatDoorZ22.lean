/- A part of the proof that the law ReadTokens answers true for every input. -/
import Derived.Deep.RegionHeldLaw
import Derived.Deep.DeepCutAuto
import Derived.Test.YtjaobihcdkjmbaaGreatDoorZ2
import Derived.Test.YtjaobihcdkjmbaaGreatDoorZ8
import Derived.Test.YtjaobihcdkjmbaaGreatDoorZ9
import Derived.Test.YtjaobihcdkjmbaaGreatDoorZ16
import Derived.Test.YtjaobihcdkjmbaaGreatDoorZ21
section
namespace Go.Proofs.YtjaobihcdkjmbaaGreatDoor
open Go.RowKit Go.Proofs.YtjaobihcdkjmbaaGreatDoorW.PrintWords Go.Proofs.YtjaobihcdkjmbaaGreatDoor.PReadTokens
abbrev eB : ByteArray := ⟨#[]⟩
abbrev callL : List ByteArray := [⟨#[102]⟩, ⟨#[103]⟩, ⟨#[104, 50]⟩]
abbrev unitL : List ByteArray := [⟨#[]⟩, ⟨#[]⟩, ⟨#[109]⟩, ⟨#[107, 109, 47, 104]⟩, ⟨#[109, 32, 115, 94, 45, 50]⟩]
abbrev opL : List Int := [2, 3, 4, 5, 6, 3, 5, 7, 8, 9, 10, 11, 12, 13, 14]
def nodeOk (op : Int) (name : ByteArray) (size : Int) (k : Nat) : Prop :=
  (op = 2 ∧ name = eB ∧ size = 0 ∧ k = 1) ∨ ((op = 3 ∨ op = 4 ∨ op = 5 ∨ op = 6 ∨ op = 9) ∧ name = eB ∧ size = 0 ∧ k = 2) ∨ (op = 7 ∧ name = eB ∧ (-9 ≤ size ∧ size ≤ 9) ∧ k = 1) ∨
  (op = 8 ∧ name = eB ∧ size = 0 ∧ (1 ≤ k ∧ k ≤ 3)) ∨ ((op = 10 ∨ op = 11) ∧ name ∈ nameL ∧ (1 ≤ size ∧ size ≤ 99) ∧ k = 1) ∨ (op = 12 ∧ name = eB ∧ size = 0 ∧ k = 4) ∨
  (op = 13 ∧ name ∈ nameL ∧ size = 0 ∧ k = 2) ∨ (op = 14 ∧ name ∈ callL ∧ size = 0 ∧ k ≤ 3)
inductive Made : Nat → S31 → Prop
  | ref (n : Nat) (s : ByteArray) (h : s ∈ nameL) : Made n ⟨1, z28, s, 0, []⟩
  | lit (n : Nat) (p q : Int) (u : ByteArray) (h0 : 0 ≤ p) (h1 : p ≤ 20) (h2 : 1 ≤ q) (h3 : q ≤ 6) (hu : u ∈ unitL) : Made n ⟨0, ratS p q, u, 0, []⟩
  | node (n : Nat) (op : Int) (name : ByteArray) (size : Int) (l : List S31) (h : nodeOk op name size l.length) (hl : ∀ y ∈ l, Made n y) : Made (n + 1) ⟨op, z28, name, size, l⟩
def cost : Nat → Nat
  | 0 => 6
  | n + 1 => 6 + 4 * cost n
theorem cost_pos (n : Nat) : 6 ≤ cost n := by cases n <;> simp [cost]
def MadePost (R N n : Nat) (w : World) (e : Ending) (w' : World) : Prop :=
  ∃ x v, e = .returned v ∧ Made n x ∧ Ex w' (From w.heap.size) x v ∧ Rod w' R (N + cost n) ∧ w.grownBy w' (some R)
theorem Rod.far {w w1 : World} {R N : Nat} {row : Option Nat} (h : Rod w R N) (hg : w.grownBy w1 row) (hr : ∀ b, row = some b → R < b) : Rod w1 R N := by
  obtain ⟨A, l, c, at_, st, h0, h1, h2, hl, h3⟩ := h.out
  have hlt := blk_lt h0
  refine ⟨A, l, c, at_, st, (hg.block R hlt (fun e => by have := hr R e.symm; omega)).trans h0, h1, h2, hl, fun i hi => ?_⟩
  obtain ⟨ad, x, e1, e2, e3⟩ := h3 i hi
  refine ⟨ad, x, e1, ?_, e3⟩
  have hb := hg.block (ad.add i).block (World.block_lt_of_cell? w _ e2) (fun e => by rw [addr_block] at e; have := hr _ e.symm; omega)
  simpa [World.cell?, hb] using e2
theorem grown_row {w w1 w2 : World} {k row : Option Nat} (h : w.grownBy w1 k) (g : w1.grownBy w2 row) (hr : ∀ b, row = some b → w.heap.size ≤ b) : w.grownBy w2 k :=
  ⟨g.os.trans h.os, g.tape.trans h.tape, g.output.trans h.output, Nat.le_trans h.size g.size, fun j hj hn => (g.block j (Nat.lt_of_lt_of_le hj h.size) (fun e => by have := hr j e.symm; omega)).trans (h.block j hj hn)⟩
theorem rname_in (R N : Nat) (w : World) (hR : Rod w R N) (hN : N ≤ 1000000) :
    Calls Tryz.prog 49 #[.pointer (some ⟨R, 0, none⟩)] w fun e w' => (∃ x, e = .returned (.string x) ∧ x ∈ nameL) ∧ Rod w' R (N + 1) ∧ w.grownBy w' (some R) := by
  have hb := (Below.refl w.heap.size w).alloc (Nat.le_refl _) (.cells (nameL.map Value.string).toArray 9)
  have hp := PickText_calls R N ⟨w.heap.size, 0, none⟩ nameL _ (hR.below hb) hN (lit_strs w R nameL hR.lt) (by decide) (by decide)
  go_enter Tryz.func49, Tryz.ntmps49
  go_wp2_with fail
  refine hp.mono ?_
  rintro e w1 ⟨⟨x, rfl, hx⟩, hr, hg⟩
  have hx := Lib.hid hx
  clear hp
  go_wp2
  go_ret
  exact ⟨⟨_, rfl, hx.out⟩, hr, Lib.grownBy_trans (World.grownBy_alloc w _ (some R)) hg⟩
set_option maxRecDepth 100000 in
set_option maxHeartbeats 1000000 in
theorem RefOf_calls (s : ByteArray) (w : World) :
    Calls Tryz.prog 48 #[.string s] w fun e w' => e = .returned (exV ⟨1, z28, s, 0, []⟩ (.slice none 0 0)) ∧ Below w.heap.size w w' := by
  go_enter Tryz.func48, Tryz.ntmps48
  go_wp2
  exact bodyPost_ret (results_c Tryz.results48 _ _ w.heap.size 31 _ (0, 0) _ rfl (blk_new w _) Tryz.underlying31 rfl size31) rfl ⟨rfl, (Below.refl _ w).alloc (Nat.le_refl _) _⟩
structure Grow (w : World) (R X M n : Nat) (op : Int) (name : ByteArray) (size : Int) (xs : List S31) (wr : World) (v5 : Value) : Prop where
  res : wr.heap[w.heap.size]? = some zO
  blk : wr.heap[X]? = some (.cells #[.int .i64 op, .string ⟨#[]⟩, .string ⟨#[]⟩, .string name, .int .i64 size, v5] 31 (0, 0))
  row : k31.R 31 wr 0 (Sx w X) v5 xs
  rod : Rod wr R M
  low : w.grownBy wr (some R)
  far : w.heap.size < X
  own : R < w.heap.size
  all : ∀ y ∈ xs, Made n y
theorem Grow.below {w : World} {R X M n : Nat} {op : Int} {name : ByteArray} {size : Int} {xs : List S31} {wr w1 : World} {v5 : Value} (G : Grow w R X M n op name size xs wr v5) (hb : Below wr.heap.size wr w1) : Grow w R X M n op name size xs w1 v5 :=
  ⟨bcell hb G.res, bcell hb G.blk, Kd.R_below G.row hb, G.rod.below hb, Lib.grownBy_below G.low hb, G.far, G.own, G.all⟩
theorem Grow.next {w : World} {R X M n : Nat} {op : Int} {name : ByteArray} {size : Int} {xs : List S31} {wr w2 w4 : World} {v5 v1 : Value} {y : S31} (G : Grow w R X M n op name size xs wr v5) (hy : Made n y) (r2 : Rod w2 R (M + cost n)) (g2 : wr.grownBy w2 (some R))
    (hrow : k31.R 31 w4 0 (Sx w X) v1 (xs ++ [y])) (hg4 : w2.grownBy w4 v5.ownBlock) :
    w4.heap[X]? = some (.cells #[.int .i64 op, .string ⟨#[]⟩, .string ⟨#[]⟩, .string name, .int .i64 size, v5] 31 (0, 0)) ∧ Grow w R X (M + cost n) n op name size (xs ++ [y]) (w4.setCell ⟨X, 5, none⟩ v1) v1 := by
  have own := G.own
  have far := G.far
  have hb5 : ∀ b, v5.ownBlock = some b → w.heap.size < b ∧ b ≠ X := fun b hb => G.row.1 b hb
  have x2 := grown_blk g2 G.blk (show X ≠ R by omega)
  have z2 := grown_blk g2 G.res (show w.heap.size ≠ R by omega)
  have x4 := (hg4.block X (blk_lt x2) (fun e => (hb5 X e.symm).2 rfl)).trans x2
  have z4 := (hg4.block w.heap.size (blk_lt z2) (fun e => by have := (hb5 _ e.symm).1; omega)).trans z2
  refine ⟨x4, (Below.heap_setCell _ _ _ _ (by show w.heap.size ≠ X; omega)).trans z4, blk_set x4 5 v1, Kd.R_far hrow (p := ⟨X, 5, none⟩) (fun k hk => hk.2) v1,
    (r2.far hg4 (fun b e => by have := (hb5 b e).1; omega)).far (Lib.grownBy_setCell _ _ _ _) (fun b e => by injection e with e; omega),
    grown_row (grown_row (Lib.grownBy_trans G.low g2) hg4 (fun b e => by have := (hb5 b e).1; omega)) (Lib.grownBy_setCell _ _ _ _) (fun b e => by injection e with e; omega), far, own, fun z hz => ?_⟩
  rcases List.mem_append.1 hz with hz | hz
  · exact G.all z hz
  · rw [List.mem_singleton.1 hz]; exact hy
theorem Rod.put {w : World} {R N X : Nat} (h : Rod w R N) (hX : R < X) (i : Nat) (v : Value) : Rod (w.setCell ⟨X, i, none⟩ v) R N := h.far (Lib.grownBy_setCell _ _ _ _) (fun b e => by injection e with e; omega)
theorem grown_put {w w1 : World} {R X : Nat} (h : w.grownBy w1 (some R)) (hX : w.heap.size ≤ X) (i : Nat) (v : Value) : w.grownBy (w1.setCell ⟨X, i, none⟩ v) (some R) := grown_set h ⟨X, i, none⟩ hX v
theorem toNat_val {x : Int} (h : 0 ≤ x) : Value.int .i64 x = .int .i64 (x.toNat : Nat) := by rw [Int.toNat_of_nonneg h]
theorem nodeOk_le {op : Int} {name : ByteArray} {size : Int} {k : Nat} (h : nodeOk op name size k) : k ≤ 4 := by
  rcases h with h | h | h | h | h | h | h | h <;> omega
set_option maxRecDepth 100000 in
set_option maxHeartbeats 4000000 in
theorem ExprOf_leaf (R N : Nat) (w : World) (hR : Rod w R N) (hN : N ≤ 900000) (n : Int) (hn : n < 2) :
    Calls Tryz.prog 13 #[.pointer (some ⟨R, 0, none⟩), .int .i64 n] w (MadePost R N 0 w) := by
  have hRl := hR.lt
  have b0 := (Below.refl w.heap.size w).alloc (Nat.le_refl _) zO
  have rq := hR.below b0
  have zq : (w.alloc zO).heap[w.heap.size]? = some zO := blk_new w zO
  have gq : w.grownBy (w.alloc zO) (some R) := World.grownBy_alloc w _ _
  have hd : decide (n < 2) = true := decide_eq_true hn
  have hc0 : cost 0 = 6 := rfl
  clear hR
  go_enter Tryz.func13, Tryz.ntmps13
  go_wp2_with fail
  have HO := Once_calls R (N) 2 _ rq (by omega) (by omega) (by omega)
  refine HO.mono ?_
  rintro e w1 ⟨⟨y, rfl⟩, r1, g1⟩
  have z1 := grown_blk g1 zq (by omega)
  have g1 := Lib.grownBy_trans gq g1
  clear HO rq zq gq
  cases y with
  | true =>
    have HN := rname_in R (N + 1) _ r1 (by omega)
    go_wp2_with fail
    refine HN.mono ?_
    rintro e w2 ⟨⟨s, rfl, hs⟩, r2, g2⟩
    have hs := Lib.hid hs
    have z2 := grown_blk g2 z1 (by omega)
    have g2 := Lib.grownBy_trans g1 g2
    clear HN
    go_wp2_with fail
    refine (RefOf_calls s _).mono ?_
    rintro e w3 ⟨rfl, hb3⟩
    have z3 := bcell hb3 z2
    have r3 := r2.below hb3
    have g3 := Lib.grownBy_below g2 hb3
    obtain ⟨⟨q0, q1, q2, q3, q4, q5⟩, ⟨f0, f1, f2, f3, f4, f5⟩, xl2⟩ := cells6 z3
    unfold exV
    go_wp2
    exact bodyPost_ret (results_c Tryz.results13 _ _ w.heap.size 31 _ (0, 0) _ rfl (fin6 _ _ _ _ _ _ z3) Tryz.underlying31 rfl size31) rfl
      ⟨⟨1, z28, s, 0, []⟩, _, rfl, .ref _ s hs.out, Ex.leaf (w := set6 w3 w.heap.size _ _ _ _ _ _) _ rfl, ((r3.more (by omega)).far (grown6 _ _ _ _ _ _ _) (fun b e => by injection e with e; omega)), grown_row g3 (grown6 _ _ _ _ _ _ _) (fun b e => by injection e with e; omega)⟩
  | false =>
    have HU := Up_calls R (N + 1) 20 _ r1 (by omega) (by omega) (by omega)
    go_wp2_with fail
    refine HU.mono ?_
    rintro e w2 ⟨⟨p, rfl, hp0, hp1⟩, r2, g2⟩
    have z2 := grown_blk g2 z1 (by omega)
    have g2 := Lib.grownBy_trans g1 g2
    clear HU r1 z1 g1
    go_wp2_with fail
    have hbA := (Below.refl w2.heap.size w2).alloc (Nat.le_refl _) (.cells (([1, 1, 6] : List Int).map (Value.int .i64)).toArray 3)
    refine (Pick_calls R (N + 2) ⟨w2.heap.size, 0, none⟩ [1, 1, 6] _ (r2.below hbA) (by omega) (lit_nums w2 R [1, 1, 6] r2.lt) (by decide) (by decide)).mono ?_
    rintro e w3 ⟨⟨q0, rfl, hq⟩, r3, g3⟩
    have hq : 1 ≤ q0 ∧ q0 ≤ 6 := by simp at hq; omega
    have z3 := grown_blk g3 (bcell hbA z2) (by omega)
    have g3 := Lib.grownBy_trans (Lib.grownBy_below g2 hbA) g3
    obtain ⟨hq1, hq2⟩ := hq
    clear hbA r2 z2 g2
    go_wp2_with fail
    refine (From_calls R (N + 3) 1 q0 _ r3 (by omega) (by omega) (by omega) (by omega)).mono ?_
    rintro e w4 ⟨⟨q, rfl, hq3, hq4⟩, r4, g4⟩
    have z4 := grown_blk g4 z3 (by omega)
    have g4 := Lib.grownBy_trans g3 g4
    clear r3 z3 g3
    go_wp2_with fail
    refine (RatOf_calls p q hp0 hp1 hq3 (by omega) _).mono ?_
    rintro e w5 ⟨rfl, hb5⟩
    have z5 := bcell hb5 z4
    have r5 := r4.below hb5
    have g5 := Lib.grownBy_below g4 hb5
    clear r4 z4 g4
    go_wp2_with fail
    have hbB := (Below.refl w5.heap.size w5).alloc (Nat.le_refl _) (.cells (unitL.map Value.string).toArray 9)
    refine (PickText_calls R (N + 4) ⟨w5.heap.size, 0, none⟩ unitL _ (r5.below hbB) (by omega) (lit_strs w5 R unitL r5.lt) (by decide) (by decide)).mono ?_
    rintro e w6 ⟨⟨u, rfl, hu⟩, r6, g6⟩
    have hu := Lib.hid hu
    have z6 := grown_blk g6 (bcell hbB z5) (by omega)
    have g6 := Lib.grownBy_trans (Lib.grownBy_below g5 hbB) g6
    clear hbB r5 z5 g5
    obtain ⟨⟨q0', q1', q2', q3', q4', q5'⟩, ⟨f0, f1, f2, f3, f4, f5⟩, xl2⟩ := cells6 z6
    go_wp2
    exact bodyPost_ret (results_c Tryz.results13 _ _ w.heap.size 31 _ (0, 0) _ rfl (fin6 _ _ _ _ _ _ z6) Tryz.underlying31 rfl size31) rfl
      ⟨⟨0, ratS p q, u, 0, []⟩, _, rfl, .lit _ p q u hp0 hp1 hq3 (by omega) hu.out, Ex.leaf (w := set6 w6 w.heap.size _ _ _ _ _ _) _ rfl, ((r6.more (by omega)).far (grown6 _ _ _ _ _ _ _) (fun b e => by injection e with e; omega)), grown_row g6 (grown6 _ _ _ _ _ _ _) (fun b e => by injection e with e; omega)⟩
end Go.Proofs.YtjaobihcdkjmbaaGreatDoor
end
section
namespace Go.Proofs.YtjaobihcdkjmbaaGreatDoor
open Go.RowKit Go.Proofs.YtjaobihcdkjmbaaGreatDoorW.PrintWords Go.Proofs.YtjaobihcdkjmbaaGreatDoorW.PrintLast Go.Proofs.YtjaobihcdkjmbaaGreatDoor.PReadTokens
set_option maxRecDepth 100000 in
set_option maxHeartbeats 8000000 in
theorem ExprOf_step (R N n : Nat) (m : Int) (w : World) (hR : Rod w R N) (hN : N + cost (n + 1) ≤ 900000) (hm : 2 ≤ m) (hm1 : m ≤ 1000)
    (ih : ∀ M w, Rod w R M → M + cost n ≤ 900000 → Calls Tryz.prog 13 #[.pointer (some ⟨R, 0, none⟩), .int .i64 (m - 1)] w (MadePost R M n w)) :
    Calls Tryz.prog 13 #[.pointer (some ⟨R, 0, none⟩), .int .i64 m] w (MadePost R N (n + 1) w) := by
  have hRl := hR.lt
  have b0 := (Below.refl w.heap.size w).alloc (Nat.le_refl _) zO
  have rp := hR.below b0
  have zp : (w.alloc zO).heap[w.heap.size]? = some zO := blk_new w zO
  have gp : w.grownBy (w.alloc zO) (some R) := World.grownBy_alloc w _ _
  have hd : decide (m < 2) = false := decide_eq_false (by omega)
  have hc0 : 6 + 4 * cost n ≤ cost (n + 1) := Nat.le_refl _
  have hc1 := cost_pos n
  have HI := Lib.hid ih
  clear hR ih
  go_enter Tryz.func13, Tryz.ntmps13
  go_wp2_with fail
  have HO0 := Once_calls R N 5 _ rp (by omega) (by omega) (by omega)
  refine HO0.mono ?_
  rintro e w0 ⟨⟨y0, rfl⟩, rq, g0⟩
  have zq := grown_blk g0 zp (by omega)
  have gq := Lib.grownBy_trans gp g0
  clear HO0 rp zp gp g0
  cases y0 with
  | true =>
    go_wp2_with fail
    have HO := Once_calls R (N + 1) 2 _ rq (by omega) (by omega) (by omega)
    refine HO.mono ?_
    rintro e w1 ⟨⟨y, rfl⟩, r1, g1⟩
    have z1 := grown_blk g1 zq (by omega)
    have g1 := Lib.grownBy_trans gq g1
    clear HO rq zq gq
    cases y with
    | true =>
      have HN := rname_in R (N + 1 + 1) _ r1 (by omega)
      go_wp2_with fail
      refine HN.mono ?_
      rintro e w2 ⟨⟨s, rfl, hs⟩, r2, g2⟩
      have hs := Lib.hid hs
      have z2 := grown_blk g2 z1 (by omega)
      have g2 := Lib.grownBy_trans g1 g2
      clear HN
      go_wp2_with fail
      refine (RefOf_calls s _).mono ?_
      rintro e w3 ⟨rfl, hb3⟩
      have z3 := bcell hb3 z2
      have r3 := r2.below hb3
      have g3 := Lib.grownBy_below g2 hb3
      obtain ⟨⟨q0, q1, q2, q3, q4, q5⟩, ⟨f0, f1, f2, f3, f4, f5⟩, xl2⟩ := cells6 z3
      unfold exV
      go_wp2
      exact bodyPost_ret (results_c Tryz.results13 _ _ w.heap.size 31 _ (0, 0) _ rfl (fin6 _ _ _ _ _ _ z3) Tryz.underlying31 rfl size31) rfl
        ⟨⟨1, z28, s, 0, []⟩, _, rfl, .ref _ s hs.out, Ex.leaf (w := set6 w3 w.heap.size _ _ _ _ _ _) _ rfl, ((r3.more (by omega)).far (grown6 _ _ _ _ _ _ _) (fun b e => by injection e with e; omega)), grown_row g3 (grown6 _ _ _ _ _ _ _) (fun b e => by injection e with e; omega)⟩
    | false =>
      have HU := Up_calls R (N + 1 + 1) 20 _ r1 (by omega) (by omega) (by omega)
      go_wp2_with fail
      refine HU.mono ?_
      rintro e w2 ⟨⟨p, rfl, hp0, hp1⟩, r2, g2⟩
      have z2 := grown_blk g2 z1 (by omega)
      have g2 := Lib.grownBy_trans g1 g2
      clear HU r1 z1 g1
      go_wp2_with fail
      have hbA := (Below.refl w2.heap.size w2).alloc (Nat.le_refl _) (.cells (([1, 1, 6] : List Int).map (Value.int .i64)).toArray 3)
      refine (Pick_calls R (N + 1 + 2) ⟨w2.heap.size, 0, none⟩ [1, 1, 6] _ (r2.below hbA) (by omega) (lit_nums w2 R [1, 1, 6] r2.lt) (by decide) (by decide)).mono ?_
      rintro e w3 ⟨⟨q0, rfl, hq⟩, r3, g3⟩
      have hq : 1 ≤ q0 ∧ q0 ≤ 6 := by simp at hq; omega
      have z3 := grown_blk g3 (bcell hbA z2) (by omega)
      have g3 := Lib.grownBy_trans (Lib.grownBy_below g2 hbA) g3
      obtain ⟨hq1, hq2⟩ := hq
      clear hbA r2 z2 g2
      go_wp2_with fail
      refine (From_calls R (N + 1 + 3) 1 q0 _ r3 (by omega) (by omega) (by omega) (by omega)).mono ?_
      rintro e w4 ⟨⟨q, rfl, hq3, hq4⟩, r4, g4⟩
      have z4 := grown_blk g4 z3 (by omega)
      have g4 := Lib.grownBy_trans g3 g4
      clear r3 z3 g3
      go_wp2_with fail
      refine (RatOf_calls p q hp0 hp1 hq3 (by omega) _).mono ?_
      rintro e w5 ⟨rfl, hb5⟩
      have z5 := bcell hb5 z4
      have r5 := r4.below hb5
      have g5 := Lib.grownBy_below g4 hb5
      clear r4 z4 g4
      go_wp2_with fail
      have hbB := (Below.refl w5.heap.size w5).alloc (Nat.le_refl _) (.cells (unitL.map Value.string).toArray 9)
      refine (PickText_calls R (N + 1 + 4) ⟨w5.heap.size, 0, none⟩ unitL _ (r5.below hbB) (by omega) (lit_strs w5 R unitL r5.lt) (by decide) (by decide)).mono ?_
      rintro e w6 ⟨⟨u, rfl, hu⟩, r6, g6⟩
      have hu := Lib.hid hu
      have z6 := grown_blk g6 (bcell hbB z5) (by omega)
      have g6 := Lib.grownBy_trans (Lib.grownBy_below g5 hbB) g6
      clear hbB r5 z5 g5
      obtain ⟨⟨q0', q1', q2', q3', q4', q5'⟩, ⟨f0, f1, f2, f3, f4, f5⟩, xl2⟩ := cells6 z6
      go_wp2
      exact bodyPost_ret (results_c Tryz.results13 _ _ w.heap.size 31 _ (0, 0) _ rfl (fin6 _ _ _ _ _ _ z6) Tryz.underlying31 rfl size31) rfl
        ⟨⟨0, ratS p q, u, 0, []⟩, _, rfl, .lit _ p q u hp0 hp1 hq3 (by omega) hu.out, Ex.leaf (w := set6 w6 w.heap.size _ _ _ _ _ _) _ rfl, ((r6.more (by omega)).far (grown6 _ _ _ _ _ _ _) (fun b e => by injection e with e; omega)), grown_row g6 (grown6 _ _ _ _ _ _ _) (fun b e => by injection e with e; omega)⟩
  | false =>
    go_wp2_with fail
    have hbA := (Below.refl w0.heap.size w0).alloc (Nat.le_refl _) (.cells (opL.map (Value.int .i64)).toArray 3)
    refine (Pick_calls R (N + 1) ⟨w0.heap.size, 0, none⟩ opL _ (rq.below hbA) (by omega) (lit_nums w0 R opL rq.lt) (by decide) (by decide)).mono ?_
    rintro e w1 ⟨⟨op, rfl, hop⟩, r1, g1⟩
    have z1 := grown_blk g1 (bcell hbA zq) (by omega)
    have g1 := Lib.grownBy_trans (Lib.grownBy_below gq hbA) g1
    have hop := Lib.hid hop
    clear hbA rq zq gq
    go_upto_block 0 with (fail)
    have hX := blk_new w1 (.cells #[.int .i64 op, .string ⟨#[]⟩, .string ⟨#[]⟩, .string ⟨#[]⟩, .int .i64 0, .slice none 0 0] 31)
    have zX := (Below.heap_alloc w1 (.cells #[.int .i64 op, .string ⟨#[]⟩, .string ⟨#[]⟩, .string ⟨#[]⟩, .int .i64 0, .slice none 0 0] 31) _ (blk_lt z1)).trans z1
    have hBX := (Below.refl w1.heap.size w1).alloc (Nat.le_refl _) (.cells #[.int .i64 op, .string ⟨#[]⟩, .string ⟨#[]⟩, .string ⟨#[]⟩, .int .i64 0, .slice none 0 0] 31)
    have rX := r1.below hBX
    have gX := Lib.grownBy_below g1 hBX
    have hXw : w.heap.size < w1.heap.size := blk_lt z1
    generalize hXX : w1.heap.size = X at *
    generalize w1.alloc (.cells #[.int .i64 op, .string ⟨#[]⟩, .string ⟨#[]⟩, .string ⟨#[]⟩, .int .i64 0, .slice none 0 0] 31) = W at *
    clear hBX r1 z1 g1 hXX
    go_cut [6] (fun v6 wc => ∃ (many : Nat) (name : ByteArray) (size : Int), v6 = .int .i64 many ∧ Hid (nodeOk op name size many) ∧ Rod wc R (N + 5) ∧ Hid (wc.heap[X]? = some (.cells #[.int .i64 op, .string ⟨#[]⟩, .string ⟨#[]⟩, .string name, .int .i64 size, .slice none 0 0] 31 (0, 0))) ∧ Hid (wc.heap[w.heap.size]? = some zO) ∧ w.grownBy wc (some R))
    case first =>
      have hmem := hop.out
      simp only [opL, List.mem_cons, List.not_mem_nil, or_false] at hmem
      have hXl := blk_lt hX
      obtain ⟨⟨q0, q1, q2, q3, q4, q5⟩, ⟨f0, f1, f2, f3, f4, f5⟩, xl2⟩ := cells6 hX
      rcases hmem with rfl | rfl | rfl | rfl | rfl | rfl | rfl | rfl | rfl | rfl | rfl | rfl | rfl | rfl | rfl
      · go_wp2
        go_meet
        exact ⟨1, eB, 0, rfl, Lib.hid (.inl ⟨rfl, rfl, rfl, rfl⟩), rX.more (by omega), Lib.hid hX, Lib.hid zX, gX⟩
      · go_wp2
        go_meet
        exact ⟨2, eB, 0, rfl, Lib.hid (.inr (.inl ⟨by simp, rfl, rfl, rfl⟩)), rX.more (by omega), Lib.hid hX, Lib.hid zX, gX⟩
      · go_wp2
        go_meet
        exact ⟨2, eB, 0, rfl, Lib.hid (.inr (.inl ⟨by simp, rfl, rfl, rfl⟩)), rX.more (by omega), Lib.hid hX, Lib.hid zX, gX⟩
      · go_wp2
        go_meet
        exact ⟨2, eB, 0, rfl, Lib.hid (.inr (.inl ⟨by simp, rfl, rfl, rfl⟩)), rX.more (by omega), Lib.hid hX, Lib.hid zX, gX⟩
      · go_wp2
        go_meet
        exact ⟨2, eB, 0, rfl, Lib.hid (.inr (.inl ⟨by simp, rfl, rfl, rfl⟩)), rX.more (by omega), Lib.hid hX, Lib.hid zX, gX⟩
      · go_wp2
        go_meet
        exact ⟨2, eB, 0, rfl, Lib.hid (.inr (.inl ⟨by simp, rfl, rfl, rfl⟩)), rX.more (by omega), Lib.hid hX, Lib.hid zX, gX⟩
      · go_wp2
        go_meet
        exact ⟨2, eB, 0, rfl, Lib.hid (.inr (.inl ⟨by simp, rfl, rfl, rfl⟩)), rX.more (by omega), Lib.hid hX, Lib.hid zX, gX⟩
      · clear q0 q1 q2 q3 q4 q5 f0 f1 f2 f3 f4 f5
        go_wp2_with fail
        refine (From_calls R (N + 1 + 1) (-9) 9 _ rX (by omega) (by omega) (by omega) (by omega)).mono ?_
        rintro e w2 ⟨⟨x, rfl, hx0, hx1⟩, r2, g2⟩
        have hX2 := grown_blk g2 hX (by omega)
        have zX2 := grown_blk g2 zX (by omega)
        have gX2 := Lib.grownBy_trans gX g2
        obtain ⟨⟨q0, q1, q2, q3, q4, q5⟩, ⟨f0, f1, f2, f3, f4, f5⟩, xl2⟩ := cells6 hX2
        go_wp2
        go_meet
        exact ⟨1, eB, x, rfl, Lib.hid (.inr (.inr (.inl ⟨rfl, rfl, ⟨hx0, hx1⟩, rfl⟩))), (r2.more (by omega)).put (by omega) 4 _, Lib.hid (blk_set hX2 4 _), Lib.hid ((Below.heap_setCell _ _ _ _ (by show w.heap.size ≠ X; omega)).trans zX2), grown_put gX2 (by omega) 4 _⟩
      · clear q0 q1 q2 q3 q4 q5 f0 f1 f2 f3 f4 f5
        go_wp2_with fail
        refine (From_calls R (N + 1 + 1) 1 3 _ rX (by omega) (by omega) (by omega) (by omega)).mono ?_
        rintro e w2 ⟨⟨x, rfl, hx0, hx1⟩, r2, g2⟩
        have hX2 := grown_blk g2 hX (by omega)
        have zX2 := grown_blk g2 zX (by omega)
        have gX2 := Lib.grownBy_trans gX g2
        obtain ⟨⟨q0, q1, q2, q3, q4, q5⟩, ⟨f0, f1, f2, f3, f4, f5⟩, xl2⟩ := cells6 hX2
        go_wp2
        go_meet
        exact ⟨x.toNat, eB, 0, toNat_val (by omega), Lib.hid (.inr (.inr (.inr (.inl ⟨rfl, rfl, rfl, by omega, by omega⟩)))), r2.more (by omega), Lib.hid hX2, Lib.hid zX2, gX2⟩
      · go_wp2
        go_meet
        exact ⟨2, eB, 0, rfl, Lib.hid (.inr (.inl ⟨by simp, rfl, rfl, rfl⟩)), rX.more (by omega), Lib.hid hX, Lib.hid zX, gX⟩
      · clear q0 q1 q2 q3 q4 q5 f0 f1 f2 f3 f4 f5
        go_wp2_with fail
        refine (rname_in R (N + 1 + 1) _ rX (by omega)).mono ?_
        rintro e w2 ⟨⟨s, rfl, hs⟩, r2, g2⟩
        have hs := Lib.hid hs
        have hX2 := grown_blk g2 hX (by omega)
        have zX2 := grown_blk g2 zX (by omega)
        have gX2 := Lib.grownBy_trans gX g2
        go_wp2_with fail
        have hbA := (Below.refl w2.heap.size w2).alloc (Nat.le_refl _) (.cells (([3, 99] : List Int).map (Value.int .i64)).toArray 3)
        refine (Pick_calls R (N + 1 + 1 + 1) ⟨w2.heap.size, 0, none⟩ [3, 99] _ (r2.below hbA) (by omega) (lit_nums w2 R [3, 99] r2.lt) (by decide) (by decide)).mono ?_
        rintro e w3 ⟨⟨t, rfl, ht⟩, r3, g3⟩
        have ht : 1 ≤ t ∧ t ≤ 99 := by simp at ht; omega
        obtain ⟨ht1, ht2⟩ := ht
        have hX3 := grown_blk g3 (bcell hbA hX2) (by omega)
        have zX3 := grown_blk g3 (bcell hbA zX2) (by omega)
        have gX3 := Lib.grownBy_trans (Lib.grownBy_below gX2 hbA) g3
        clear hbA hX2 zX2 gX2 g2 r2
        go_wp2_with fail
        refine (From_calls R (N + 1 + 1 + 1 + 1) 1 t _ r3 (by omega) (by omega) (by omega) (by omega)).mono ?_
        rintro e w4 ⟨⟨x, rfl, hx0, hx1⟩, r4, g4⟩
        have hX4 := grown_blk g4 hX3 (by omega)
        have zX4 := grown_blk g4 zX3 (by omega)
        have gX4 := Lib.grownBy_trans gX3 g4
        obtain ⟨⟨q0, q1, q2, q3, q4, q5⟩, ⟨f0, f1, f2, f3, f4, f5⟩, xl2⟩ := cells6 hX4
        go_wp2
        go_meet
        exact ⟨1, s, x, rfl, Lib.hid (.inr (.inr (.inr (.inr (.inl ⟨by simp, hs.out, ⟨hx0, by omega⟩, rfl⟩))))), ((r4.more (by omega)).put (by omega) 3 _).put (by omega) 4 _, Lib.hid (blk_set (blk_set hX4 3 _) 4 _), Lib.hid ((Below.heap_setCell _ _ _ _ (by show w.heap.size ≠ X; omega)).trans ((Below.heap_setCell _ _ _ _ (by show w.heap.size ≠ X; omega)).trans zX4)), grown_put (grown_put gX4 (by omega) 3 _) (by omega) 4 _⟩
      · clear q0 q1 q2 q3 q4 q5 f0 f1 f2 f3 f4 f5
        go_wp2_with fail
        refine (rname_in R (N + 1 + 1) _ rX (by omega)).mono ?_
        rintro e w2 ⟨⟨s, rfl, hs⟩, r2, g2⟩
        have hs := Lib.hid hs
        have hX2 := grown_blk g2 hX (by omega)
        have zX2 := grown_blk g2 zX (by omega)
        have gX2 := Lib.grownBy_trans gX g2
        go_wp2_with fail
        have hbA := (Below.refl w2.heap.size w2).alloc (Nat.le_refl _) (.cells (([3, 99] : List Int).map (Value.int .i64)).toArray 3)
        refine (Pick_calls R (N + 1 + 1 + 1) ⟨w2.heap.size, 0, none⟩ [3, 99] _ (r2.below hbA) (by omega) (lit_nums w2 R [3, 99] r2.lt) (by decide) (by decide)).mono ?_
        rintro e w3 ⟨⟨t, rfl, ht⟩, r3, g3⟩
        have ht : 1 ≤ t ∧ t ≤ 99 := by simp at ht; omega
        obtain ⟨ht1, ht2⟩ := ht
        have hX3 := grown_blk g3 (bcell hbA hX2) (by omega)
        have zX3 := grown_blk g3 (bcell hbA zX2) (by omega)
        have gX3 := Lib.grownBy_trans (Lib.grownBy_below gX2 hbA) g3
        clear hbA hX2 zX2 gX2 g2 r2
        go_wp2_with fail
        refine (From_calls R (N + 1 + 1 + 1 + 1) 1 t _ r3 (by omega) (by omega) (by omega) (by omega)).mono ?_
        rintro e w4 ⟨⟨x, rfl, hx0, hx1⟩, r4, g4⟩
        have hX4 := grown_blk g4 hX3 (by omega)
        have zX4 := grown_blk g4 zX3 (by omega)
        have gX4 := Lib.grownBy_trans gX3 g4
        obtain ⟨⟨q0, q1, q2, q3, q4, q5⟩, ⟨f0, f1, f2, f3, f4, f5⟩, xl2⟩ := cells6 hX4
        go_wp2
        go_meet
        exact ⟨1, s, x, rfl, Lib.hid (.inr (.inr (.inr (.inr (.inl ⟨by simp, hs.out, ⟨hx0, by omega⟩, rfl⟩))))), ((r4.more (by omega)).put (by omega) 3 _).put (by omega) 4 _, Lib.hid (blk_set (blk_set hX4 3 _) 4 _), Lib.hid ((Below.heap_setCell _ _ _ _ (by show w.heap.size ≠ X; omega)).trans ((Below.heap_setCell _ _ _ _ (by show w.heap.size ≠ X; omega)).trans zX4)), grown_put (grown_put gX4 (by omega) 3 _) (by omega) 4 _⟩
      · go_wp2
        go_meet
        exact ⟨4, eB, 0, rfl, Lib.hid (.inr (.inr (.inr (.inr (.inr (.inl ⟨rfl, rfl, rfl, rfl⟩)))))), rX.more (by omega), Lib.hid hX, Lib.hid zX, gX⟩
      · clear q0 q1 q2 q3 q4 q5 f0 f1 f2 f3 f4 f5
        go_wp2_with fail
        refine (rname_in R (N + 1 + 1) _ rX (by omega)).mono ?_
        rintro e w2 ⟨⟨s, rfl, hs⟩, r2, g2⟩
        have hs := Lib.hid hs
        have hX2 := grown_blk g2 hX (by omega)
        have zX2 := grown_blk g2 zX (by omega)
        have gX2 := Lib.grownBy_trans gX g2
        obtain ⟨⟨q0, q1, q2, q3, q4, q5⟩, ⟨f0, f1, f2, f3, f4, f5⟩, xl2⟩ := cells6 hX2
        go_wp2
        go_meet
        exact ⟨2, s, 0, rfl, Lib.hid (.inr (.inr (.inr (.inr (.inr (.inr (.inl ⟨rfl, hs.out, rfl, rfl⟩))))))), (r2.more (by omega)).put (by omega) 3 _, Lib.hid (blk_set hX2 3 _), Lib.hid ((Below.heap_setCell _ _ _ _ (by show w.heap.size ≠ X; omega)).trans zX2), grown_put gX2 (by omega) 3 _⟩
      · clear q0 q1 q2 q3 q4 q5 f0 f1 f2 f3 f4 f5
        go_wp2_with fail
        refine (Up_calls R (N + 1 + 1) 3 _ rX (by omega) (by omega) (by omega)).mono ?_
        rintro e w2 ⟨⟨x, rfl, hx0, hx1⟩, r2, g2⟩
        have hX2 := grown_blk g2 hX (by omega)
        have zX2 := grown_blk g2 zX (by omega)
        have gX2 := Lib.grownBy_trans gX g2
        go_wp2_with fail
        have hbB := (Below.refl w2.heap.size w2).alloc (Nat.le_refl _) (.cells (callL.map Value.string).toArray 9)
        refine (PickText_calls R (N + 1 + 1 + 1) ⟨w2.heap.size, 0, none⟩ callL _ (r2.below hbB) (by omega) (lit_strs w2 R callL r2.lt) (by decide) (by decide)).mono ?_
        rintro e w3 ⟨⟨s, rfl, hs⟩, r3, g3⟩
        have hs := Lib.hid hs
        have hX3 := grown_blk g3 (bcell hbB hX2) (by omega)
        have zX3 := grown_blk g3 (bcell hbB zX2) (by omega)
        have gX3 := Lib.grownBy_trans (Lib.grownBy_below gX2 hbB) g3
        clear hbB hX2 zX2 gX2 g2 r2
        obtain ⟨⟨q0, q1, q2, q3, q4, q5⟩, ⟨f0, f1, f2, f3, f4, f5⟩, xl2⟩ := cells6 hX3
        go_wp2
        go_meet
        exact ⟨x.toNat, s, 0, toNat_val (by omega), Lib.hid (.inr (.inr (.inr (.inr (.inr (.inr (.inr ⟨rfl, hs.out, rfl, by omega⟩))))))), (r3.more (by omega)).put (by omega) 3 _, Lib.hid (blk_set hX3 3 _), Lib.hid ((Below.heap_setCell _ _ _ _ (by show w.heap.size ≠ X; omega)).trans zX3), grown_put gX3 (by omega) 3 _⟩
    case rest =>
      obtain ⟨many, name, size, rfl, hk, rc, hX, zc, gc⟩ := hcut
      have hmany := nodeOk_le hk.out
      have G0 : Grow w R X (N + 5 + 0 * cost n) n op name size [] wc (.slice none 0 0) := ⟨zc.out, hX.out, Kd.R_nil _ _ _ _ _, rc.more (by omega), gc, hXw, hRl, fun y hy => by cases hy⟩
      have hsub : IntKind.i64.wrap (m - 1) = m - 1 := by simp [IntKind.wrap, IntKind.bits, IntKind.signed]; omega
      clear hX zc gc rc zX rX gX hop
      go_wp2_with fail
      go_loopg [7] many (fun k v7 wr => ∃ (j : Nat) (xs : List S31) (v5 : Value), v7 = .int .i64 j ∧ j + k = many ∧ Hid (xs.length = j) ∧ Grow w R X (N + 5 + j * cost n) n op name size xs wr v5)
      case atStart => exact ⟨0, [], _, rfl, by omega, Lib.hid rfl, G0⟩
      case round =>
        clear G0
        obtain ⟨j, xs, v5, rfl, hjk, hxl, G⟩ := hrel
        by_cases hj : j < many
        · have Gd := G.below ((Below.refl _ wr).drew)
          obtain ⟨A, c, rfl⟩ := Kd.R_slice G.row
          have hbound : N + 5 + j * cost n + cost n ≤ 900000 := by
            have := Nat.mul_le_mul_right (cost n) (show j + 1 ≤ 4 by omega)
            rw [Nat.add_mul, Nat.one_mul] at this
            omega
          have hcall := HI.out _ _ Gd.rod hbound
          have KK : wr.drew.cell? ⟨X, 5, none⟩ = some (.slice A xs.length c) := blk_cell Gd.blk 5
          have hlen : (xs.length + 1) * 88 ≤ 140737488355328 := by have := hxl.out; omega
          clear G
          go_wp2_with fail
          refine start_ (n := 10) (S := fun w' => w'.cell? ⟨X, 5, none⟩ = some (.slice A xs.length c)) (ds := [9]) #[false, false, false, false, false, false, false, false, false, false] (by kernel_rfl) rfl rfl (KK) (fun hHeld => ?_)
          refine pure_ (i := 0) (N := some 80) (v := ?_) (a' := ?_) #[true, false, false, false, false, false, false, false, false, false] rfl rfl (by kernel_rfl) (fun _ _ _ h => h) (Or.inl ⟨by rfl, ?_⟩) ?_ ?_
          rotate_left
          · intro w'
            go_simp
            with_reducible rfl
          rotate_left
          · simp only [Act.put, List.setIfInBounds_toArray, List.set_cons_zero, List.set_cons_succ, i64_w, i32_w]
            rfl
          refine pure_ (i := 2) (N := some 82) (v := ?_) (a' := ?_) #[true, false, true, false, false, false, false, false, false, false] rfl rfl (by kernel_rfl) (fun _ _ _ h => h) (Or.inl ⟨by rfl, ?_⟩) ?_ ?_
          rotate_left
          · intro w'
            go_simp
            with_reducible rfl
          rotate_left
          · simp only [Act.put, List.setIfInBounds_toArray, List.set_cons_zero, List.set_cons_succ, i64_w, i32_w]
            rfl
          refine pure_ (i := 3) (N := some 83) (v := ?_) (a' := ?_) #[true, false, true, true, false, false, false, false, false, false] rfl rfl (by kernel_rfl) (fun _ _ _ h => h) (Or.inl ⟨by rfl, ?_⟩) ?_ ?_
          rotate_left
          · intro w'
            go_simp
            with_reducible rfl
          rotate_left
          · simp only [Act.put, List.setIfInBounds_toArray, List.set_cons_zero, List.set_cons_succ, i64_w, i32_w]
            rfl
          refine pure_ (i := 4) (N := some 84) (v := ?_) (a' := ?_) #[true, false, true, true, true, false, false, false, false, false] rfl rfl (by kernel_rfl) (fun _ _ _ h => h) (Or.inl ⟨by rfl, ?_⟩) ?_ ?_
          rotate_left
          · intro w'
            go_simp
            with_reducible rfl
          rotate_left
          · simp only [Act.put, List.setIfInBounds_toArray, List.set_cons_zero, List.set_cons_succ, i64_w, i32_w]
            rfl
          refine take_ (i := 1) (N := some 81) (v := ?_) (a' := ?_) #[true, true, true, true, true, false, false, false, false, false] rfl rfl (by kernel_rfl) (fun _ _ _ h => h) (Or.inl ⟨by rfl, ?_⟩) hHeld ?_ ?_
          rotate_left
          · intro w' s0
            go_simp
            with_reducible rfl
          rotate_left
          · simp only [Act.put, List.setIfInBounds_toArray, List.set_cons_zero, List.set_cons_succ, i64_w, i32_w]
            rfl
          refine one_ (i := 5) (N := some 85) #[true, true, true, true, true, true, false, false, false, false] rfl rfl (by kernel_rfl) (by decide) (fun K hK => ?_)
          refine goes_ Tryz.func13 (by kernel_rfl) rfl #[.pointer (some ⟨R, 0, none⟩), .int .i64 (m - 1)] (by rfl) rfl rfl (by simp only [List.map_toArray, List.map_cons, List.map_nil]; rfl) ?_
          with_reducible refine (hcall).mono ?_
          rintro e w2 ⟨y, vy, rfl, hy, hey, ry, gy⟩
          refine ⟨_, rfl, ?_⟩
          obtain ⟨vy5, A5, n5, c5, rfl, rfl, _, my⟩ := hey.cells
          unfold exV
          have KK2 := blk_cell (grown_blk gy Gd.blk (by have := Gd.own; have := Gd.far; omega)) 5
          refine hK.out _ _ (KK2) (fun hHeld => ?_)
          clear hK K
          refine norm_ (a' := ?_) ?_ ?_
          rotate_left
          · show Act.put _ (some 85) _ = _
            simp only [Act.put, List.setIfInBounds_toArray, List.set_cons_zero, List.set_cons_succ, i64_w, i32_w]
            rfl
          refine one_ (i := 6) (N := some 86) #[true, true, true, true, true, true, true, false, false, false] rfl rfl (by kernel_rfl) (by decide) (fun K hK => ?_)
          refine value_ (w1 := ?_) (v := ?_) (by rfl) rfl ?_ ?_
          rotate_left 2
          · go_simp
            constructor
            · rfl
            · rfl
          refine hK.out _ _ ((pw_cell_below ((Below.refl _ _).alloc (Nat.le_refl _) _) KK2)) (fun hHeld => ?_)
          clear hK K
          refine norm_ (a' := ?_) ?_ ?_
          rotate_left
          · show Act.put _ (some 86) _ = _
            simp only [Act.put, List.setIfInBounds_toArray, List.set_cons_zero, List.set_cons_succ, i64_w, i32_w]
            rfl
          refine one_ (i := 7) (N := some 87) #[true, true, true, true, true, true, true, true, false, false] rfl rfl (by kernel_rfl) (by decide) (fun K hK => ?_)
          have row2 := Kd.R_grown Gd.row gy (fun k hk e => by injection e with e; have := hk.1; have := Gd.own; omega)
          have hokp : ∀ k, From wr.drew.heap.size k → Sx w X k ∧ some k ≠ (Value.slice A xs.length c).ownBlock := (fun k hk => ⟨⟨by have := blk_lt Gd.res; have : wr.drew.heap.size ≤ k := hk; omega, by have := blk_lt Gd.blk; have : wr.drew.heap.size ≤ k := hk; omega⟩, Kd.fresh_ok Gd.row k hk⟩)
          have hfresh : ∀ k, w2.heap.size ≤ k → Sx w X k := (fun k hk => ⟨by have := blk_lt Gd.res; have := gy.size; omega, by have := blk_lt Gd.blk; have := gy.size; omega⟩)
          have HB := (Below.refl 0 w).grown (Lib.grownBy_trans Gd.low gy) (Nat.zero_le _) (fun _ _ => Nat.zero_le _)
          refine Kd.R_append_step k31 (w0 := w) (W := w2) 0 rfl (.tmp 81) (.tmp 86) 29 31 _ 88 rfl Tryz.underlying29 info31 rfl (by decide) (by decide) (.slice A xs.length c) xs y _ (Sx w X) (From wr.drew.heap.size) rfl rfl my hokp hfresh row2 HB (Nat.zero_le _) hlen ?_
          intro v1 w4 hrow hb4 hg4 hat4
          obtain ⟨A1, c1, rfl⟩ := Kd.R_slice hrow
          obtain ⟨hX4, G4⟩ := Gd.next hy ry gy hrow hg4
          have KK4 := blk_cell hX4 5
          have F5 := blk_frozen hX4 5
          clear hrow hb4 hg4 hat4 row2 hokp hfresh HB my hey gy ry
          refine hK.out _ _ (KK4) (fun hHeld => ?_)
          clear hK K
          refine norm_ (a' := ?_) ?_ ?_
          rotate_left
          · show Act.put _ (some 87) _ = _
            simp only [Act.put, List.setIfInBounds_toArray, List.set_cons_zero, List.set_cons_succ, i64_w, i32_w]
            rfl
          refine pure_ (i := 8) (N := some 88) (v := ?_) (a' := ?_) #[true, true, true, true, true, true, true, true, true, false] rfl rfl (by kernel_rfl) (fun _ _ _ h => h) (Or.inl ⟨by rfl, ?_⟩) ?_ ?_
          rotate_left
          · intro w'
            go_simp
            with_reducible rfl
          rotate_left
          · simp only [Act.put, List.setIfInBounds_toArray, List.set_cons_zero, List.set_cons_succ, i64_w, i32_w]
            rfl
          refine last_ (i := 9) (N := none) #[true, true, true, true, true, true, true, true, true, true] rfl rfl (by kernel_rfl) (by decide) (fun K hK => ?_)
          refine skip_ (w1 := ?_) (by rfl) rfl ?_ ?_
          rotate_left
          · go_simp
            rfl
          refine hK.out _ _ ?_
          clear hK K
          refine done_ (by kernel_rfl) ?_
          go_wp2_with fail
          go_roundg (gk - 1)
          case measure => omega
          case rel => exact ⟨j + 1, xs ++ [y], _, by go_num, by omega, Lib.hid (by rw [List.length_append, hxl.out]; rfl), by rw [Nat.add_mul, Nat.one_mul, ← Nat.add_assoc]; have h := G4; rw [List.length_append] at h; exact h⟩
        · obtain rfl : j = many := by omega
          obtain ⟨A, c, rfl⟩ := Kd.R_slice G.row
          obtain ⟨⟨x0, x1, x2, x3, x4, x5⟩, _, xxl⟩ := cells6 G.blk
          obtain ⟨⟨q0, q1, q2, q3, q4, q5⟩, ⟨f0, f1, f2, f3, f4, f5⟩, xl2⟩ := cells6 G.res
          have hcost : N + 5 + j * cost n ≤ N + cost (n + 1) := by
            have := Nat.mul_le_mul_right (cost n) hmany
            omega
          have HC := Lib.hid hcost
          have GG := Lib.hid G
          clear G hcost
          go_wp2
          have G := GG.out
          exact bodyPost_ret (results_c Tryz.results13 _ _ w.heap.size 31 _ (0, 0) _ rfl (fin6 _ _ _ _ _ _ G.res) Tryz.underlying31 rfl size31) rfl
            ⟨⟨op, z28, name, size, xs⟩, _, rfl, .node n op name size xs (by rw [hxl.out]; exact hk.out) G.all, ⟨_, rfl, Kd.R_mono (Kd.R_grown G.row (grown6 _ _ _ _ _ _ _) (fun k hk e => by injection e with e; have := hk.1; omega)) (fun k hk => Nat.le_of_lt hk.1)⟩,
              ((G.rod.more HC.out).far (grown6 _ _ _ _ _ _ _) (fun b e => by injection e with e; omega)), grown_row G.low (grown6 _ _ _ _ _ _ _) (fun b e => by injection e with e; omega)⟩
theorem ExprOf_calls : ∀ (n : Nat) (hn : n ≤ 900) (R N : Nat) (w : World), Rod w R N → N + cost n ≤ 900000 → Calls Tryz.prog 13 #[.pointer (some ⟨R, 0, none⟩), .int .i64 (n + 1 : Int)] w (MadePost R N n w)
  | 0, _, R, N, w, hR, hN => ExprOf_leaf R N w hR (by omega) _ (by omega)
  | n + 1, hn, R, N, w, hR, hN => ExprOf_step R N n _ w hR hN (by omega) (by omega) (fun M w h hM => by
      have e : ((n + 1 : Nat) : Int) + 1 - 1 = (n : Int) + 1 := by omega
      rw [e]
      exact ExprOf_calls n (by omega) R M w h hM)
end Go.Proofs.YtjaobihcdkjmbaaGreatDoor
end
section
namespace Go.Proofs.YtjaobihcdkjmbaaGreatDoor
open Go.RowKit Go.Proofs.YtjaobihcdkjmbaaGreatDoorW.PrintWords Go.Proofs.YtjaobihcdkjmbaaGreatDoor.PReadTokens
def ofR (n : Int) : ByteArray := (metewandref01_OfInt.f 5 n).getD ⟨#[]⟩
theorem ofR_all : ((List.range 109).all fun i => (metewandref01_OfInt.f 5 ((i : Int) - 9)).isSome && decide ((ofR ((i : Int) - 9)).size ≤ 2)) = true := by kernel_rfl
theorem ofR_at (n : Int) (h0 : -9 ≤ n) (h1 : n ≤ 99) : (metewandref01_OfInt.f 5 n).isSome = true ∧ (ofR n).size ≤ 2 := by
  have := List.all_eq_true.1 ofR_all (n + 9).toNat (List.mem_range.2 (by omega))
  rw [show ((((n + 9).toNat : Nat) : Int) - 9) = n by omega, Bool.and_eq_true, decide_eq_true_eq] at this
  exact this
theorem ofR_size (n : Int) (h0 : -9 ≤ n) (h1 : n ≤ 99) : (ofR n).size ≤ 2 := (ofR_at n h0 h1).2
theorem OfInt_calls (n : Int) (h0 : -9 ≤ n) (h1 : n ≤ 99) (w : World) : Calls Tryz.prog 84 #[.int .i64 n] w fun e w' => e = .returned (.string (ofR n)) ∧ Below w.heap.size w w' := by
  obtain ⟨r, h⟩ := Option.isSome_iff_exists.1 (ofR_at n h0 h1).1
  have e : ofR n = r := by unfold ofR; rw [h]; rfl
  rw [e]
  exact metewandref01_OfInt.calls 5 n r w h
def levR (op : Int) : Int := if op = 13 then 0 else if op = 12 then 0 else if op = 10 then 0 else if op = 11 then 0 else if op = 2 then 1 else if op = 3 then 1 else if op = 4 then 1 else if op = 5 then 2 else if op = 6 then 2 else if op = 7 then 3 else 4
theorem levR_f (op : Int) (a b c : ByteArray) (d : Int) (l : List S31) : metewandref13_level.f 20 op a b c d l = some (levR op) := by
  unfold metewandref13_level.f levR
  simp only [metewandref13_level.j0, metewandref13_level.j1, metewandref13_level.j2]
  by_cases h13 : op = 13
  · simp [h13]
  by_cases h12 : op = 12
  · simp [h12]
  by_cases h10 : op = 10
  · simp [h10]
  by_cases h11 : op = 11
  · simp [h11]
  by_cases h2 : op = 2
  · simp [h2]
  by_cases h3 : op = 3
  · simp [h3]
  by_cases h4 : op = 4
  · simp [h4]
  by_cases h5 : op = 5
  · simp [h5]
  by_cases h6 : op = 6
  · simp [h6]
  by_cases h7 : op = 7
  · simp [h7]
  simp [h13, h12, h10, h11, h2, h3, h4, h5, h6, h7]
def parenR (lv want : Int) (t : ByteArray) : ByteArray := if lv < want then ⟨#[40]⟩ ++ t ++ ⟨#[41]⟩ else t
def argR (ts : List (Int × ByteArray)) (i : Nat) (want : Int) : ByteArray := parenR (ts.getD i (0, ⟨#[]⟩)).1 want (ts.getD i (0, ⟨#[]⟩)).2
def joinR : List ByteArray → ByteArray
  | [] => ⟨#[]⟩
  | t :: ts => ts.foldl (fun a u => a ++ ⟨#[44, 32]⟩ ++ u) t
theorem ByteArray.empty_app (t : ByteArray) : (⟨#[]⟩ : ByteArray) ++ t = t := by apply ByteArray.ext; simp [ByteArray.data_append]
theorem joinR_snoc (l : List ByteArray) (t : ByteArray) (h : l ≠ []) : joinR (l ++ [t]) = joinR l ++ ⟨#[44, 32]⟩ ++ t := by
  cases l with
  | nil => exact absurd rfl h
  | cons a l => simp [joinR, List.foldl_append]
def litN (num : S28) : ByteArray := if num.f1.toList == [49] then num.f0 else num.f0 ++ ⟨#[124]⟩ ++ num.f1
def litR (num : S28) (name : ByteArray) : ByteArray := if name.toList == [] then litN num else litN num ++ ⟨#[123]⟩ ++ name ++ ⟨#[125]⟩
def openRO (op : Int) (num : S28) (name : ByteArray) (size : Int) (ts : List (Int × ByteArray)) : ByteArray :=
  if op = 0 then litR num name else
  if op = 1 then name else
  if op = 2 then ⟨#[45]⟩ ++ argR ts 0 2 else
  if op = 3 then argR ts 0 1 ++ ⟨#[32, 43, 32]⟩ ++ argR ts 1 2 else
  if op = 4 then argR ts 0 1 ++ ⟨#[32, 45, 32]⟩ ++ argR ts 1 2 else
  if op = 5 then argR ts 0 2 ++ ⟨#[32, 42, 32]⟩ ++ argR ts 1 3 else
  if op = 6 then argR ts 0 2 ++ ⟨#[32, 47, 32]⟩ ++ argR ts 1 3 else
  if op = 7 then argR ts 0 4 ++ ⟨#[94]⟩ ++ (ofR size) else
  if op = 9 then argR ts 0 4 ++ ⟨#[91]⟩ ++ argR ts 1 0 ++ ⟨#[93]⟩ else
  if op = 10 then ⟨#[116, 97, 98, 32]⟩ ++ name ++ ⟨#[32, 60, 32]⟩ ++ (ofR size) ++ ⟨#[32, 46, 32]⟩ ++ argR ts 0 0 else
  if op = 11 then ⟨#[115, 117, 109, 32]⟩ ++ name ++ ⟨#[32, 60, 32]⟩ ++ (ofR size) ++ ⟨#[32, 46, 32]⟩ ++ argR ts 0 0 else
  if op = 12 then ⟨#[105, 102, 32]⟩ ++ argR ts 0 1 ++ ⟨#[32, 60, 32]⟩ ++ argR ts 1 1 ++ ⟨#[32, 116, 104, 101, 110, 32]⟩ ++ argR ts 2 0 ++ ⟨#[32, 101, 108, 115, 101, 32]⟩ ++ argR ts 3 0 else
  if op = 13 then ⟨#[108, 101, 116, 32]⟩ ++ name ++ ⟨#[32, 61, 32]⟩ ++ argR ts 0 0 ++ ⟨#[32, 105, 110, 32]⟩ ++ argR ts 1 0 else
  if op = 8 then ⟨#[91]⟩ ++ joinR (ts.map fun p => parenR p.1 0 p.2) ++ ⟨#[93]⟩ else
  name ++ ⟨#[40]⟩ ++ joinR (ts.map fun p => parenR p.1 0 p.2) ++ ⟨#[41]⟩
mutual
def openR : S31 → ByteArray
  | ⟨op, num, name, size, l⟩ => openRO op num name size (argsR l)
def argsR : List S31 → List (Int × ByteArray)
  | [] => []
  | x :: l => (levR x.f0, openR x) :: argsR l
end
def rtext (x : S31) (want : Int) : ByteArray := parenR (levR x.f0) want (openR x)
theorem argsR_map : ∀ l : List S31, (argsR l).map (fun p => parenR p.1 0 p.2) = l.map (fun y => rtext y 0)
  | [] => rfl
  | x :: l => by
    unfold argsR
    rw [List.map_cons, List.map_cons, argsR_map l]
    rfl
theorem rtext_size (x : S31) (want : Int) : (rtext x want).size ≤ (openR x).size + 2 := by
  unfold rtext parenR
  split
  · rw [ByteArray.size_append, ByteArray.size_append]
    show 1 + (openR x).size + 1 ≤ _
    omega
  · omega
set_option maxRecDepth 100000 in
set_option maxHeartbeats 2000000 in
theorem rtext_of (x : S31) (hsz : (openR x).size ≤ 1000000) (hop : ∀ v w, Vw w x v → Calls Tryz.prog 46 #[v] w fun e w' => e = .returned (.string (openR x)) ∧ Below w.heap.size w w') (want : Int) (v : Value) (w : World) (hv : Vw w x v) :
    Calls Tryz.prog 83 #[v, .int .i64 want] w fun e w' => e = .returned (.string (rtext x want)) ∧ Below w.heap.size w w' := by
  obtain ⟨A, c, rfl, hc1, hc2⟩ := hv.out
  have hb := (Below.refl w.heap.size w).alloc (Nat.le_refl _) (.cells #[.int .i64 x.f0, .string x.f1.f0, .string x.f1.f1, .string x.f2, .int .i64 x.f3, .slice A x.f4.length c] 31)
  have hbl := blk_new w (.cells #[.int .i64 x.f0, .string x.f1.f0, .string x.f1.f1, .string x.f2, .int .i64 x.f3, .slice A x.f4.length c] 31)
  have HL := Lib.hid (metewandref13_level.calls 20 x.f0 x.f1.f0 x.f1.f1 x.f2 x.f3 A c x.f4 (levR x.f0) _ (Kd.C_below hc2 hb) hc1 (levR_f _ _ _ _ _ _))
  have HO := Lib.hid hop
  have HV := Lib.hid hv
  have HT : Hid (rtext x want = parenR (levR x.f0) want (openR x)) := Lib.hid rfl
  generalize rtext x want = R at *
  generalize openR x = r at *
  generalize levR x.f0 = lv at *
  unfold exV at *
  clear hop hv hc2
  go_enter Tryz.func83, Tryz.ntmps83
  go_wp2_with fail
  refine HL.out.mono ?_
  rintro e w1 ⟨rfl, hb1⟩
  have hx := bcell hb1 hbl
  obtain ⟨⟨p0, p1, p2, p3, p4, p5⟩, _, xl⟩ := cells6 hx
  have hw1 := hb.trans (hb1.mono hb.size)
  clear hb hb1 hbl HL
  cases hl : decide (lv < want)
  · go_wp2_with fail
    refine (HO.out _ _ (HV.out.below hw1)).mono ?_
    rintro e w2 ⟨rfl, hb2⟩
    go_wp2
    go_ret
    exact ⟨by rw [HT.out]; unfold parenR; rw [if_neg (of_decide_eq_false hl)]; rfl, hw1.trans (hb2.mono hw1.size)⟩
  · go_wp2_with fail
    refine (HO.out _ _ (HV.out.below hw1)).mono ?_
    rintro e w2 ⟨rfl, hb2⟩
    go_wp2
    go_ret
    exact ⟨by rw [HT.out]; unfold parenR; rw [if_pos (of_decide_eq_true hl)]; rfl, hw1.trans (hb2.mono hw1.size)⟩
set_option maxRecDepth 100000 in
set_option maxHeartbeats 2000000 in
theorem rtexts_of (l : List S31) (hl : l.length ≤ 1000000) (hsz : ∀ j, j ≤ l.length → (joinR ((l.take j).map fun y => rtext y 0)).size ≤ 1000000) (hs1 : ∀ j (h : j < l.length), (rtext l[j] 0).size ≤ 1000000)
    (hrec : ∀ j (h : j < l.length) v w, Vw w l[j] v → Calls Tryz.prog 83 #[v, .int .i64 0] w fun e w' => e = .returned (.string (rtext l[j] 0)) ∧ Below w.heap.size w w') (A : Option Addr) (c : Nat) (w : World) (hc : k31.C w A l.length l) :
    Calls Tryz.prog 85 #[.slice A l.length c] w fun e w' => e = .returned (.string (joinR (l.map fun y => rtext y 0))) ∧ Below w.heap.size w w' := by
  have hjs : ∀ j (hj : j < l.length), 0 < j → joinR ((l.take (j + 1)).map fun y => rtext y 0) = joinR ((l.take j).map fun y => rtext y 0) ++ ⟨#[44, 32]⟩ ++ rtext l[j] 0 := fun j hj h0 => by
    rw [take_snoc' l j hj, List.map_append, List.map_singleton, joinR_snoc _ _ (by
      intro e
      have := congrArg List.length e
      rw [List.length_map, List.length_take, List.length_nil] at this
      omega)]
  have hj0 : ∀ h : 0 < l.length, joinR ((l.take 1).map fun y => rtext y 0) = rtext l[0] 0 := fun hj => by
    rw [take_snoc' l 0 hj]; rfl
  have hfin : l.take l.length = l := List.take_length
  have HC := Lib.hid hc
  have HJ := Lib.hid hjs
  have HJ0 := Lib.hid hj0
  have HF := Lib.hid hfin
  have HS := Lib.hid hsz
  have HS1 := Lib.hid hs1
  have HR := Lib.hid hrec
  clear hc hjs hj0 hfin hsz hs1 hrec
  go_enter Tryz.func85, Tryz.ntmps85
  go_wp2
  go_loopg [3, 4] l.length (fun k v3 v4 wr => ∃ j : Nat, j + k = l.length ∧ v4 = .int .i64 j ∧ v3 = .string (joinR ((l.take j).map fun y => rtext y 0)) ∧ Below w.heap.size w wr)
  case atStart => exact ⟨0, by omega, rfl, rfl, Below.refl _ _⟩
  case round =>
    obtain ⟨j, hj, rfl, rfl, hb⟩ := hrel
    by_cases hjl : j < l.length
    · obtain ⟨ad, A5, c5, rfl, q0, q1, q2, q3, q4, q5, hvw⟩ := arg_cells (Kd.C_below HC.out hb) j hjl
      have hr := HR.out j hjl
      have hs2 := HS.out j (by omega)
      have hs3 := HS1.out j hjl
      have hn := HJ.out j hjl
      have h00 : j = 0 → joinR ((l.take (j + 1)).map fun y => rtext y 0) = rtext l[j] 0 := fun e => by
        subst e
        exact HJ0.out hjl
      have HN := Lib.hid hn
      have H00 := Lib.hid h00
      clear hn h00
      have HZ : Hid (j = 0 → joinR ((l.take j).map fun y => rtext y 0) = ⟨#[]⟩) := Lib.hid (fun e => by subst e; rfl)
      generalize joinR ((l.take j).map fun y => rtext y 0) = r0 at *
      generalize l[j] = y at *
      generalize rtext y 0 = t at *
      have HV := Lib.hid hvw
      have HR2 := Lib.hid hr
      clear hvw hr
      by_cases h0 : j = 0
      · have hd : decide (0 < j) = false := decide_eq_false (by omega)
        obtain rfl := HZ.out h0
        have E1 := Lib.hid (H00.out h0)
        clear h0
        go_wp2_with fail
        refine (HR2.out _ _ HV.out).mono ?_
        rintro e w1 ⟨rfl, hb1⟩
        have hb2 := hb.trans (hb1.mono hb.size)
        go_wp2
        go_roundg (gk - 1)
        case measure => omega
        case rel => exact ⟨j + 1, by omega, by go_num, by rw [E1.out, ByteArray.empty_app], hb2⟩
      · have hd : decide (0 < j) = true := decide_eq_true (by omega)
        have hd2 : 0 < j := by omega
        have e1 := HN.out (by omega)
        have E1 := Lib.hid e1
        clear e1
        go_wp2_with fail
        refine (HR2.out _ _ HV.out).mono ?_
        rintro e w1 ⟨rfl, hb1⟩
        have hb2 := hb.trans (hb1.mono hb.size)
        go_wp2
        go_roundg (gk - 1)
        case measure => omega
        case rel => exact ⟨j + 1, by omega, by go_num, by rw [E1.out], hb2⟩
    · obtain rfl : j = l.length := by omega
      go_wp2
      go_ret
      exact ⟨by rw [HF.out]; rfl, hb⟩
end Go.Proofs.YtjaobihcdkjmbaaGreatDoor
end
