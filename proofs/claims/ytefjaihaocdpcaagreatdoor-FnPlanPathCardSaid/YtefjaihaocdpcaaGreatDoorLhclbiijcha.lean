/- The law of paths: helpers. -/
import Derived.Test.YtefjaihaocdpcaaGreatDoorLilbndddlnn
set_option linter.unusedVariables false
set_option linter.unusedSimpArgs false
set_option maxRecDepth 4000
namespace Lx
open Go Go.Proofs
noncomputable def Qkr5 : RE Ty El := ⟨Tryz.prog, CP, [], Tryz.f19, 0, [], [(4, [(2, .any), (3, .any), (5, .any)])]⟩
theorem Qa5n : REOK Qkr5 Qcf5 := ⟨CP_ok, Qye1, by kernel_rfl, by kernel_rfl⟩
theorem Qkc4 (l m : List Stp) (a b c d : Int) : aRun Qkr5 600 false (body0 Qkr5.fn) (Q4gm Qkr5.fn [.agg [.sl .step l, .int .i64 a, .int .i64 b], .agg [.sl .step m, .int .i64 c, .int .i64 d]] []) =
  ifb (a != c) (some (.ret (.bool false) [])) (ifb (b != d) (some (.ret (.bool false) [])) (ifb ((↑l.length : Int) != (↑m.length : Int)) (some (.ret (.bool false) [])) (some (.go (Qu6t Qkr5.fn 4) [.ptr 0 0, .ptr 1 0, .int .i64 (0 : Int)] [.box [.sl .step l, .int .i64 a, .int .i64 b], .box [.sl .step m, .int .i64 c, .int .i64 d]])))) := by kernel_rfl
theorem Qmcl (x0 : Int) (x1 : List (El .step)) (x2 : Int) (x3 : Int) (x4 : List (El .step)) (x5 : Int) (x6 : Int) : aRun Qkr5 600 true (Qu6t Qkr5.fn 4) (cutSt Qkr5.fn (Q1m4 Qkr5 (Qu6t Qkr5.fn 4)) [.ptr 0 0, .ptr 1 0, .int .i64 x0] [.box [.sl .step x1, .int .i64 x2, .int .i64 x3], .box [.sl .step x4, .int .i64 x5, .int .i64 x6]]) =
  ifb (decide (x0 < (↑x1.length : Int))) (ifb (inb x0 x1.length) (ifb (inb x0 x4.length) (ifb (!((x1.getD x0.toNat (Qkr5.C.dflt Ty.step)).x == (x4.getD x0.toNat (Qkr5.C.dflt Ty.step)).x && ((x1.getD x0.toNat (Qkr5.C.dflt Ty.step)).y == (x4.getD x0.toNat (Qkr5.C.dflt Ty.step)).y && ((x1.getD x0.toNat (Qkr5.C.dflt Ty.step)).low == (x4.getD x0.toNat (Qkr5.C.dflt Ty.step)).low && ((x1.getD x0.toNat (Qkr5.C.dflt Ty.step)).high == (x4.getD x0.toNat (Qkr5.C.dflt Ty.step)).high && ((x1.getD x0.toNat (Qkr5.C.dflt Ty.step)).frm == (x4.getD x0.toNat (Qkr5.C.dflt Ty.step)).frm && ((x1.getD x0.toNat (Qkr5.C.dflt Ty.step)).by_ == (x4.getD x0.toNat (Qkr5.C.dflt Ty.step)).by_ && true))))))) (some (.ret (.bool false) [])) (some (.go (Qu6t Qkr5.fn 4) [.ptr 0 0, .ptr 1 0, .int .i64 (IntKind.i64.wrap (x0 + (1 : Int)))] [.box [.sl .step x1, .int .i64 x2, .int .i64 x3], .box [.sl .step x4, .int .i64 x5, .int .i64 x6]]))) (none)) (none)) (some (.ret (.bool true) [])) := by kernel_rfl
theorem Qp7d (l : List Stp) (a b : Int) (g0 : l.length ≤ 1000000000) : ∀ (d i : Nat), i + d = l.length →
    Cut Qkr5 Qcf5 4 [.ptr 0 0, .ptr 1 0, .int .i64 (i : Int)] [.box [.sl .step l, .int .i64 a, .int .i64 b], .box [.sl .step l, .int .i64 a, .int .i64 b]] (.bool true) [] := by
  intro d
  induction d with
  | zero =>
    intro i hi
    refine Cut.of Qa5n rfl (Qmcl i l a b l a b) ?_
    rw [show decide ((i : Int) < (l.length : Int)) = false from decide_eq_false (by omega), Qj7y]
    exact Sat.ret rfl rfl
  | succ d ih =>
    intro i hi
    refine Cut.of Qa5n rfl (Qmcl i l a b l a b) ?_
    have hlt : i < l.length := by omega
    have hw : IntKind.wrap .i64 ((i : Int) + 1) = ((i + 1 : Nat) : Int) := by rw [Qbrg] <;> omega
    have hw1 : IntKind.wrap .i64 ((i : Int) - 1) = (i : Int) - 1 := by rw [Qbrg] <;> omega
    have hd : l.drop i = l[i] :: l.drop (i + 1) := List.drop_eq_getElem_cons hlt
    have hx : l.getD (i : Int).toNat (Qkr5.C.dflt .step) = l[i] := by simp [hlt]
    have hin : inb (i : Int) l.length = true := by simp only [inb, Bool.and_eq_true, decide_eq_true_eq]; omega
    have hlo : decide ((i : Int) < (l.length : Int)) = true := decide_eq_true (by omega)
    have htk := List.take_succ_eq_append_getElem hlt
    have hl : (l.take (i + 1)).getLast? = some l[i] := by rw [List.take_succ_eq_append_getElem hlt, List.getLast?_concat]
    rw [hlo, hin, hw]
    simp only [Qd8q, beq_self_eq_true, Bool.and_self, Bool.not_true, Qj7y]
    exact Sat.cut (ih (i + 1) (by omega))
theorem Qy9l (l m : List Stp) (a b c d : Int) (hg : (decide (l.length ≤ 1000000000) && (decide (l = m) && (decide (a = c) && decide (b = d)))) = true) : Qewq Tryz.prog CP Qcf5 [.agg [.sl .step l, .int .i64 a, .int .i64 b], .agg [.sl .step m, .int .i64 c, .int .i64 d]] [] (.bool true) [] := by
  refine Qewq.of Qa5n (by kernel_rfl) (Qkc4 l m a b c d) ?_
  simp only [Bool.and_eq_true, decide_eq_true_eq] at hg
  obtain ⟨g0, rfl, rfl, rfl⟩ := hg
  simp only [bne_self_eq_false, Qj7y]
  exact Sat.cut (Qp7d l a b g0 l.length 0 (by omega))
theorem Qtpn (l : List Stp) (a b c d : Int) (hg : (decide (l.length ≤ 1000000000) && (decide (l = []) && (decide (a = c) && decide (b = d)))) = true) : Qewq Tryz.prog CP Qcf5 [.agg [.sl .step l, .int .i64 a, .int .i64 b], .agg [.nils, .int .i64 c, .int .i64 d]] [] (.bool true) [] := by
  refine (Qy9l l [] a b c d hg).args rfl (fun j x x' h1 h2 N w v h => ?_)
  match j with
  | 0 => simp only [List.getElem?_cons_zero, Option.some.injEq] at h1 h2; subst h1; subst h2; exact h
  | 1 =>
    simp only [List.getElem?_cons_succ, List.getElem?_cons_zero, Option.some.injEq] at h1 h2; subst h1; subst h2
    refine RepA.aggMono (cs := [.nils, .int .i64 c, .int .i64 d]) (ds := [.sl .step [], .int .i64 c, .int .i64 d]) rfl (fun i c' d' e1 e2 u hu => ?_) h
    match i with
    | 0 => simp only [List.getElem?_cons_zero, Option.some.injEq] at e1 e2; subst e1; subst e2; exact hu.nilSl Ty.step
    | 1 => simp only [List.getElem?_cons_succ, List.getElem?_cons_zero, Option.some.injEq] at e1 e2; subst e1; subst e2; exact hu
    | 2 => simp only [List.getElem?_cons_succ, List.getElem?_cons_zero, Option.some.injEq] at e1 e2; subst e1; subst e2; exact hu
    | i + 3 => simp at e1
  | j + 2 => simp at h1
theorem Qj2i : EntOK Tryz.prog CP Qcf5 Qf7b := by
  refine ⟨⟨Tryz.f19, by kernel_rfl, by kernel_rfl, by kernel_rfl⟩, fun args H res H' h => ?_⟩
  simp only [Qf7b] at h
  split at h
  · simp only [Option.some.injEq, Prod.mk.injEq] at h
    obtain ⟨hg, rfl, rfl⟩ := h
    exact Qy9l _ _ _ _ _ _ hg
  · simp only [Option.some.injEq, Prod.mk.injEq] at h
    obtain ⟨hg, rfl, rfl⟩ := h
    exact Qtpn _ _ _ _ _ hg
  · cases h

noncomputable def Qpre : RE Ty El := ⟨Tryz.prog, CP, [], Tryz.f21, 0, [], []⟩
theorem Qeg4 : REOK Qpre Qj6q := ⟨CP_ok, Qye1, by kernel_rfl, by kernel_rfl⟩
theorem Q9qx (ax ay al ah af ab bx b_y bl bh bf bb : Int) : aRun Qpre 600 false (body0 Qpre.fn) (Q4gm Qpre.fn [.agg [.int .i64 ax, .int .i64 ay, .int .i64 al, .int .i64 ah, .int .i64 af, .int .i64 ab], .agg [.int .i64 bx, .int .i64 b_y, .int .i64 bl, .int .i64 bh, .int .i64 bf, .int .i64 bb]] []) =
  ifb (decide (IntKind.i64.wrap (ax - bx) ≥ (-1 : Int))) (ifb (decide (IntKind.i64.wrap (ax - bx) ≤ (1 : Int))) (ifb (decide (IntKind.i64.wrap (ay - b_y) ≥ (-1 : Int))) (ifb (decide (IntKind.i64.wrap (ay - b_y) ≤ (1 : Int))) (ifb (IntKind.i64.wrap (ax - bx) != (0 : Int)) (ifb (decide (al ≤ bh)) (some (.ret (.bool (decide (bl ≤ ah))) [])) (some (.ret (.bool false) []))) (ifb (IntKind.i64.wrap (ay - b_y) != (0 : Int)) (ifb (decide (al ≤ bh)) (some (.ret (.bool (decide (bl ≤ ah))) [])) (some (.ret (.bool false) []))) (some (.ret (.bool false) [])))) (some (.ret (.bool false) []))) (some (.ret (.bool false) []))) (some (.ret (.bool false) []))) (some (.ret (.bool false) [])) := by kernel_rfl
theorem Qhuw (ax ay al ah af ab bx b_y bl bh bf bb : Int) (hg : behK ⟨ax, ay, al, ah, af, ab⟩ ⟨bx, b_y, bl, bh, bf, bb⟩ = true) : Qewq Tryz.prog CP Qj6q [.agg [.int .i64 ax, .int .i64 ay, .int .i64 al, .int .i64 ah, .int .i64 af, .int .i64 ab], .agg [.int .i64 bx, .int .i64 b_y, .int .i64 bl, .int .i64 bh, .int .i64 bf, .int .i64 bb]] [] (.bool true) [] := by
  refine Qewq.of Qeg4 (by kernel_rfl) (Q9qx ax ay al ah af ab bx b_y bl bh bf bb) ?_
  simp only [behK, Bool.and_eq_true, Bool.or_eq_true, decide_eq_true_eq] at hg
  obtain ⟨⟨⟨a1, a2⟩, ⟨a3, a4⟩, ⟨a5, a6⟩, a7, a8⟩, ⟨⟨b1, b2⟩, b3, b4⟩, b5, b6, b7⟩ := hg
  have w1 : IntKind.wrap .i64 (ax - bx) = ax - bx := Qbrg (by omega) (by omega)
  have w2 : IntKind.wrap .i64 (ay - b_y) = ay - b_y := Qbrg (by omega) (by omega)
  rw [w1, w2]
  repeat' (first | (refine Sat.ifb (fun h => ?_) (fun h => ?_)) | (refine Sat.retB ?_ rfl; simp_all []; done) | (refine Sat.retI ?_ rfl; simp_all []; done))
  all_goals (first | (refine Sat.no ?_; simp_all; done) | (refine Sat.no ?_; simp_all; omega) | (refine Sat.retB ?_ rfl; simp_all []; omega) | (refine Sat.retI ?_ rfl; simp_all []; omega))
theorem Q83z : EntOK Tryz.prog CP Qj6q Q5g5 := by
  refine ⟨⟨Tryz.f21, by kernel_rfl, by kernel_rfl, by kernel_rfl⟩, fun args H res H' h => ?_⟩
  simp only [Q5g5] at h
  split at h
  · simp only [Option.some.injEq, Prod.mk.injEq] at h
    obtain ⟨hg, rfl, rfl⟩ := h
    exact Qhuw _ _ _ _ _ _ _ _ _ _ _ _ hg
  · cases h
end Lx
/- Meanings: the law of paths. -/
namespace Lx
open Go Go.Proofs
end Lx
/- Meanings: over a point. -/
namespace Lx
open Go Go.Proofs
theorem Qjls {ks : List Kind} {ps : List Point} {es : List Entry} {n : Str} : (pathF ks ps es n).steps.length ≤ 40 := by
  unfold pathF
  split
  · split
    · simp
    · rename_i f hf
      split
      · simp
      · rename_i cs hc
        split
        · simp
        · unfold Qqfy at hc
          split at hc
          · rename_i hx
            simp only [Option.some.injEq] at hc
            subst hc
            simpa using hx.2.2
          · cases hc
  · simp
end Lx
/- Over a point. -/
namespace Lx
open Go Go.Proofs
end Lx
/- Plain facts: a path goes cell by cell; a route turned round. -/
namespace Lx
open Go Go.Proofs
theorem Q2st {d k n : Int} (hn : 0 < n) (h1 : -n ≤ d) (h2 : d ≤ n) : partF d k n - 1 ≤ partF d (k + 1) n ∧ partF d (k + 1) n ≤ partF d k n + 1 := by
  unfold partF
  have e : 2 * (k + 1) * d + n = (2 * k * d + n) + 2 * d := by
    rw [Int.mul_add, Int.add_mul, Int.mul_one]; omega
  rw [e]
  generalize 2 * k * d + n = x
  have a1 : (x + 2 * d) / (2 * n) ≤ (x + 1 * (2 * n)) / (2 * n) := Int.ediv_le_ediv (by omega) (by omega)
  have a2 : (x + (-1) * (2 * n)) / (2 * n) ≤ (x + 2 * d) / (2 * n) := Int.ediv_le_ediv (by omega) (by omega)
  rw [Int.add_mul_ediv_right _ _ (by omega)] at a1 a2
  exact ⟨a2, a1⟩
theorem Qy26 {q n : Int} (hn : 0 < n) : (q * (2 * n) + n) / (2 * n) = q := by
  rw [Int.add_comm, Int.add_mul_ediv_right _ _ (by omega), Int.ediv_eq_zero_of_lt (by omega) (by omega)]; omega
theorem Qo4z {k n : Int} (hn : 0 < n) : partF n k n = k := by
  unfold partF
  rw [show 2 * k * n = k * (2 * n) by rw [Int.mul_comm 2 k, Int.mul_assoc], Qy26 hn]
theorem Qhr5 {k n : Int} (hn : 0 < n) : partF (-n) k n = -k := by
  unfold partF
  rw [show 2 * k * (-n) = (-k) * (2 * n) by rw [Int.mul_neg, Int.neg_mul, Int.mul_comm 2 k, Int.mul_assoc], Qy26 hn]
theorem Qkmm {d n : Int} (hn : 0 < n) : partF d n n = d := by
  unfold partF
  rw [show 2 * n * d = d * (2 * n) by rw [Int.mul_comm], Qy26 hn]
def adjC (a b : Cell) : Prop := (-1 ≤ a.x - b.x ∧ a.x - b.x ≤ 1 ∧ -1 ≤ a.y - b.y ∧ a.y - b.y ≤ 1) ∧ (a.x - b.x ≠ 0 ∨ a.y - b.y ≠ 0)
theorem adjC.symm {a b : Cell} (h : adjC a b) : adjC b a := by unfold adjC at *; omega
theorem Q1he {a b : Cell} {k : Nat} (h : legN a b ≠ 0) : adjC (legAt a b k) (legAt a b (k + 1)) := by
  unfold legAt
  rw [if_neg h, if_neg h]
  have hx : (a.x - b.x).natAbs ≤ legN a b := Nat.le_max_left _ _
  have hy : (a.y - b.y).natAbs ≤ legN a b := Nat.le_max_right _ _
  have hz : (a.x - b.x).natAbs = legN a b ∨ (a.y - b.y).natAbs = legN a b := by unfold legN; omega
  generalize legN a b = n at *
  have hn : (0 : Int) < (n : Int) := by omega
  have px := Q2st (d := b.x - a.x) (k := (k : Int)) hn (by omega) (by omega)
  have py := Q2st (d := b.y - a.y) (k := (k : Int)) hn (by omega) (by omega)
  have one : ∀ d : Int, d.natAbs = n → partF d ((k : Int) + 1) n ≠ partF d k n := fun d hd => by
    have : d = (n : Int) ∨ d = -(n : Int) := by omega
    rcases this with rfl | rfl
    · rw [Qo4z hn, Qo4z hn]; omega
    · rw [Qhr5 hn, Qhr5 hn]; omega
  have ox := one (b.x - a.x)
  have oy := one (b.y - a.y)
  rw [show ((k + 1 : Nat) : Int) = (k : Int) + 1 by omega]
  simp only [adjC]
  generalize partF (b.x - a.x) ((k : Int) + 1) n = p1 at *
  generalize partF (b.x - a.x) k n = p0 at *
  generalize partF (b.y - a.y) ((k : Int) + 1) n = q1 at *
  generalize partF (b.y - a.y) k n = q0 at *
  refine ⟨⟨by omega, by omega, by omega, by omega⟩, ?_⟩
  rcases hz with hz | hz
  · have := ox (by omega); left; omega
  · have := oy (by omega); right; omega
theorem Q54l (a b : Cell) : legAt a b (legN a b) = b := by
  unfold legAt
  split
  · rename_i h
    have h1 : a.x = b.x := by unfold legN at h; omega
    have h2 : a.y = b.y := by unfold legN at h; omega
    obtain ⟨ax, ay⟩ := a
    obtain ⟨bx, b_y⟩ := b
    simp only at h1 h2
    rw [h1, h2]
  · rename_i h
    have hn : (0 : Int) < (legN a b : Int) := by omega
    rw [Qkmm hn, Qkmm hn]
    obtain ⟨bx, b_y⟩ := b
    simp only [Cell.mk.injEq]
    omega
theorem Qpue (a b : Cell) : legN a b = legN b a := by unfold legN; omega
def legG (a b : Cell) (i : Nat) : Cell := if Qdow a b = true then legAt b a (legN a b - i) else legAt a b i
theorem Qydz (a b : Cell) : Qppc a b = (List.range (legN a b + 1)).map (legG a b) := by
  unfold Qppc
  by_cases ht : Qdow a b = true
  · rw [if_pos ht]
    apply List.ext_getElem
    · simp [legF, Qpue a b]
    · intro i h1 h2
      simp only [legF, List.length_reverse, List.length_map, List.length_range] at h1
      simp only [legF, List.getElem_reverse, List.getElem_map, List.getElem_range, List.length_map, List.length_range, legG, if_pos ht]
      rw [Qpue a b]
      congr 1
  · rw [if_neg ht, legF]
    apply List.map_congr_left
    intro i hi
    rw [legG, if_neg ht]
theorem Qbog (a b : Cell) : legG a b 0 = a := by
  unfold legG
  split
  · rw [Qpue a b, Nat.sub_zero, Q54l]
  · exact Qse4 a b
theorem Qlkt (a b : Cell) : legG a b (legN a b) = b := by
  unfold legG
  split
  · rw [Nat.sub_self]; exact Qse4 b a
  · exact Q54l a b
theorem Qdm4 {a b : Cell} {i : Nat} (hi : i < legN a b) : adjC (legG a b i) (legG a b (i + 1)) := by
  unfold legG
  split
  · have : legN a b - i = (legN a b - (i + 1)) + 1 := by omega
    rw [this]
    exact (Q1he (by rw [← Qpue a b]; omega)).symm
  · exact Q1he (by omega)
def adjP {α : Type} (R : α → α → Prop) : List α → Prop
  | [] => True
  | [_] => True
  | a :: b :: l => R a b ∧ adjP R (b :: l)
theorem Qd6a {α : Type} {R : α → α → Prop} : ∀ {l : List α} {a : α} {m : List α}, adjP R (l ++ [a]) → adjP R (a :: m) → adjP R (l ++ a :: m)
  | [], a, m, _, h => h
  | [x], a, m, h1, h2 => ⟨h1.1, h2⟩
  | x :: y :: l, a, m, h1, h2 => ⟨h1.1, Qd6a (l := y :: l) h1.2 h2⟩
theorem Qkiy {α : Type} {R : α → α → Prop} : ∀ (n : Nat) (g : Nat → α), (∀ i, i + 1 < n → R (g i) (g (i + 1))) → adjP R ((List.range n).map g)
  | 0, g, h => trivial
  | 1, g, h => trivial
  | n + 2, g, h => by
    have ih := Qkiy (n + 1) (fun i => g (i + 1)) (fun i hi => h (i + 1) (by omega))
    rw [List.range_succ_eq_map, List.map_cons, List.map_map]
    rw [List.range_succ_eq_map, List.map_cons, List.map_map] at ih ⊢
    exact ⟨h 0 (by omega), ih⟩
theorem Q833 {α : Type} {R : α → α → Prop} (d : α) : ∀ {l : List α} (i : Nat), adjP R l → i + 1 < l.length → R (l.getD i d) (l.getD (i + 1) d)
  | [], i, _, hi => by simp at hi
  | [x], i, _, hi => by simp at hi
  | x :: y :: l, 0, h, hi => h.1
  | x :: y :: l, i + 1, h, hi => Q833 d (l := y :: l) i h.2 (by simpa using hi)
theorem Qjxn (a b : Cell) : ∃ t, Qppc a b = a :: t := by
  rw [Qydz, List.range_succ_eq_map, List.map_cons, Qbog]
  exact ⟨_, rfl⟩
theorem Qgv9 (a b : Cell) : ∃ t, Qppc a b = t ++ [b] := by
  rw [Qydz, List.range_succ, List.map_append, List.map_singleton, Qlkt]
  exact ⟨_, rfl⟩
theorem Qhks (a b : Cell) : adjP adjC (Qppc a b) := by
  rw [Qydz]
  exact Qkiy _ _ (fun i hi => Qdm4 (by omega))
def polyF : List Cell → List Cell
  | [] => []
  | [a] => [a]
  | a :: b :: l => (Qppc a b).dropLast ++ polyF (b :: l)
theorem Q8rv : ∀ (u : List Cell) (x y : Cell), polyF (u ++ [x, y]) = polyF (u ++ [x]) ++ (Qppc x y).drop 1
  | [], x, y => by
    obtain ⟨t, ht⟩ := Qgv9 x y
    obtain ⟨s, hs⟩ := Qjxn x y
    simp only [List.nil_append, polyF]
    rw [hs, List.drop_succ_cons, List.drop_zero]
    rw [← hs, ht, List.dropLast_concat, ← ht, hs]; rfl
  | [a], x, y => by
    have ih := Q8rv [] x y
    simp only [List.nil_append] at ih
    show (Qppc a x).dropLast ++ polyF [x, y] = (Qppc a x).dropLast ++ polyF [x] ++ (Qppc x y).drop 1
    rw [ih, List.append_assoc]
  | a :: b :: u, x, y => by
    have ih := Q8rv (b :: u) x y
    show (Qppc a b).dropLast ++ polyF (b :: u ++ [x, y]) = (Qppc a b).dropLast ++ polyF (b :: u ++ [x]) ++ (Qppc x y).drop 1
    rw [ih, List.append_assoc]
theorem Qjsv (ps : List Point) (w : List Str) : ∀ m, m < w.length → Qya3 ps w m = polyF ((w.take (m + 1)).map (Qg2m ps))
  | 0, h => by
    have : w.take 1 = [w.getD 0 []] := by
      cases w with
      | nil => simp at h
      | cons a w => rfl
    simp [Qya3, this, polyF]
  | m + 1, h => by
    have e : ∀ k, k < w.length → w.take (k + 1) = w.take k ++ [w.getD k []] := fun k hk => by
      rw [List.take_succ_eq_append_getElem hk]; simp [hk]
    rw [Q0oy, Qjsv ps w m (by omega), e (m + 1) h, e m (by omega)]
    simp only [List.map_append, List.map_cons, List.map_nil, List.append_assoc, List.cons_append, List.nil_append]
    exact (Q8rv _ _ _).symm
theorem Qzip {ps : List Point} {w : List Str} (h : 0 < w.length) : Qya3 ps w (w.length - 1) = polyF (w.map (Qg2m ps)) := by
  rw [Qjsv ps w _ (by omega), show w.length - 1 + 1 = w.length by omega, List.take_length]
theorem Qkoz : ∀ l : List Cell, adjP adjC (polyF l) ∧ ∀ a t, l = a :: t → ∃ s, polyF l = a :: s
  | [] => ⟨trivial, fun a t h => by cases h⟩
  | [a] => ⟨trivial, fun x t h => by cases h; exact ⟨[], rfl⟩⟩
  | a :: b :: l => by
    obtain ⟨ih, hd⟩ := Qkoz (b :: l)
    obtain ⟨s, hs⟩ := hd b l rfl
    obtain ⟨t, ht⟩ := Qgv9 a b
    have hl := Qhks a b
    have e : polyF (a :: b :: l) = t ++ b :: s := by
      show (Qppc a b).dropLast ++ polyF (b :: l) = _
      rw [ht, List.dropLast_concat, hs]
    refine ⟨?_, fun x u h => ?_⟩
    · rw [e]
      rw [ht] at hl
      rw [hs] at ih
      exact Qd6a hl ih
    · cases h
      rw [e]
      obtain ⟨r, hr⟩ := Qjxn a b
      rw [hr] at ht
      cases t with
      | nil => simp at ht; exact ⟨s, by rw [← ht.1]; rfl⟩
      | cons c t => simp only [List.cons_append, List.cons.injEq] at ht; exact ⟨t ++ b :: s, by rw [← ht.1]; rfl⟩
theorem Qv4v {ks : List Kind} {ps : List Point} {es : List Entry} {n : Str} (h : (pathF ks ps es n).code = 0) : ∃ f cs, stB ks ps es n = some f ∧ Qqfy ks ps f.route = some cs ∧ f.by_ + cs.length * f.kind.slow ≤ 10000 ∧ Qn0o ks ps es = true ∧
    pathF ks ps es n = ⟨(List.range cs.length).map (Q9ns f cs), f.frm + cs.length * f.kind.quick, f.by_ + cs.length * f.kind.slow, 0⟩ := by
  cases hb : Qn0o ks ps es with
  | false => simp [pathF, hb] at h
  | true =>
    cases hst : stB ks ps es n with
    | none => simp [pathF, hb, hst] at h
    | some f =>
      cases hc : Qqfy ks ps f.route with
      | none => simp [pathF, hb, hst, hc] at h
      | some cs =>
        by_cases hl : f.by_ + cs.length * f.kind.slow > 10000
        · simp [pathF, hb, hst, hc, hl] at h
        · exact ⟨f, cs, rfl, hc, by omega, rfl, by simp only [pathF, hb, hst, hc, if_true]; rw [if_neg hl]⟩
theorem Qac4 {ks : List Kind} {ps : List Point} {es : List Entry} {n : Str} (h : (pathF ks ps es n).code ≠ 0) : (pathF ks ps es n).steps = [] ∧ (pathF ks ps es n).frm = 0 ∧ (pathF ks ps es n).by_ = 0 := by
  cases hb : Qn0o ks ps es with
  | false => simp [pathF, hb]
  | true =>
    cases hst : stB ks ps es n with
    | none => simp [pathF, hb, hst]
    | some f =>
      cases hc : Qqfy ks ps f.route with
      | none => simp [pathF, hb, hst, hc]
      | some cs =>
        by_cases hl : f.by_ + cs.length * f.kind.slow > 10000
        · simp [pathF, hb, hst, hc, hl]
        · simp [pathF, hb, hst, hc, hl] at h
theorem Qugn {ks : List Kind} {ps : List Point} {w : List Str} {cs : List Cell} (h : Qqfy ks ps w = some cs) : Qib4 ks ps = true ∧ Qyhl ps w = true ∧ cs.length ≤ 40 ∧ 1 ≤ cs.length ∧ adjP adjC cs ∧ cs = polyF (w.map (Qg2m ps)) := by
  unfold Qqfy at h
  split at h
  · rename_i hc
    simp only [Option.some.injEq] at h
    have hw := (Quu2 hc.2.1).1
    have e := Qzip (ps := ps) (w := w) (by omega)
    subst h
    refine ⟨hc.1, hc.2.1, hc.2.2, by simp [Qya3], ?_, e⟩
    rw [e]; exact (Qkoz _).1
  · cases h
theorem Q5r4 {f : Flight} {n k : Nat} (h40 : n ≤ 40) (hk : k < n) (h : inR f.level 1 6 = true) : lvl f n k = min f.level (min (k : Int) ((n : Int) - 1 - k)) := by
  have hn : inR (n : Int) 1 40 = true := by simp only [inR, Bool.and_eq_true, decide_eq_true_eq]; omega
  unfold lvl Qc07
  rw [if_pos ⟨hn, h⟩]
  simp [hk, Qbz3]
end Lx
/- Plain facts: what the law of paths asks of a path's steps. -/
namespace Lx
open Go Go.Proofs
theorem Q7ui : ∀ {l : List Cell} {lo hi : Int}, adjP adjC l → (∀ a t, l = a :: t → lo ≤ a.x ∧ a.x ≤ hi ∧ lo ≤ a.y ∧ a.y ≤ hi) → ∀ (i : Nat), i < l.length → lo - i ≤ (l.getD i ⟨0, 0⟩).x ∧ (l.getD i ⟨0, 0⟩).x ≤ hi + i ∧ lo - i ≤ (l.getD i ⟨0, 0⟩).y ∧ (l.getD i ⟨0, 0⟩).y ≤ hi + i
  | [], lo, hi, _, _, i, hi' => by simp at hi'
  | a :: t, lo, hi, h, h0, 0, hi' => by
    have := h0 a t rfl
    simp only [List.getD_cons_zero]
    omega
  | [a], lo, hi, h, h0, i + 1, hi' => by simp at hi'
  | a :: b :: t, lo, hi, h, h0, i + 1, hi' => by
    have h1 := h0 a _ rfl
    obtain ⟨hab, hr⟩ := h
    have ih := Q7ui (l := b :: t) (lo := lo - 1) (hi := hi + 1) hr (fun x u e => by
      cases e
      obtain ⟨⟨q1, q2, q3, q4⟩, _⟩ := hab
      omega) i (by simpa using hi')
    simp only [List.getD_cons_succ]
    omega
theorem Qzz0 {ks : List Kind} {ps : List Point} {w : List Str} {cs : List Cell} (h : Qqfy ks ps w = some cs) (i : Nat) (hi : i < cs.length) : -100 ≤ (cs.getD i ⟨0, 0⟩).x ∧ (cs.getD i ⟨0, 0⟩).x ≤ 200 ∧ -100 ≤ (cs.getD i ⟨0, 0⟩).y ∧ (cs.getD i ⟨0, 0⟩).y ≤ 200 := by
  obtain ⟨hb, hr, h40, h1, hadj, he⟩ := Qugn h
  have := Q7ui (lo := 0) (hi := 100) hadj (fun a t e => by
    obtain ⟨h2, _, hall⟩ := Quu2 hr
    match w, h2, hall, he with
    | n :: r, _, hall, he =>
      obtain ⟨s, hs⟩ := (Qkoz ((n :: r).map (Qg2m ps))).2 (Qg2m ps n) (r.map (Qg2m ps)) rfl
      rw [← he] at hs
      rw [hs] at e
      cases e
      have hc := Qgjr hb (hall n (List.mem_cons_self ..))
      simp only [Qlxz, Bool.and_eq_true, decide_eq_true_eq] at hc
      omega) i hi
  omega
theorem Qnxc {f : Flight} {cs : List Cell} {k : Nat} (hk : k < cs.length) (d : Stp) : ((List.range cs.length).map (Q9ns f cs)).getD k d = Q9ns f cs k := by
  rw [List.getD_eq_getElem?_getD, List.getElem?_map, List.getElem?_range hk]; rfl
theorem Qds8 {ks : List Kind} {ps : List Point} {w : List Str} {f : Flight} {cs : List Cell} (h : Qqfy ks ps w = some cs) {k : Nat} (hk : k + 1 < cs.length) : behK (Q9ns f cs k) (Q9ns f cs (k + 1)) = true := by
  obtain ⟨hb, hr, h40, h1, hadj, he⟩ := Qugn h
  have s1 := Qzz0 h k (by omega)
  have s2 := Qzz0 h (k + 1) hk
  obtain ⟨⟨q1, q2, q3, q4⟩, q5⟩ := Q833 ⟨0, 0⟩ k hadj hk
  simp only [behK, Bool.and_eq_true, Bool.or_eq_true, decide_eq_true_eq]
  simp only [Q9ns, Nat.add_sub_cancel]
  generalize lvl f cs.length (k - 1) = u
  generalize lvl f cs.length k = v
  generalize lvl f cs.length (k + 1) = z
  have m1 : min u v ≤ max v z := by omega
  have m2 : min v z ≤ max u v := by omega
  exact ⟨⟨⟨by omega, by omega⟩, ⟨by omega, by omega⟩, ⟨by omega, by omega⟩, by omega, by omega⟩, ⟨⟨by omega, by omega⟩, by omega, by omega⟩, q5, m1, m2⟩
theorem Qqef {f : Flight} {n k : Nat} (h40 : n ≤ 40) (hk : k < n) (h : inR f.level 1 6 = true) : 0 ≤ lvl f n k ∧ lvl f n k ≤ f.level := by
  rw [Q5r4 h40 hk h]
  simp only [inR, Bool.and_eq_true, decide_eq_true_eq] at h
  omega
theorem Q19o {k n : Nat} {q s : Int} (hk : k ≤ n) (h1 : 1 ≤ q) (h2 : q ≤ s) : 0 ≤ (k : Int) * q ∧ (k : Int) * q ≤ (k : Int) * s ∧ (k : Int) * s ≤ (n : Int) * s :=
  ⟨Int.mul_nonneg (by omega) (by omega), Int.mul_le_mul_of_nonneg_left h2 (by omega), Int.mul_le_mul_of_nonneg_right (by omega) (by omega)⟩
theorem Qrzg {d y : Int} (h0 : 0 ≤ d) (hy : 0 ≤ y ∧ y ≤ 10) : 0 ≤ d * y ∧ d * y ≤ d * 10 ∧ 0 ≤ (d * y).tdiv 10 ∧ (d * y).tdiv 10 ≤ d := by
  have h1 : 0 ≤ d * y := Int.mul_nonneg h0 hy.1
  have h2 : d * y ≤ d * 10 := Int.mul_le_mul_of_nonneg_left hy.2 h0
  rw [Int.tdiv_eq_ediv_of_nonneg h1]
  refine ⟨h1, h2, ?_, ?_⟩ <;> omega
end Lx
/- The law of paths. -/
namespace Lx
open Go Go.Proofs
noncomputable def Qnfw : RE Ty El := ⟨Tryz.prog, CP, [(Qck2, Qcgy), (Qwuz, Qrhz), (Q2jn, Q4vh), (Qcf5, Qf7b), (Q4t8, Qxe2), (Qj6q, Q5g5)], Tryz.f3, 0, [], [(18, [(5, .any), (6, .any), (10, .any), (12, .any), (13, .any), (14, .any), (15, .any), (16, .any)])]⟩
theorem Q55j : REOK Qnfw Qimx := ⟨CP_ok, (TabOK.cons Qqrn (TabOK.cons Q5y3 (TabOK.cons Q9yb (TabOK.cons Qj2i (TabOK.cons Qcwe (TabOK.cons Q83z Qye1)))))), by kernel_rfl, by kernel_rfl⟩
theorem Q88l (c : List Int) : aRun Qnfw 600 false (body0 Qnfw.fn) (Q4gm Qnfw.fn [.sl .u8 c] []) =
  ifb (decide ((↑c.length : Int) > (1048576 : Int))) (some (.ret (.bool true) [])) (ifb (Qf9o c) (ifb (szB (Qzdg c).es && decide ((Qzdg c).es.length < (1000000000 : Nat))) (ifb (szB (Qzdg c).es && decide ((Qzdg c).es.length < (1000000000 : Nat))) (ifb ((pathF (Qzdg c).ks (Qzdg c).ps (Qzdg c).es (Qzdg c).n).code != (pathF (Qzdg c).ks (Qzdg c).ps (Qzdg c).es (Qzdg c).n).code) (some (.ret (.bool false) [])) (ifb (decide ((pathF (Qzdg c).ks (Qzdg c).ps (Qzdg c).es (Qzdg c).n).steps.length ≤ (1000000000 : Nat)) && (decide ((pathF (Qzdg c).ks (Qzdg c).ps (Qzdg c).es (Qzdg c).n).steps = (pathF (Qzdg c).ks (Qzdg c).ps (Qzdg c).es (Qzdg c).n).steps) && (decide ((pathF (Qzdg c).ks (Qzdg c).ps (Qzdg c).es (Qzdg c).n).frm = (pathF (Qzdg c).ks (Qzdg c).ps (Qzdg c).es (Qzdg c).n).frm) && decide ((pathF (Qzdg c).ks (Qzdg c).ps (Qzdg c).es (Qzdg c).n).by_ = (pathF (Qzdg c).ks (Qzdg c).ps (Qzdg c).es (Qzdg c).n).by_)))) (ifb ((pathF (Qzdg c).ks (Qzdg c).ps (Qzdg c).es (Qzdg c).n).code != (0 : Int)) (ifb (decide ((pathF (Qzdg c).ks (Qzdg c).ps (Qzdg c).es (Qzdg c).n).steps.length ≤ (1000000000 : Nat)) && (decide ((pathF (Qzdg c).ks (Qzdg c).ps (Qzdg c).es (Qzdg c).n).steps = []) && (decide ((pathF (Qzdg c).ks (Qzdg c).ps (Qzdg c).es (Qzdg c).n).frm = (0 : Int)) && decide ((pathF (Qzdg c).ks (Qzdg c).ps (Qzdg c).es (Qzdg c).n).by_ = (0 : Int))))) (some (.ret (.bool true) [])) (none)) (ifb (szB (Qzdg c).es && decide ((Qzdg c).es.length < (1000000000 : Nat))) (ifb (inb (0 : Int) (pathF (Qzdg c).ks (Qzdg c).ps (Qzdg c).es (Qzdg c).n).steps.length) (ifb (((pathF (Qzdg c).ks (Qzdg c).ps (Qzdg c).es (Qzdg c).n).steps.getD (Int.toNat (0 : Int)) (Qnfw.C.dflt Ty.step)).low != (0 : Int)) (some (.ret (.bool false) [])) (ifb (inb (0 : Int) (pathF (Qzdg c).ks (Qzdg c).ps (Qzdg c).es (Qzdg c).n).steps.length) (ifb (((pathF (Qzdg c).ks (Qzdg c).ps (Qzdg c).es (Qzdg c).n).steps.getD (Int.toNat (0 : Int)) (Qnfw.C.dflt Ty.step)).high != (0 : Int)) (some (.ret (.bool false) [])) (ifb (inb (IntKind.i64.wrap ((↑(pathF (Qzdg c).ks (Qzdg c).ps (Qzdg c).es (Qzdg c).n).steps.length : Int) - (1 : Int))) (pathF (Qzdg c).ks (Qzdg c).ps (Qzdg c).es (Qzdg c).n).steps.length) (ifb (((pathF (Qzdg c).ks (Qzdg c).ps (Qzdg c).es (Qzdg c).n).steps.getD (IntKind.i64.wrap ((↑(pathF (Qzdg c).ks (Qzdg c).ps (Qzdg c).es (Qzdg c).n).steps.length : Int) - (1 : Int))).toNat (Qnfw.C.dflt Ty.step)).low != (0 : Int)) (some (.ret (.bool false) [])) (ifb (inb (0 : Int) (pathF (Qzdg c).ks (Qzdg c).ps (Qzdg c).es (Qzdg c).n).steps.length) (ifb (((pathF (Qzdg c).ks (Qzdg c).ps (Qzdg c).es (Qzdg c).n).steps.getD (Int.toNat (0 : Int)) (Qnfw.C.dflt Ty.step)).frm != ((stB (Qzdg c).ks (Qzdg c).ps (Qzdg c).es (Qzdg c).n).getD fl0).frm) (some (.ret (.bool false) [])) (ifb (inb (0 : Int) (pathF (Qzdg c).ks (Qzdg c).ps (Qzdg c).es (Qzdg c).n).steps.length) (ifb (((pathF (Qzdg c).ks (Qzdg c).ps (Qzdg c).es (Qzdg c).n).steps.getD (Int.toNat (0 : Int)) (Qnfw.C.dflt Ty.step)).by_ != ((stB (Qzdg c).ks (Qzdg c).ps (Qzdg c).es (Qzdg c).n).getD fl0).by_) (some (.ret (.bool false) [])) (ifb (inb (↑(pathF (Qzdg c).ks (Qzdg c).ps (Qzdg c).es (Qzdg c).n).steps.length : Int) (Qzdg c).l.length) (some (.go (Qu6t Qnfw.fn 18) [.sl .int ((Qzdg c).l), .ptr 0 0, .ptr 1 0, .int .i64 ((↑(pathF (Qzdg c).ks (Qzdg c).ps (Qzdg c).es (Qzdg c).n).steps.length : Int)), .int .i64 (IntKind.i64.wrap (((stB (Qzdg c).ks (Qzdg c).ps (Qzdg c).es (Qzdg c).n).getD fl0).frm + IntKind.i64.wrap ((IntKind.i64.wrap (IntKind.i64.wrap (((stB (Qzdg c).ks (Qzdg c).ps (Qzdg c).es (Qzdg c).n).getD fl0).by_ - ((stB (Qzdg c).ks (Qzdg c).ps (Qzdg c).es (Qzdg c).n).getD fl0).frm) * (Qzdg c).l.getD (↑(pathF (Qzdg c).ks (Qzdg c).ps (Qzdg c).es (Qzdg c).n).steps.length : Int).toNat (Qnfw.C.dflt Ty.int))).tdiv (10 : Int)))), .int .i64 (((stB (Qzdg c).ks (Qzdg c).ps (Qzdg c).es (Qzdg c).n).getD fl0).frm), .int .i64 (((stB (Qzdg c).ks (Qzdg c).ps (Qzdg c).es (Qzdg c).n).getD fl0).by_), .int .i64 (0 : Int)] [.box [.sl .step ((pathF (Qzdg c).ks (Qzdg c).ps (Qzdg c).es (Qzdg c).n).steps), .int .i64 ((pathF (Qzdg c).ks (Qzdg c).ps (Qzdg c).es (Qzdg c).n).frm), .int .i64 ((pathF (Qzdg c).ks (Qzdg c).ps (Qzdg c).es (Qzdg c).n).by_)], .box [.str (((stB (Qzdg c).ks (Qzdg c).ps (Qzdg c).es (Qzdg c).n).getD fl0).name), .str (((stB (Qzdg c).ks (Qzdg c).ps (Qzdg c).es (Qzdg c).n).getD fl0).kind.name), .int .i64 (((stB (Qzdg c).ks (Qzdg c).ps (Qzdg c).es (Qzdg c).n).getD fl0).kind.quick), .int .i64 (((stB (Qzdg c).ks (Qzdg c).ps (Qzdg c).es (Qzdg c).n).getD fl0).kind.slow), .int .i64 (((stB (Qzdg c).ks (Qzdg c).ps (Qzdg c).es (Qzdg c).n).getD fl0).frm), .int .i64 (((stB (Qzdg c).ks (Qzdg c).ps (Qzdg c).es (Qzdg c).n).getD fl0).by_), .int .i64 (((stB (Qzdg c).ks (Qzdg c).ps (Qzdg c).es (Qzdg c).n).getD fl0).level), .sl .str (((stB (Qzdg c).ks (Qzdg c).ps (Qzdg c).es (Qzdg c).n).getD fl0).route)]])) (none))) (none))) (none))) (none))) (none))) (none)) (none))) (none))) (none)) (none)) (none)) := by kernel_rfl
theorem Qq07 (x0 : List (El .int)) (x1 : Int) (x2 : Int) (x3 : Int) (x4 : Int) (x5 : Int) (x6 : List (El .step)) (x7 : Int) (x8 : Int) (x9 : Str) (x10 : Str) (x11 : Int) (x12 : Int) (x13 : Int) (x14 : Int) (x15 : Int) (x16 : List (El .str)) : aRun Qnfw 600 true (Qu6t Qnfw.fn 18) (cutSt Qnfw.fn (Q1m4 Qnfw (Qu6t Qnfw.fn 18)) [.sl .int x0, .ptr 0 0, .ptr 1 0, .int .i64 x1, .int .i64 x2, .int .i64 x3, .int .i64 x4, .int .i64 x5] [.box [.sl .step x6, .int .i64 x7, .int .i64 x8], .box [.str x9, .str x10, .int .i64 x11, .int .i64 x12, .int .i64 x13, .int .i64 x14, .int .i64 x15, .sl .str x16]]) =
  ifb (decide (x5 < x1)) (ifb (inb x5 x6.length) (ifb (decide (x2 < (x6.getD x5.toNat (Qnfw.C.dflt Ty.step)).frm)) (some (.ret (.bool false) [])) (ifb (decide (x2 > (x6.getD x5.toNat (Qnfw.C.dflt Ty.step)).by_)) (some (.ret (.bool false) [])) (ifb (x3 != (x6.getD x5.toNat (Qnfw.C.dflt Ty.step)).frm) (some (.ret (.bool false) [])) (ifb (x4 != (x6.getD x5.toNat (Qnfw.C.dflt Ty.step)).by_) (some (.ret (.bool false) [])) (ifb (decide ((x6.getD x5.toNat (Qnfw.C.dflt Ty.step)).low > (x6.getD x5.toNat (Qnfw.C.dflt Ty.step)).high)) (some (.ret (.bool false) [])) (ifb (decide ((x6.getD x5.toNat (Qnfw.C.dflt Ty.step)).high > x15)) (some (.ret (.bool false) [])) (ifb (decide (x5 > (0 : Int))) (ifb (inb (IntKind.i64.wrap (x5 - (1 : Int))) x6.length) (ifb (behK (x6.getD (IntKind.i64.wrap (x5 - (1 : Int))).toNat (Qnfw.C.dflt Ty.step)) (x6.getD x5.toNat (Qnfw.C.dflt Ty.step))) (ifb (inb x5 x0.length) (some (.go (Qu6t Qnfw.fn 18) [.sl .int x0, .ptr 0 0, .ptr 1 0, .int .i64 x1, .int .i64 (IntKind.i64.wrap (IntKind.i64.wrap (x2 + x11) + IntKind.i64.wrap ((IntKind.i64.wrap (IntKind.i64.wrap (x12 - x11) * x0.getD x5.toNat (Qnfw.C.dflt Ty.int))).tdiv (10 : Int)))), .int .i64 (IntKind.i64.wrap (x3 + x11)), .int .i64 (IntKind.i64.wrap (x4 + x12)), .int .i64 (IntKind.i64.wrap (x5 + (1 : Int)))] [.box [.sl .step x6, .int .i64 x7, .int .i64 x8], .box [.str x9, .str x10, .int .i64 x11, .int .i64 x12, .int .i64 x13, .int .i64 x14, .int .i64 x15, .sl .str x16]])) (none)) (none)) (none)) (ifb (inb x5 x0.length) (some (.go (Qu6t Qnfw.fn 18) [.sl .int x0, .ptr 0 0, .ptr 1 0, .int .i64 x1, .int .i64 (IntKind.i64.wrap (IntKind.i64.wrap (x2 + x11) + IntKind.i64.wrap ((IntKind.i64.wrap (IntKind.i64.wrap (x12 - x11) * x0.getD x5.toNat (Qnfw.C.dflt Ty.int))).tdiv (10 : Int)))), .int .i64 (IntKind.i64.wrap (x3 + x11)), .int .i64 (IntKind.i64.wrap (x4 + x12)), .int .i64 (IntKind.i64.wrap (x5 + (1 : Int)))] [.box [.sl .step x6, .int .i64 x7, .int .i64 x8], .box [.str x9, .str x10, .int .i64 x11, .int .i64 x12, .int .i64 x13, .int .i64 x14, .int .i64 x15, .sl .str x16]])) (none))))))))) (none)) (ifb (decide (x2 ≥ x7)) (ifb (decide (x2 ≤ x8)) (ifb (x3 == x7) (some (.ret (.bool (x4 == x8)) [])) (some (.ret (.bool false) []))) (some (.ret (.bool false) []))) (some (.ret (.bool false) []))) := by kernel_rfl
theorem Qqgv {ks : List Kind} {ps : List Point} {f : Flight} {cs : List Cell} {pl : List Int} (hc : Qqfy ks ps f.route = some cs) (hpl : pl.length = 41) (hy : ∀ y ∈ pl, (0 : Int) ≤ y ∧ y ≤ 10) (hfl : 0 ≤ f.frm ∧ f.frm ≤ f.by_ ∧ f.by_ ≤ 10000 ∧ 1 ≤ f.kind.quick ∧ f.kind.quick ≤ f.kind.slow ∧ f.kind.slow ≤ 50 ∧ inR f.level 1 6 = true) (hend : f.by_ + cs.length * f.kind.slow ≤ 10000) : ∀ (d k : Nat) (t : Int), k + d = cs.length → f.frm + k * f.kind.quick ≤ t → t ≤ f.by_ + k * f.kind.slow →
    Cut Qnfw Qimx 18 [.sl .int pl, .ptr 0 0, .ptr 1 0, .int .i64 (cs.length : Int), .int .i64 t, .int .i64 (f.frm + k * f.kind.quick), .int .i64 (f.by_ + k * f.kind.slow), .int .i64 (k : Int)] [.box [.sl .step ((List.range cs.length).map (Q9ns f cs)), .int .i64 (f.frm + cs.length * f.kind.quick), .int .i64 (f.by_ + cs.length * f.kind.slow)], .box [.str f.name, .str f.kind.name, .int .i64 f.kind.quick, .int .i64 f.kind.slow, .int .i64 f.frm, .int .i64 f.by_, .int .i64 f.level, .sl .str f.route]] (.bool true) [] := by
  obtain ⟨h0, h1, h2, h3, h4, h5, h6⟩ := hfl
  obtain ⟨_, _, h40, hone, hadj, _⟩ := Qugn hc
  intro d
  induction d with
  | zero =>
    intro k t hk t1 t2
    obtain rfl : k = cs.length := by omega
    refine Cut.of Q55j rfl (Qq07 pl cs.length t _ _ _ _ _ _ f.name f.kind.name f.kind.quick f.kind.slow f.frm f.by_ f.level f.route) ?_
    rw [show decide ((cs.length : Int) < (cs.length : Int)) = false from decide_eq_false (by omega), show decide (t ≥ f.frm + cs.length * f.kind.quick) = true from decide_eq_true t1, show decide (t ≤ f.by_ + cs.length * f.kind.slow) = true from decide_eq_true t2]
    simp only [Qd8q, Qj7y, beq_self_eq_true]
    exact Sat.ret rfl rfl
  | succ d ih =>
    intro k t hk t1 t2
    have hlt : k < cs.length := by omega
    refine Cut.of Q55j rfl (Qq07 pl cs.length t _ _ k _ _ _ f.name f.kind.name f.kind.quick f.kind.slow f.frm f.by_ f.level f.route) ?_
    have hi : inb (k : Int) ((List.range cs.length).map (Q9ns f cs)).length = true := by simp only [inb, Bool.and_eq_true, decide_eq_true_eq, List.length_map, List.length_range]; omega
    have hip : inb (k : Int) pl.length = true := by simp only [inb, Bool.and_eq_true, decide_eq_true_eq]; omega
    have hs : ((List.range cs.length).map (Q9ns f cs)).getD (k : Int).toNat (Qnfw.C.dflt Ty.step) = Q9ns f cs k := by rw [Int.toNat_natCast]; exact Qnxc hlt _
    obtain ⟨m1, m2, m3⟩ := Q19o (q := f.kind.quick) (s := f.kind.slow) (show k ≤ cs.length by omega) h3 h4
    obtain ⟨n1, n2, n3⟩ := Q19o (q := f.kind.quick) (s := f.kind.slow) (show k + 1 ≤ cs.length by omega) h3 h4
    have e1 : ((k + 1 : Nat) : Int) * f.kind.quick = k * f.kind.quick + f.kind.quick := by rw [Int.natCast_add, Int.add_mul]; omega
    have e2 : ((k + 1 : Nat) : Int) * f.kind.slow = k * f.kind.slow + f.kind.slow := by rw [Int.natCast_add, Int.add_mul]; omega
    have l1 := Qqef h40 hlt h6
    have l2 := Qqef (k := k - 1) h40 (by omega) h6
    have hpy : pl.getD (k : Int).toNat (Qnfw.C.dflt Ty.int) ∈ pl := by
      rw [Int.toNat_natCast, List.getD_eq_getElem?_getD, List.getElem?_eq_getElem (by omega)]; exact List.getElem_mem _
    have hyk := hy _ hpy
    have hyy : ∃ y, y = pl.getD (k : Int).toNat (Qnfw.C.dflt Ty.int) := ⟨_, rfl⟩
    obtain ⟨y, ey⟩ := hyy
    rw [← ey] at hyk
    obtain ⟨p1, p2, p3, p4⟩ := Qrzg (d := f.kind.slow - f.kind.quick) (by omega) hyk
    have w1 : IntKind.wrap .i64 (f.kind.slow - f.kind.quick) = f.kind.slow - f.kind.quick := Qbrg (by omega) (by omega)
    have w2 : IntKind.wrap .i64 ((f.kind.slow - f.kind.quick) * y) = (f.kind.slow - f.kind.quick) * y := Qbrg (by omega) (by omega)
    have w3 : IntKind.wrap .i64 (((f.kind.slow - f.kind.quick) * y).tdiv 10) = ((f.kind.slow - f.kind.quick) * y).tdiv 10 := Qbrg (by omega) (by omega)
    have w4 : IntKind.wrap .i64 (t + f.kind.quick) = t + f.kind.quick := Qbrg (by omega) (by omega)
    have w5 : IntKind.wrap .i64 (t + f.kind.quick + ((f.kind.slow - f.kind.quick) * y).tdiv 10) = t + f.kind.quick + ((f.kind.slow - f.kind.quick) * y).tdiv 10 := Qbrg (by omega) (by omega)
    have w6 : IntKind.wrap .i64 (f.frm + k * f.kind.quick + f.kind.quick) = f.frm + ((k + 1 : Nat) : Int) * f.kind.quick := by rw [e1, Qbrg (by omega) (by omega)]; omega
    have w7 : IntKind.wrap .i64 (f.by_ + k * f.kind.slow + f.kind.slow) = f.by_ + ((k + 1 : Nat) : Int) * f.kind.slow := by rw [e2, Qbrg (by omega) (by omega)]; omega
    have w8 : IntKind.wrap .i64 ((k : Int) + 1) = ((k + 1 : Nat) : Int) := by rw [Qbrg] <;> omega
    have nx := ih (k + 1) (t + f.kind.quick + ((f.kind.slow - f.kind.quick) * y).tdiv 10) (by omega) (by rw [e1]; omega) (by rw [e2]; omega)
    rw [show decide ((k : Int) < (cs.length : Int)) = true from decide_eq_true (by omega), hi, hs, hip, ← ey]
    have a1 : decide (t < (Q9ns f cs k).frm) = false := decide_eq_false (show ¬ t < f.frm + k * f.kind.quick by omega)
    have a2 : decide (t > (Q9ns f cs k).by_) = false := decide_eq_false (show ¬ t > f.by_ + k * f.kind.slow by omega)
    have a3 : (f.frm + k * f.kind.quick != (Q9ns f cs k).frm) = false := by simp [Q9ns]
    have a4 : (f.by_ + k * f.kind.slow != (Q9ns f cs k).by_) = false := by simp [Q9ns]
    have a5 : decide ((Q9ns f cs k).low > (Q9ns f cs k).high) = false := decide_eq_false (by simp only [Q9ns]; omega)
    have a6 : decide ((Q9ns f cs k).high > f.level) = false := decide_eq_false (by simp only [Q9ns]; omega)
    rw [a1, a2, a3, a4, a5, a6, w1, w2, w3, w4, w5, w6, w7, w8]
    simp only [Qd8q, Qj7y]
    by_cases hk0 : (k : Int) > 0
    · have wk : IntKind.wrap .i64 ((k : Int) - 1) = ((k - 1 : Nat) : Int) := by rw [Qbrg] <;> omega
      have hi1 : inb ((k - 1 : Nat) : Int) ((List.range cs.length).map (Q9ns f cs)).length = true := by simp only [inb, Bool.and_eq_true, decide_eq_true_eq, List.length_map, List.length_range]; omega
      have hs1 : ((List.range cs.length).map (Q9ns f cs)).getD ((k - 1 : Nat) : Int).toNat (Qnfw.C.dflt Ty.step) = Q9ns f cs (k - 1) := by rw [Int.toNat_natCast]; exact Qnxc (by omega) _
      have hb := Qds8 (f := f) (k := k - 1) hc (by omega)
      rw [show k - 1 + 1 = k by omega] at hb
      rw [decide_eq_true hk0, wk, hi1, hs1, hb]
      exact Sat.cut nx
    · rw [decide_eq_false hk0]
      exact Sat.cut nx
theorem Qdez (c : List Int) (hg : Qf9o c = true) : Qewq Tryz.prog CP Qimx [.sl .u8 c] [] (.bool true) [] := by
  refine Qewq.of Q55j (by kernel_rfl) (Q88l c) ?_
  have yes : Sat Qnfw Qimx (.bool true) [] (some (.ret (.bool true) [])) := Sat.ret rfl rfl
  refine Sat.ifb (fun _ => yes) (fun _ => ?_)
  obtain ⟨gb, gl, gy⟩ := (Qsei c hg).2
  generalize Qzdg c = z at gb gl gy ⊢
  simp only [goodS, goodB, Bool.and_eq_true, decide_eq_true_eq] at gb
  obtain ⟨⟨hz, hz2⟩, _, _, h9⟩ := gb
  have hlen : decide (z.es.length < 1000000000) = true := decide_eq_true (by omega)
  rw [hg, hz, hlen]
  simp only [Bool.and_self, Qd8q, bne_self_eq_false, Qj7y, decide_true, Bool.and_true]
  rw [decide_eq_true (Nat.le_trans Qjls (by omega) : (pathF z.ks z.ps z.es z.n).steps.length ≤ 1000000000), Qd8q]
  by_cases h0 : (pathF z.ks z.ps z.es z.n).code = 0
  · obtain ⟨f, cs, hst, hc, hend, hb, hp⟩ := Qv4v h0
    obtain ⟨q0, q1, q2, q3, q4, q5, q6⟩ := fl_ok hst
    obtain ⟨_, _, h40, hone, hadj, _⟩ := Qugn hc
    rw [hp, hst]
    simp only [bne_self_eq_false, Qj7y, Option.getD_some, List.length_map, List.length_range]
    have hi0 : inb (0 : Int) cs.length = true := by simp only [inb, Bool.and_eq_true, decide_eq_true_eq]; omega
    have hs0 : ((List.range cs.length).map (Q9ns f cs)).getD (Int.toNat 0) (Qnfw.C.dflt Ty.step) = Q9ns f cs 0 := Qnxc (by omega) _
    have wn : IntKind.wrap .i64 ((cs.length : Int) - 1) = ((cs.length - 1 : Nat) : Int) := by rw [Qbrg] <;> omega
    have hin : inb ((cs.length - 1 : Nat) : Int) cs.length = true := by simp only [inb, Bool.and_eq_true, decide_eq_true_eq]; omega
    have hsn : ((List.range cs.length).map (Q9ns f cs)).getD ((cs.length - 1 : Nat) : Int).toNat (Qnfw.C.dflt Ty.step) = Q9ns f cs (cs.length - 1) := by rw [Int.toNat_natCast]; exact Qnxc (by omega) _
    have v0 : lvl f cs.length 0 = 0 := by
      rw [Q5r4 h40 (by omega) q6]
      have := q6
      simp only [inR, Bool.and_eq_true, decide_eq_true_eq] at this
      omega
    have vn : lvl f cs.length (cs.length - 1) = 0 := by
      rw [Q5r4 h40 (by omega) q6]
      have := q6
      simp only [inR, Bool.and_eq_true, decide_eq_true_eq] at this
      omega
    have vm := Qqef (k := cs.length - 1 - 1) h40 (by omega) q6
    have b1 : ((Q9ns f cs 0).low != 0) = false := by simp [Q9ns, v0]
    have b2 : ((Q9ns f cs 0).high != 0) = false := by simp [Q9ns, v0]
    have b3 : ((Q9ns f cs (cs.length - 1)).low != 0) = false := by
      have : (Q9ns f cs (cs.length - 1)).low = 0 := by simp only [Q9ns]; omega
      simp [this]
    have b4 : ((Q9ns f cs 0).frm != f.frm) = false := by simp [Q9ns]
    have b5 : ((Q9ns f cs 0).by_ != f.by_) = false := by simp [Q9ns]
    have hip : inb (cs.length : Int) z.l.length = true := by simp only [inb, Bool.and_eq_true, decide_eq_true_eq]; omega
    rw [hi0, hs0, wn, hin, hsn, b1, b2, b3, b4, b5, hip]
    simp only [Qd8q, Qj7y]
    have hpy : z.l.getD (cs.length : Int).toNat (Qnfw.C.dflt Ty.int) ∈ z.l := by
      rw [Int.toNat_natCast, List.getD_eq_getElem?_getD, List.getElem?_eq_getElem (by omega)]; exact List.getElem_mem _
    have hyk := gy _ hpy
    generalize z.l.getD (cs.length : Int).toNat (Qnfw.C.dflt Ty.int) = y at hyk ⊢
    obtain ⟨p1, p2, p3, p4⟩ := Qrzg (d := f.by_ - f.frm) (by omega) hyk
    have w1 : IntKind.wrap .i64 (f.by_ - f.frm) = f.by_ - f.frm := Qbrg (by omega) (by omega)
    have w2 : IntKind.wrap .i64 ((f.by_ - f.frm) * y) = (f.by_ - f.frm) * y := Qbrg (by omega) (by omega)
    have w3 : IntKind.wrap .i64 (((f.by_ - f.frm) * y).tdiv 10) = ((f.by_ - f.frm) * y).tdiv 10 := Qbrg (by omega) (by omega)
    have w4 : IntKind.wrap .i64 (f.frm + ((f.by_ - f.frm) * y).tdiv 10) = f.frm + ((f.by_ - f.frm) * y).tdiv 10 := Qbrg (by omega) (by omega)
    rw [w1, w2, w3, w4]
    have nx := Qqgv hc gl gy ⟨q0, q1, q2, q3, q4, q5, q6⟩ hend cs.length 0 (f.frm + ((f.by_ - f.frm) * y).tdiv 10) (by omega) (by simp; omega) (by simp; omega)
    simp only [Int.natCast_zero, Int.zero_mul, Int.add_zero] at nx
    exact Sat.cut nx
  · obtain ⟨e1, e2, e3⟩ := Qac4 h0
    rw [e1, e2, e3, show ((pathF z.ks z.ps z.es z.n).code != 0) = true by simpa using h0]
    exact yes
end Lx
