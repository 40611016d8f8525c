/- Legs (spec). -/
import Derived.Test.YtefjaihaocdpcaaGreatDoorLmcmbkjnmef
set_option linter.unusedVariables false
set_option linter.unusedSimpArgs false
set_option maxRecDepth 4000
namespace Lx
open Go Go.Proofs
noncomputable def Qkc0 : RE Ty El := ⟨Tryz.prog, CP, [], Tryz.f198, 0, [], []⟩
theorem Qwab : REOK Qkc0 Qr21 := ⟨CP_ok, Qye1, by kernel_rfl, by kernel_rfl⟩
theorem Qdtv (d k n : Int) : aRun Qkc0 600 false (body0 Qkc0.fn) (Q4gm Qkc0.fn [.int .i64 d, .int .i64 k, .int .i64 n] []) =
 ifb (!IntKind.i64.wrap ((2 : Int) * n) == (0 : Int)) (ifb (decide (IntKind.i64.wrap (IntKind.i64.wrap (IntKind.i64.wrap ((2 : Int) * k) * d) + n) < (0 : Int))) (ifb (IntKind.i64.wrap (IntKind.i64.wrap (IntKind.i64.wrap ((IntKind.i64.wrap (IntKind.i64.wrap (IntKind.i64.wrap ((2 : Int) * k) * d) + n)).tdiv (IntKind.i64.wrap ((2 : Int) * n))) * (2 : Int)) * n) != IntKind.i64.wrap (IntKind.i64.wrap (IntKind.i64.wrap ((2 : Int) * k) * d) + n)) (some (.ret (.int .i64 (IntKind.i64.wrap (IntKind.i64.wrap ((IntKind.i64.wrap (IntKind.i64.wrap (IntKind.i64.wrap ((2 : Int) * k) * d) + n)).tdiv (IntKind.i64.wrap ((2 : Int) * n))) - (1 : Int)))) [])) (some (.ret (.int .i64 (IntKind.i64.wrap ((IntKind.i64.wrap (IntKind.i64.wrap (IntKind.i64.wrap ((2 : Int) * k) * d) + n)).tdiv (IntKind.i64.wrap ((2 : Int) * n))))) []))) (some (.ret (.int .i64 (IntKind.i64.wrap ((IntKind.i64.wrap (IntKind.i64.wrap (IntKind.i64.wrap ((2 : Int) * k) * d) + n)).tdiv (IntKind.i64.wrap ((2 : Int) * n))))) []))) (none) := by kernel_rfl
theorem Q9tk (d k n : Int) (hg : Qjgw d k n = true) : Qewq Tryz.prog CP Qr21 [.int .i64 d, .int .i64 k, .int .i64 n] [] (.int .i64 (partF d k n)) [] := by
 refine Qewq.of Qwab (by kernel_rfl) (Qdtv d k n) ?_
 simp only [Qjgw, Bool.and_eq_true, decide_eq_true_eq] at hg
 obtain ⟨⟨d1, d2⟩, ⟨k1, k2⟩, n1, n2⟩ := hg
 have hkd : (2 * k * d).natAbs ≤ 2000 * 1000 := by
  rw [Int.natAbs_mul]
  exact Nat.mul_le_mul (by omega) (by omega)
 have w1 : IntKind.wrap .i64 (2 * k) = 2 * k := Qbrg (by omega) (by omega)
 have w2 : IntKind.wrap .i64 (2 * k * d) = 2 * k * d := Qbrg (by omega) (by omega)
 have w3 : IntKind.wrap .i64 (2 * k * d + n) = 2 * k * d + n := Qbrg (by omega) (by omega)
 have w4 : IntKind.wrap .i64 (2 * n) = 2 * n := Qbrg (by omega) (by omega)
 rw [w1, w2, w3, w4]
 have hfl := Qvfe (x := 2 * k * d + n) (y := 2 * n) (by omega)
 have hpf : partF d k n = (2 * k * d + n) / (2 * n) := rfl
 rw [← hpf] at hfl
 have hv : (2 * k * d + n).natAbs ≤ 2001000 := by omega
 generalize 2 * k * d + n = v at *
 have q1 : (v.tdiv (2 * n)).natAbs ≤ v.natAbs := Int.natAbs_tdiv_le_natAbs _ _
 have q2 := Int.mul_tdiv_add_tmod v (2 * n)
 have q3 := Int.tmod_lt_of_pos v (show (0 : Int) < 2 * n by omega)
 have q4 := Int.lt_tmod_of_pos v (show (0 : Int) < 2 * n by omega)
 have q5 : v.tdiv (2 * n) * 2 * n = 2 * n * v.tdiv (2 * n) := by rw [Int.mul_assoc, Int.mul_comm]
 have q6 : v.tdiv (2 * n) * (2 * n) = 2 * n * v.tdiv (2 * n) := Int.mul_comm _ _
 rw [q6] at hfl
 generalize hp : 2 * n * v.tdiv (2 * n) = p at *
 generalize hq : v.tdiv (2 * n) = q at *
 have w5 : IntKind.wrap .i64 q = q := Qbrg (by omega) (by omega)
 have w6 : IntKind.wrap .i64 (q * 2) = q * 2 := Qbrg (by omega) (by omega)
 have w7 : IntKind.wrap .i64 p = p := Qbrg (by omega) (by omega)
 have w8 : IntKind.wrap .i64 (q - 1) = q - 1 := Qbrg (by omega) (by omega)
 rw [w5, w6, q5, w7, w8]
 have hn0 : (!(2 * n == (0 : Int))) = true := by
  have : (2 * n == (0 : Int)) = false := beq_eq_false_iff_ne.2 (by omega)
  rw [this]; rfl
 rw [hn0]
 simp only [Qd8q]
 by_cases h0 : v < 0
 ·rw [decide_eq_true h0]
  by_cases h1 : p = v
  ·rw [show (p != v) = false by simp [h1]]
   refine Sat.retI ?_ rfl
   rw [hfl, if_neg (fun h => h.2 h1)]
  ·rw [show (p != v) = true by simp [h1]]
   refine Sat.retI ?_ rfl
   rw [hfl, if_pos ⟨h0, h1⟩]
 ·rw [decide_eq_false h0]
  refine Sat.retI ?_ rfl
  rw [hfl, if_neg (fun h => h0 h.1)]
theorem Qoyb : EntOK Tryz.prog CP Qr21 Qiku := by
 refine ⟨⟨Tryz.f198, by kernel_rfl, by kernel_rfl, by kernel_rfl⟩, fun args H res H' h => ?_⟩
 simp only [Qiku] at h
 split at h
 ·simp only [Option.some.injEq, Prod.mk.injEq] at h
  obtain ⟨hg, rfl, rfl⟩ := h
  exact Q9tk _ _ _ hg
 ·cases h
end Lx
/- Legs: plain facts. -/
namespace Lx
open Go Go.Proofs
theorem Qjpf {d k n : Int} (hn : 0 < n) {M : Nat} (h : (2 * k * d + n).natAbs ≤ M) : (partF d k n).natAbs ≤ M + 1 := by
 have hfl := Qvfe (x := 2 * k * d + n) (y := 2 * n) (by omega)
 have hpf : partF d k n = (2 * k * d + n) / (2 * n) := rfl
 rw [← hpf] at hfl
 have q1 : ((2 * k * d + n).tdiv (2 * n)).natAbs ≤ (2 * k * d + n).natAbs := Int.natAbs_tdiv_le_natAbs _ _
 rw [hfl]
 split <;> omega
theorem Qrkr {d n : Int} (hn : 0 < n) : partF d 0 n = 0 := by
 have : partF d 0 n = n / (2 * n) := by simp [partF]
 rw [this]
 exact Int.ediv_eq_zero_of_lt (by omega) (by omega)
theorem Qse4 (a b : Cell) : legAt a b 0 = a := by
 unfold legAt
 split
 ·rfl
 ·rename_i h
  have hn : (0 : Int) < (legN a b : Int) := by omega
  have e1 := Qrkr (d := b.x - a.x) hn
  have e2 := Qrkr (d := b.y - a.y) hn
  have : ((0 : Nat) : Int) = 0 := rfl
  rw [this, e1, e2]
  simp
theorem Q1tq {a b : Cell} (ha : Qlxz a = true) (hb : Qlxz b = true) : legN a b ≤ 100 := by
 simp only [Qlxz, Bool.and_eq_true, decide_eq_true_eq] at ha hb
 unfold legN
 omega
end Lx
/- Legs (spec). -/
namespace Lx
open Go Go.Proofs
noncomputable def Qewk : RE Ty El := ⟨Tryz.prog, CP, [(Qupj, Q3k9), (Q89f, Qhoa), (Qr21, Qiku)], Tryz.f126, 0, [.ro .cell], [(5, [(5, .any), (6, .any), (7, .any)]), (12, [(2, .any), (3, .any), (5, .any), (8, .any), (9, .any)])]⟩
theorem Qy9g : REOK Qewk Qc7b := ⟨CP_ok, (TabOK.cons Qo5a (TabOK.cons Qdco (TabOK.cons Qoyb Qye1))), by kernel_rfl, by kernel_rfl⟩
theorem Qk1t (ax ay bx b_y : Int) : aRun Qewk 600 false (body0 Qewk.fn) (Q4gm Qewk.fn [.agg [.int .i64 ax, .int .i64 ay], .agg [.int .i64 bx, .int .i64 b_y]] []) =
 ifb (decide (bx < ax)) (none) (ifb (bx == ax) (ifb (decide (b_y < ay)) (none) (ifb (Q0d5 (IntKind.i64.wrap (ax - bx))) (ifb (Q0d5 (IntKind.i64.wrap (ay - b_y))) (some (.go (Qu6t Qewk.fn 12) [.ptr 0 0, .ptr 1 0, .own 2 [] 0, .int .i64 (max (↑(IntKind.i64.wrap (ax - bx)).natAbs : Int) (↑(IntKind.i64.wrap (ay - b_y)).natAbs : Int)), .int .i64 (1 : Int)] [.box [.int .i64 ax, .int .i64 ay], .box [.int .i64 bx, .int .i64 b_y], .row .cell ([] ++ [Cell.mk ax ay]) 0 0 0 .no])) (none)) (none))) (ifb (Q0d5 (IntKind.i64.wrap (ax - bx))) (ifb (Q0d5 (IntKind.i64.wrap (ay - b_y))) (some (.go (Qu6t Qewk.fn 12) [.ptr 0 0, .ptr 1 0, .own 2 [] 0, .int .i64 (max (↑(IntKind.i64.wrap (ax - bx)).natAbs : Int) (↑(IntKind.i64.wrap (ay - b_y)).natAbs : Int)), .int .i64 (1 : Int)] [.box [.int .i64 ax, .int .i64 ay], .box [.int .i64 bx, .int .i64 b_y], .row .cell ([] ++ [Cell.mk ax ay]) 0 0 0 .no])) (none)) (none))) := by kernel_rfl
theorem Qwan (x0 : Int) (x1 : Int) (x2 : Int) (x3 : Int) (x4 : Int) (x5 : Int) (x6 : List (El .cell)) : aRun Qewk 600 true (Qu6t Qewk.fn 12) (cutSt Qewk.fn (Q1m4 Qewk (Qu6t Qewk.fn 12)) [.ptr 0 0, .ptr 1 0, .own 2 [] 0, .int .i64 x0, .int .i64 x1] [.box [.int .i64 x2, .int .i64 x3], .box [.int .i64 x4, .int .i64 x5], .row .cell x6 0 0 0 .no]) =
 ifb (decide (x1 ≤ x0)) (ifb (Qjgw (IntKind.i64.wrap (x4 - x2)) x1 x0) (ifb (Qjgw (IntKind.i64.wrap (x5 - x3)) x1 x0) (ifb (decide ((x6.length + [Cell.mk (IntKind.i64.wrap (x2 + partF (IntKind.i64.wrap (x4 - x2)) x1 x0)) (IntKind.i64.wrap (x3 + partF (IntKind.i64.wrap (x5 - x3)) x1 x0))].length) * Qbhn Qewk.P (72 : Nat) ≤ (140737488355328 : Nat))) (some (.go (Qu6t Qewk.fn 12) [.ptr 0 0, .ptr 1 0, .own 2 [] 0, .int .i64 x0, .int .i64 (IntKind.i64.wrap (x1 + (1 : Int)))] [.box [.int .i64 x2, .int .i64 x3], .box [.int .i64 x4, .int .i64 x5], .row .cell (x6 ++ [Cell.mk (IntKind.i64.wrap (x2 + partF (IntKind.i64.wrap (x4 - x2)) x1 x0)) (IntKind.i64.wrap (x3 + partF (IntKind.i64.wrap (x5 - x3)) x1 x0))]) 0 0 0 .no])) (none)) (none)) (none)) (some (.ret (.sl .cell x6) [])) := by kernel_rfl
theorem Q9er (a b : Cell) (ha : Qlxz a = true) (hb : Qlxz b = true) : ∀ (d k : Nat), k + d = legN a b + 1 → 1 ≤ k →
  Cut Qewk Qc7b 12 [.ptr 0 0, .ptr 1 0, .own 2 [] 0, .int .i64 (legN a b : Int), .int .i64 (k : Int)] [.box [.int .i64 a.x, .int .i64 a.y], .box [.int .i64 b.x, .int .i64 b.y], .row .cell ((List.range k).map (legAt a b)) 0 0 0 .no] (.sl .cell (legF a b)) [] := by
 have hn := Q1tq ha hb
 have hbs : Qbhn Qewk.P 72 = 16 := by kernel_rfl
 simp only [Qlxz, Bool.and_eq_true, decide_eq_true_eq] at ha hb
 intro d
 induction d with
 | zero =>
  intro k hk h1
  refine Cut.of Qy9g rfl (Qwan (legN a b) k a.x a.y b.x b.y _) ?_
  rw [decide_eq_false (by omega)]
  refine Sat.ret ?_ rfl
  have : k = legN a b + 1 := by omega
  rw [this]; rfl
 | succ d ih =>
  intro k hk h1
  refine Cut.of Qy9g rfl (Qwan (legN a b) k a.x a.y b.x b.y _) ?_
  have hw : IntKind.wrap .i64 ((k : Int) + 1) = ((k + 1 : Nat) : Int) := by rw [Qbrg] <;> omega
  have wx : IntKind.wrap .i64 (b.x - a.x) = b.x - a.x := Qbrg (by omega) (by omega)
  have wy : IntKind.wrap .i64 (b.y - a.y) = b.y - a.y := Qbrg (by omega) (by omega)
  have hN : ¬ legN a b = 0 := by omega
  have px : Qjgw (b.x - a.x) k (legN a b) = true := by simp only [Qjgw, Bool.and_eq_true, decide_eq_true_eq]; omega
  have py : Qjgw (b.y - a.y) k (legN a b) = true := by simp only [Qjgw, Bool.and_eq_true, decide_eq_true_eq]; omega
  have bnd : ∀ e : Int, e.natAbs ≤ 100 → (partF e k (legN a b)).natAbs ≤ 30001 := fun e he => Qjpf (by omega) (M := 30000) (by
   have : (2 * (k : Int) * e).natAbs ≤ 202 * 100 := by
    rw [Int.natAbs_mul]
    exact Nat.mul_le_mul (by omega) he
   omega)
  have bx := bnd (b.x - a.x) (by omega)
  have by' := bnd (b.y - a.y) (by omega)
  have w1 : IntKind.wrap .i64 (a.x + partF (b.x - a.x) k (legN a b)) = a.x + partF (b.x - a.x) k (legN a b) := Qbrg (by omega) (by omega)
  have w2 : IntKind.wrap .i64 (a.y + partF (b.y - a.y) k (legN a b)) = a.y + partF (b.y - a.y) k (legN a b) := Qbrg (by omega) (by omega)
  rw [wx, wy, px, py, w1, w2, hw, hbs, decide_eq_true (by omega : (k : Int) ≤ (legN a b : Int))]
  simp only [Qd8q]
  have hroom : ∀ x : Cell, decide ((((List.range k).map (legAt a b)).length + [x].length) * 16 ≤ 140737488355328) = true := fun x => decide_eq_true (by simp; omega)
  rw [hroom]
  have := ih (k + 1) (by omega) (by omega)
  rw [List.range_succ, List.map_append] at this
  have e : legAt a b k = ⟨a.x + partF (b.x - a.x) k (legN a b), a.y + partF (b.y - a.y) k (legN a b)⟩ := by unfold legAt; rw [if_neg hN]
  rw [List.map_cons, List.map_nil, e] at this
  exact Sat.cut this
theorem Qt1e (ax ay bx b_y : Int) (hg : ((Qlxz ⟨ax, ay⟩ && Qlxz ⟨bx, b_y⟩) && !Qdow ⟨ax, ay⟩ ⟨bx, b_y⟩) = true) : Qewq Tryz.prog CP Qc7b [.agg [.int .i64 ax, .int .i64 ay], .agg [.int .i64 bx, .int .i64 b_y]] [] (.sl .cell (legF ⟨ax, ay⟩ ⟨bx, b_y⟩)) [] := by
 refine Qewq.of Qy9g (by kernel_rfl) (Qk1t ax ay bx b_y) ?_
 simp only [Bool.and_eq_true, Bool.not_eq_true'] at hg
 obtain ⟨⟨ha, hb⟩, ht⟩ := hg
 have hs := Q9er ⟨ax, ay⟩ ⟨bx, b_y⟩ ha hb (legN ⟨ax, ay⟩ ⟨bx, b_y⟩) 1 (by omega) (Nat.le_refl _)
 have e1 : (List.range 1).map (legAt ⟨ax, ay⟩ ⟨bx, b_y⟩) = [] ++ [(⟨ax, ay⟩ : Cell)] := by
  show [legAt _ _ 0] = _
  rw [Qse4]; rfl
 rw [e1] at hs
 simp only [Qlxz, Bool.and_eq_true, decide_eq_true_eq] at ha hb
 have wx : IntKind.wrap .i64 (ax - bx) = ax - bx := Qbrg (by omega) (by omega)
 have wy : IntKind.wrap .i64 (ay - b_y) = ay - b_y := Qbrg (by omega) (by omega)
 have sx : Q0d5 (ax - bx) = true := by simp only [Q0d5, Bool.and_eq_true, decide_eq_true_eq]; omega
 have sy : Q0d5 (ay - b_y) = true := by simp only [Q0d5, Bool.and_eq_true, decide_eq_true_eq]; omega
 have hmax : max ((ax - bx).natAbs : Int) ((ay - b_y).natAbs : Int) = (legN ⟨ax, ay⟩ ⟨bx, b_y⟩ : Int) := by
  unfold legN
  simp only
  omega
 simp only [Qdow, Bool.or_eq_false_iff] at ht
 rw [wx, wy, sx, sy, hmax, ht.1]
 simp only [Qk7y, Qd8q]
 cases hq : (bx == ax) with
 | false => exact Sat.cut hs
 | true =>
  have := ht.2
  rw [hq, Bool.true_and] at this
  rw [this]
  exact Sat.cut hs
theorem Qd5n : EntOK Tryz.prog CP Qc7b Qgae := by
 refine ⟨⟨Tryz.f126, by kernel_rfl, by kernel_rfl, by kernel_rfl⟩, fun args H res H' h => ?_⟩
 simp only [Qgae] at h
 split at h
 ·simp only [Option.some.injEq, Prod.mk.injEq] at h
  obtain ⟨hg, rfl, rfl⟩ := h
  exact Qt1e _ _ _ _ hg
 ·cases h
end Lx
/- Legs (spec), both ways. -/
namespace Lx
open Go Go.Proofs
noncomputable def Qf0i : RE Ty El := ⟨Tryz.prog, CP, [(Qupj, Q3k9), (Q89f, Qhoa), (Qr21, Qiku), (Qc7b, Qgae)], Tryz.f126, 0, [.ro .cell], [(5, [(5, .any), (6, .any), (7, .any)]), (12, [(2, .any), (3, .any), (5, .any), (8, .any), (9, .any)])]⟩
theorem Q708 : REOK Qf0i Qc7b := ⟨CP_ok, (TabOK.cons Qo5a (TabOK.cons Qdco (TabOK.cons Qoyb (TabOK.cons Qd5n Qye1)))), by kernel_rfl, by kernel_rfl⟩
theorem Qfcf (ax ay bx b_y : Int) : aRun Qf0i 600 false (body0 Qf0i.fn) (Q4gm Qf0i.fn [.agg [.int .i64 ax, .int .i64 ay], .agg [.int .i64 bx, .int .i64 b_y]] []) =
 ifb (decide (bx < ax)) (ifb (Qlxz (Cell.mk bx b_y) && Qlxz (Cell.mk ax ay) && !Qdow (Cell.mk bx b_y) (Cell.mk ax ay)) (some (.go (Qu6t Qf0i.fn 5) [.own 0 [] 0, .sl .cell (legF (Cell.mk bx b_y) (Cell.mk ax ay)), .int .i64 (IntKind.i64.wrap ((↑(legF (Cell.mk bx b_y) (Cell.mk ax ay)).length : Int) - (1 : Int)))] [.row .cell [] 0 0 0 .no])) (none)) (ifb (bx == ax) (ifb (decide (b_y < ay)) (ifb (Qlxz (Cell.mk bx b_y) && Qlxz (Cell.mk ax ay) && !Qdow (Cell.mk bx b_y) (Cell.mk ax ay)) (some (.go (Qu6t Qf0i.fn 5) [.own 0 [] 0, .sl .cell (legF (Cell.mk bx b_y) (Cell.mk ax ay)), .int .i64 (IntKind.i64.wrap ((↑(legF (Cell.mk bx b_y) (Cell.mk ax ay)).length : Int) - (1 : Int)))] [.row .cell [] 0 0 0 .no])) (none)) (ifb (Q0d5 (IntKind.i64.wrap (ax - bx))) (ifb (Q0d5 (IntKind.i64.wrap (ay - b_y))) (some (.go (Qu6t Qf0i.fn 12) [.ptr 0 0, .ptr 1 0, .own 2 [] 0, .int .i64 (max (↑(IntKind.i64.wrap (ax - bx)).natAbs : Int) (↑(IntKind.i64.wrap (ay - b_y)).natAbs : Int)), .int .i64 (1 : Int)] [.box [.int .i64 ax, .int .i64 ay], .box [.int .i64 bx, .int .i64 b_y], .row .cell ([] ++ [Cell.mk ax ay]) 0 0 0 .no])) (none)) (none))) (ifb (Q0d5 (IntKind.i64.wrap (ax - bx))) (ifb (Q0d5 (IntKind.i64.wrap (ay - b_y))) (some (.go (Qu6t Qf0i.fn 12) [.ptr 0 0, .ptr 1 0, .own 2 [] 0, .int .i64 (max (↑(IntKind.i64.wrap (ax - bx)).natAbs : Int) (↑(IntKind.i64.wrap (ay - b_y)).natAbs : Int)), .int .i64 (1 : Int)] [.box [.int .i64 ax, .int .i64 ay], .box [.int .i64 bx, .int .i64 b_y], .row .cell ([] ++ [Cell.mk ax ay]) 0 0 0 .no])) (none)) (none))) := by kernel_rfl
theorem Qj4o (x0 : List (El .cell)) (x1 : Int) (x2 : List (El .cell)) : aRun Qf0i 600 true (Qu6t Qf0i.fn 5) (cutSt Qf0i.fn (Q1m4 Qf0i (Qu6t Qf0i.fn 5)) [.own 0 [] 0, .sl .cell x0, .int .i64 x1] [.row .cell x2 0 0 0 .no]) =
 ifb (decide (x1 ≥ (0 : Int))) (ifb (inb x1 x0.length) (ifb (decide ((x2.length + [x0.getD x1.toNat (Qf0i.C.dflt Ty.cell)].length) * Qbhn Qf0i.P (72 : Nat) ≤ (140737488355328 : Nat))) (some (.go (Qu6t Qf0i.fn 5) [.own 0 [] 0, .sl .cell x0, .int .i64 (IntKind.i64.wrap (x1 - (1 : Int)))] [.row .cell (x2 ++ [x0.getD x1.toNat (Qf0i.C.dflt Ty.cell)]) 0 0 0 .no])) (none)) (none)) (some (.ret (.sl .cell x2) [])) := by kernel_rfl
theorem Qnmc (xs : List Cell) (hx : xs.length ≤ 1000) : ∀ (j : Nat), j ≤ xs.length →
  Cut Qf0i Qc7b 5 [.own 0 [] 0, .sl .cell xs, .int .i64 ((j : Int) - 1)] [.row .cell ((xs.drop j).reverse) 0 0 0 .no] (.sl .cell xs.reverse) [] := by
 have hbs : Qbhn Qf0i.P 72 = 16 := by kernel_rfl
 intro j
 induction j with
 | zero =>
  intro hj
  refine Cut.of Q708 rfl (Qj4o xs _ _) ?_
  rw [decide_eq_false (by omega)]
  exact Sat.ret (by rw [List.drop_zero]) rfl
 | succ j ih =>
  intro hj
  refine Cut.of Q708 rfl (Qj4o xs _ _) ?_
  have hlt : j < xs.length := by omega
  have ej : ((j + 1 : Nat) : Int) - 1 = (j : Int) := by omega
  have hw : IntKind.wrap .i64 ((j : Int) - 1) = (j : Int) - 1 := Qbrg (by omega) (by omega)
  have hxj : xs.getD (j : Int).toNat (Qf0i.C.dflt .cell) = xs[j] := by simp [hlt]
  have hin : inb (j : Int) xs.length = true := by simp only [inb, Bool.and_eq_true, decide_eq_true_eq]; omega
  have hroom : decide ((((xs.drop (j + 1)).reverse).length + [xs[j]].length) * 16 ≤ 140737488355328) = true := decide_eq_true (by simp; omega)
  have hd : (xs.drop j).reverse = (xs.drop (j + 1)).reverse ++ [xs[j]] := by rw [List.drop_eq_getElem_cons hlt, List.reverse_cons]
  rw [ej, hw, hxj, hin, hbs, hroom, decide_eq_true (by omega : (j : Int) ≥ 0)]
  have := ih (by omega)
  rw [hd] at this
  exact Sat.cut this
theorem Qm49 (ax ay bx b_y : Int) (hg : (Qlxz ⟨ax, ay⟩ && Qlxz ⟨bx, b_y⟩) = true) : Qewq Tryz.prog CP Qc7b [.agg [.int .i64 ax, .int .i64 ay], .agg [.int .i64 bx, .int .i64 b_y]] [] (.sl .cell (Qppc ⟨ax, ay⟩ ⟨bx, b_y⟩)) [] := by
 simp only [Bool.and_eq_true] at hg
 cases ht : Qdow ⟨ax, ay⟩ ⟨bx, b_y⟩ with
 | false =>
  have := Qt1e ax ay bx b_y (by rw [hg.1, hg.2, ht]; rfl)
  rw [show Qppc ⟨ax, ay⟩ ⟨bx, b_y⟩ = legF ⟨ax, ay⟩ ⟨bx, b_y⟩ by rw [Qppc, ht]; rfl]
  exact this
 | true =>
  refine Qewq.of Q708 (by kernel_rfl) (Qfcf ax ay bx b_y) ?_
  have hn := Q1tq hg.2 hg.1
  have hlen : (legF ⟨bx, b_y⟩ ⟨ax, ay⟩).length ≤ 1000 := by simp [legF]; omega
  have ht2 : Qdow ⟨bx, b_y⟩ ⟨ax, ay⟩ = false := by
   simp only [Qdow, Bool.or_eq_true, Bool.and_eq_true, decide_eq_true_eq, beq_iff_eq] at ht
   simp only [Qdow, Bool.or_eq_false_iff, Bool.and_eq_false_iff, decide_eq_false_iff_not, beq_eq_false_iff_ne]
   omega
  have hs := Qnmc (legF ⟨bx, b_y⟩ ⟨ax, ay⟩) hlen _ (Nat.le_refl _)
  rw [List.drop_length] at hs
  rw [show Qppc ⟨ax, ay⟩ ⟨bx, b_y⟩ = (legF ⟨bx, b_y⟩ ⟨ax, ay⟩).reverse by rw [Qppc, ht]; rfl]
  have hwl : IntKind.wrap .i64 (((legF ⟨bx, b_y⟩ ⟨ax, ay⟩).length : Int) - 1) = ((legF ⟨bx, b_y⟩ ⟨ax, ay⟩).length : Int) - 1 := Qbrg (by omega) (by omega)
  rw [hg.1, hg.2, ht2, hwl]
  simp only [Qdow, Bool.or_eq_true, Bool.and_eq_true, decide_eq_true_eq, beq_iff_eq] at ht
  by_cases h1 : bx < ax
  ·rw [decide_eq_true h1]
   exact Sat.cut hs
  ·rw [decide_eq_false h1]
   have h2 : bx = ax ∧ b_y < ay := ht.resolve_left h1
   rw [beq_iff_eq.2 h2.1, decide_eq_true h2.2]
   exact Sat.cut hs
theorem Qj3q : EntOK Tryz.prog CP Qc7b Qusy := by
 refine ⟨⟨Tryz.f126, by kernel_rfl, by kernel_rfl, by kernel_rfl⟩, fun args H res H' h => ?_⟩
 simp only [Qusy] at h
 split at h
 ·simp only [Option.some.injEq, Prod.mk.injEq] at h
  obtain ⟨hg, rfl, rfl⟩ := h
  exact Qm49 _ _ _ _ hg
 ·cases h
end Lx
/- Meanings: cells of a route. -/
namespace Lx
open Go Go.Proofs
def Qg2m (ps : List Point) (n : Str) : Cell := ⟨(ptOf ps n).x, (ptOf ps n).y⟩
def tailC (ps : List Point) (w : List Str) (i : Nat) : List Cell := (Qppc (Qg2m ps (w.getD i [])) (Qg2m ps (w.getD (i + 1) []))).drop 1
def Qya3 (ps : List Point) (w : List Str) (m : Nat) : List Cell := Qg2m ps (w.getD 0 []) :: (List.range m).flatMap (tailC ps w)
def Qqfy (ks : List Kind) (ps : List Point) (w : List Str) : Option (List Cell) :=
 if Qib4 ks ps = true ∧ Qyhl ps w = true ∧ (Qya3 ps w (w.length - 1)).length ≤ 40 then some (Qya3 ps w (w.length - 1)) else none
def Qkcc (o : Option (List Cell)) : V := .tup [.sl .cell (o.getD []), .bool o.isSome]
theorem Q3tn {ps : List Point} : ∀ {w : List Str} {prev : Option Str}, Qyf3 ps prev w = true → ∀ n ∈ w, 0 ≤ Qigq ps n
 | [], _, _, n, hn => by simp at hn
 | a :: w, prev, h, n, hn => by
  rw [Qyf3] at h
  simp only [Bool.and_eq_true, Bool.not_eq_true', decide_eq_false_iff_not] at h
  simp only [List.mem_cons] at hn
  rcases hn with rfl | hn
  ·omega
  ·exact Q3tn h.2.2 n hn
theorem Quu2 {ps : List Point} {w : List Str} (h : Qyhl ps w = true) : 2 ≤ w.length ∧ w.length ≤ 8 ∧ ∀ n ∈ w, 0 ≤ Qigq ps n := by
 simp only [Qyhl, inR, Bool.and_eq_true, decide_eq_true_eq] at h
 exact ⟨by omega, by omega, Q3tn h.2⟩
theorem Q1nj : ∀ {ps seen : List Point} {prev : Option Str}, Qaym seen prev ps = true → ∀ p ∈ ps, p.ok = true
 | [], _, _, _, p, hp => by simp at hp
 | a :: ps, seen, prev, h, p, hp => by
  rw [Qaym] at h
  simp only [Bool.and_eq_true] at h
  simp only [List.mem_cons] at hp
  rcases hp with rfl | hp
  ·exact h.1
  ·exact Q1nj h.2.2.2 p hp
theorem Qgjr {ks : List Kind} {ps : List Point} (hb : Qib4 ks ps = true) {n : Str} (h0 : 0 ≤ Qigq ps n) : Qlxz (Qg2m ps n) = true := by
 have h2 := Q1mf (p := fun q : Point => q.name == n) (l := ps)
 have h3 : Qigq ps n = idxF (fun q : Point => q.name == n) ps := rfl
 have hlt : (Qigq ps n).toNat < ps.length := by omega
 have hm : ptOf ps n ∈ ps := by
  unfold ptOf
  rw [List.getD_eq_getElem?_getD, List.getElem?_eq_getElem hlt]
  exact List.getElem_mem hlt
 simp only [Qib4, Bool.and_eq_true] at hb
 have := Q1nj hb.2.2.2 _ hm
 simp only [Point.ok, inR, Bool.and_eq_true, decide_eq_true_eq] at this
 have hx : (Qg2m ps n).x = (ptOf ps n).x := rfl
 have hy : (Qg2m ps n).y = (ptOf ps n).y := rfl
 simp only [Qlxz, hx, hy, Bool.and_eq_true, decide_eq_true_eq]
 obtain ⟨_, ⟨h5, h6⟩, h7, h8⟩ := this
 exact ⟨⟨h5, by omega⟩, h7, by omega⟩
theorem Qek1 {a b : Cell} : (Qppc a b).length = legN a b + 1 := by
 unfold Qppc
 split
 ·rw [List.length_reverse, legF, List.length_map, List.length_range]
  unfold legN; omega
 ·rw [legF, List.length_map, List.length_range]
theorem Q0oy (ps : List Point) (w : List Str) (m : Nat) : Qya3 ps w (m + 1) = Qya3 ps w m ++ tailC ps w m := by
 simp [Qya3, List.range_succ]
def Q49v : Ent Ty El := ⟨[.ro, .ro], 0, fun a h => match a, h with
 | [.agg [.sl .kind ks, .sl .point ps], .sl .str w], [] => some (decide (ps.length < 1000000000), Qkcc (Qqfy ks ps w), [])
 | _, _ => none⟩
def Qp5x : Ent Ty El := Q49v
end Lx
/- Meanings: values drawn. -/
namespace Lx
open Go Go.Proofs
structure TxP where
 s : Str
 p : Int
 deriving Inhabited
def Qr3b (p : Int) (x : TxP) : Prop := x.s.length ≤ 200 ∧ p ≤ x.p ∧ x.p ≤ p + 20
noncomputable def dVal (bs : List Int) (p : Int) (ks : List Kind) (ps : List Point) (w : Int) : TxP := drawn (fun x => Qewq Tryz.prog CP Qwqy [.ptr 0 0, .agg [.sl .kind ks, .sl .point ps], .int .i64 w] [.box [.sl .u8 bs, .int .i64 p]] (.str x.s) [.box [.sl .u8 bs, .int .i64 x.p]] ∧ Qr3b p x)
def Qeqt (ps : List Point) : Bool := ps.all fun z => decide (z.name.length ≤ 8)
def valK (bs : List Int) (p : Int) (ks : List Kind) (ps : List Point) : Bool := rdK bs p && (decide (ps.length ≤ 100) && (Qeqt ps && decide (1 ≤ ps.length)))
noncomputable def Q0t5 : Ent Ty El := ⟨[.io, .ro, .ro], 0, fun a h => match a, h with
 | [.ptr 0 0, .agg [.sl .kind ks, .sl .point ps], .int .i64 w], [.box [.sl .u8 bs, .int .i64 p]] => some (valK bs p ks ps, .str (dVal bs p ks ps w).s, [.box [.sl .u8 bs, .int .i64 (dVal bs p ks ps w).p]])
 | _, _ => none⟩
theorem Qgo3 {bs : List Int} {p : Int} {l : List Str} {M : Nat} (h : l.all (fun s => decide (s.length ≤ M)) = true) : (ofV bs p l).length ≤ M := by
 unfold ofV
 rw [List.getD_eq_getElem?_getD]
 cases hi : l[(pickV bs p (l.length : Int)).toNat]? with
 | none => simp
 | some s => simpa using List.all_eq_true.1 h s (List.mem_of_getElem? hi)
theorem decs {n : Int} (h : 0 ≤ n) (h1 : n ≤ 99999) : (decide (0 ≤ n) && decide (n < 10 ^ (4 + 1))) = true ∧ (dDec 4 n).length ≤ 5 := by
 have hg : (decide (0 ≤ n) && decide (n < 10 ^ (4 + 1))) = true := by simp only [Bool.and_eq_true, decide_eq_true_eq]; omega
 exact ⟨hg, (Qbt7 n hg).2⟩
theorem Q5k5 {ks : List Kind} {ps : List Point} (h : Qib4 ks ps = true) : ps.length ≤ 16 ∧ ∀ z ∈ ps, z.name.length ≤ 8 := by
 simp only [Qib4, Bool.and_eq_true, decide_eq_true_eq] at h
 refine ⟨h.2.1, fun z hz => ?_⟩
 have := Q1nj h.2.2.2 z hz
 simp only [Point.ok, Q2rq, Bool.and_eq_true, decide_eq_true_eq] at this
 exact this.1.2.1
theorem Qd1y {ks : List Kind} {ps : List Point} (h : Qib4 ks ps = true) : ps.length ≤ 100 ∧ Qeqt ps = true := by
 obtain ⟨h1, h2⟩ := Q5k5 h
 exact ⟨by omega, List.all_eq_true.2 fun z hz => decide_eq_true (h2 z hz)⟩
theorem named {ps : List Point} (h : Qeqt ps = true) : ∀ z ∈ ps, z.name.length ≤ 8 := fun z hz => of_decide_eq_true (List.all_eq_true.1 h z hz)
theorem Qosi {ps : List Point} (h : Qeqt ps = true) (i : Nat) {z : Point} (hz : z.name.length ≤ 8) : Qeqt (ps.set i z) = true := List.all_eq_true.2 fun x hx => by
 rcases List.mem_or_eq_of_mem_set hx with hx | rfl
 ·exact List.all_eq_true.1 h x hx
 ·exact decide_eq_true hz
theorem Qv4q {ps : List Point} (h : Qeqt ps = true) {z : Point} (hz : z.name.length ≤ 8) : Qeqt (ps ++ [z]) = true := by
 unfold Qeqt at *
 rw [List.all_append, h]; simpa using hz
theorem Qwum {ps : List Point} (h : Qeqt ps = true) (i : Nat) (d : Point) (hd : d.name.length ≤ 8) : (ps.getD i d).name.length ≤ 8 := by
 rw [List.getD_eq_getElem?_getD]
 cases hi : ps[i]? with
 | none => simpa using hd
 | some x => exact named h x (List.mem_of_getElem? hi)
end Lx
/- Draws: values. -/
namespace Lx
open Go Go.Proofs
noncomputable def Qttc : RE Ty El := ⟨Tryz.prog, CP, [(Qpxs, Q7v2), (Qchm, Q2vb), (Qstj, Qmce)], Tryz.f118, 1, [], [(20, [(0, .any), (4, .any), (9, .any), (10, .any), (11, .any)])]⟩
theorem Qyl0 : REOK Qttc Qwqy := ⟨CP_ok, (TabOK.cons Q0e7 (TabOK.cons Qyvd (TabOK.cons Qqii Qye1))), by kernel_rfl, by kernel_rfl⟩
theorem Q12p (bs : List Int) (p : Int) (ks : List Kind) (ps : List Point) (w : Int) : aRun Qttc 600 false (body0 Qttc.fn) (Q4gm Qttc.fn [.ptr 0 0, .agg [.sl .kind ks, .sl .point ps], .int .i64 w] [.box [.sl .u8 bs, .int .i64 p]]) =
 ifb (w == (1 : Int)) (ifb (rdOk bs p && decide ((0 : Nat) < [#[(97 : UInt8), (49 : UInt8)].toList, #[(104 : UInt8), (101 : UInt8), (97 : UInt8), (118 : UInt8), (121 : UInt8)].toList, #[(97 : UInt8), (49 : UInt8)].toList, #[(104 : UInt8), (101 : UInt8), (97 : UInt8), (118 : UInt8), (121 : UInt8)].toList, #[(115 : UInt8), (108 : UInt8), (111 : UInt8), (119 : UInt8)].toList].length)) (some (.ret (.str (ofV bs p [#[(97 : UInt8), (49 : UInt8)].toList, #[(104 : UInt8), (101 : UInt8), (97 : UInt8), (118 : UInt8), (121 : UInt8)].toList, #[(97 : UInt8), (49 : UInt8)].toList, #[(104 : UInt8), (101 : UInt8), (97 : UInt8), (118 : UInt8), (121 : UInt8)].toList, #[(115 : UInt8), (108 : UInt8), (111 : UInt8), (119 : UInt8)].toList])) [.box [.sl .u8 bs, .int .i64 (p + (1 : Int))]])) (none)) (ifb (w == (2 : Int)) (ifb (posOk p) (ifb (posOk (p + (1 : Int))) (ifb (pickV bs (p + (1 : Int)) (16 : Int) == (0 : Int)) (ifb (posOk (p + (1 : Int) + (1 : Int))) (ifb (posOk (p + (1 : Int) + (1 : Int) + (1 : Int))) (ifb (decide (IntKind.i64.wrap (IntKind.i64.wrap ((10000 : Int) - pickV bs (p + (1 : Int) + (1 : Int)) (80 : Int)) + pickV bs (p + (1 : Int) + (1 : Int) + (1 : Int)) (20 : Int)) > (10000 : Int))) (ifb (decide ((0 : Int) ≤ IntKind.i64.wrap ((10000 : Int) - pickV bs (p + (1 : Int) + (1 : Int)) (80 : Int))) && decide (IntKind.i64.wrap ((10000 : Int) - pickV bs (p + (1 : Int) + (1 : Int)) (80 : Int)) < (10 : Int) ^ ((4 : Nat) + (1 : Nat)))) (ifb (decide (List.length (dDec (4 : Nat) (IntKind.i64.wrap ((10000 : Int) - pickV bs (p + (1 : Int) + (1 : Int)) (80 : Int)))) + #[(32 : UInt8)].toList.length ≤ (9223372036854775807 : Nat))) (ifb (decide ((dDec (4 : Nat) (IntKind.i64.wrap ((10000 : Int) - pickV bs (p + (1 : Int) + (1 : Int)) (80 : Int))) ++ #[(32 : UInt8)].toList).length + List.length (dDec (4 : Nat) (10000 : Int)) ≤ (9223372036854775807 : Nat))) (some (.ret (.str (dDec (4 : Nat) (IntKind.i64.wrap ((10000 : Int) - pickV bs (p + (1 : Int) + (1 : Int)) (80 : Int))) ++ #[(32 : UInt8)].toList ++ dDec (4 : Nat) (10000 : Int))) [.box [.sl .u8 bs, .int .i64 (p + (1 : Int) + (1 : Int) + (1 : Int) + (1 : Int))]])) (none)) (none)) (none)) (ifb (decide ((0 : Int) ≤ IntKind.i64.wrap ((10000 : Int) - pickV bs (p + (1 : Int) + (1 : Int)) (80 : Int))) && decide (IntKind.i64.wrap ((10000 : Int) - pickV bs (p + (1 : Int) + (1 : Int)) (80 : Int)) < (10 : Int) ^ ((4 : Nat) + (1 : Nat)))) (ifb (decide (List.length (dDec (4 : Nat) (IntKind.i64.wrap ((10000 : Int) - pickV bs (p + (1 : Int) + (1 : Int)) (80 : Int)))) + #[(32 : UInt8)].toList.length ≤ (9223372036854775807 : Nat))) (ifb (decide ((0 : Int) ≤ IntKind.i64.wrap (IntKind.i64.wrap ((10000 : Int) - pickV bs (p + (1 : Int) + (1 : Int)) (80 : Int)) + pickV bs (p + (1 : Int) + (1 : Int) + (1 : Int)) (20 : Int))) && decide (IntKind.i64.wrap (IntKind.i64.wrap ((10000 : Int) - pickV bs (p + (1 : Int) + (1 : Int)) (80 : Int)) + pickV bs (p + (1 : Int) + (1 : Int) + (1 : Int)) (20 : Int)) < (10 : Int) ^ ((4 : Nat) + (1 : Nat)))) (ifb (decide ((dDec (4 : Nat) (IntKind.i64.wrap ((10000 : Int) - pickV bs (p + (1 : Int) + (1 : Int)) (80 : Int))) ++ #[(32 : UInt8)].toList).length + List.length (dDec (4 : Nat) (IntKind.i64.wrap (IntKind.i64.wrap ((10000 : Int) - pickV bs (p + (1 : Int) + (1 : Int)) (80 : Int)) + pickV bs (p + (1 : Int) + (1 : Int) + (1 : Int)) (20 : Int)))) ≤ (9223372036854775807 : Nat))) (some (.ret (.str (dDec (4 : Nat) (IntKind.i64.wrap ((10000 : Int) - pickV bs (p + (1 : Int) + (1 : Int)) (80 : Int))) ++ #[(32 : UInt8)].toList ++ dDec (4 : Nat) (IntKind.i64.wrap (IntKind.i64.wrap ((10000 : Int) - pickV bs (p + (1 : Int) + (1 : Int)) (80 : Int)) + pickV bs (p + (1 : Int) + (1 : Int) + (1 : Int)) (20 : Int))))) [.box [.sl .u8 bs, .int .i64 (p + (1 : Int) + (1 : Int) + (1 : Int) + (1 : Int))]])) (none)) (none)) (none)) (none))) (none)) (none)) (ifb (posOk (p + (1 : Int) + (1 : Int))) (ifb (decide (IntKind.i64.wrap (pickV bs p (200 : Int) + pickV bs (p + (1 : Int) + (1 : Int)) (20 : Int)) > (10000 : Int))) (ifb (decide ((0 : Int) ≤ pickV bs p (200 : Int)) && decide (pickV bs p (200 : Int) < (10 : Int) ^ ((4 : Nat) + (1 : Nat)))) (ifb (decide (List.length (dDec (4 : Nat) (pickV bs p (200 : Int))) + #[(32 : UInt8)].toList.length ≤ (9223372036854775807 : Nat))) (ifb (decide ((dDec (4 : Nat) (pickV bs p (200 : Int)) ++ #[(32 : UInt8)].toList).length + List.length (dDec (4 : Nat) (10000 : Int)) ≤ (9223372036854775807 : Nat))) (some (.ret (.str (dDec (4 : Nat) (pickV bs p (200 : Int)) ++ #[(32 : UInt8)].toList ++ dDec (4 : Nat) (10000 : Int))) [.box [.sl .u8 bs, .int .i64 (p + (1 : Int) + (1 : Int) + (1 : Int))]])) (none)) (none)) (none)) (ifb (decide ((0 : Int) ≤ pickV bs p (200 : Int)) && decide (pickV bs p (200 : Int) < (10 : Int) ^ ((4 : Nat) + (1 : Nat)))) (ifb (decide (List.length (dDec (4 : Nat) (pickV bs p (200 : Int))) + #[(32 : UInt8)].toList.length ≤ (9223372036854775807 : Nat))) (ifb (decide ((0 : Int) ≤ IntKind.i64.wrap (pickV bs p (200 : Int) + pickV bs (p + (1 : Int) + (1 : Int)) (20 : Int))) && decide (IntKind.i64.wrap (pickV bs p (200 : Int) + pickV bs (p + (1 : Int) + (1 : Int)) (20 : Int)) < (10 : Int) ^ ((4 : Nat) + (1 : Nat)))) (ifb (decide ((dDec (4 : Nat) (pickV bs p (200 : Int)) ++ #[(32 : UInt8)].toList).length + List.length (dDec (4 : Nat) (IntKind.i64.wrap (pickV bs p (200 : Int) + pickV bs (p + (1 : Int) + (1 : Int)) (20 : Int)))) ≤ (9223372036854775807 : Nat))) (some (.ret (.str (dDec (4 : Nat) (pickV bs p (200 : Int)) ++ #[(32 : UInt8)].toList ++ dDec (4 : Nat) (IntKind.i64.wrap (pickV bs p (200 : Int) + pickV bs (p + (1 : Int) + (1 : Int)) (20 : Int))))) [.box [.sl .u8 bs, .int .i64 (p + (1 : Int) + (1 : Int) + (1 : Int))]])) (none)) (none)) (none)) (none))) (none))) (none)) (none)) (ifb (w == (3 : Int)) (ifb (posOk p) (ifb (decide ((0 : Int) ≤ IntKind.i64.wrap ((1 : Int) + pickV bs p (6 : Int))) && decide (IntKind.i64.wrap ((1 : Int) + pickV bs p (6 : Int)) < (10 : Int) ^ ((4 : Nat) + (1 : Nat)))) (some (.ret (.str (dDec (4 : Nat) (IntKind.i64.wrap ((1 : Int) + pickV bs p (6 : Int))))) [.box [.sl .u8 bs, .int .i64 (p + (1 : Int))]])) (none)) (none)) (ifb (w == (4 : Int)) (ifb (posOk p) (ifb (inb (pickV bs p (↑ps.length : Int)) ps.length) (ifb (posOk (p + (1 : Int))) (ifb (posOk (p + (1 : Int) + (1 : Int))) (ifb (pickV bs (p + (1 : Int) + (1 : Int)) (8 : Int) == (0 : Int)) (some (.go (Qu6t Qttc.fn 20) [.ptr 0 0, .ptr 1 0, .str ((ps.getD (pickV bs p (↑ps.length : Int)).toNat (Qttc.C.dflt Ty.point)).name), .str ((ps.getD (pickV bs p (↑ps.length : Int)).toNat (Qttc.C.dflt Ty.point)).name), .int .i64 (7 : Int)] [.box [.sl .u8 bs, .int .i64 (p + (1 : Int) + (1 : Int) + (1 : Int))], .box [.sl .kind ks, .sl .point ps]])) (some (.go (Qu6t Qttc.fn 20) [.ptr 0 0, .ptr 1 0, .str ((ps.getD (pickV bs p (↑ps.length : Int)).toNat (Qttc.C.dflt Ty.point)).name), .str ((ps.getD (pickV bs p (↑ps.length : Int)).toNat (Qttc.C.dflt Ty.point)).name), .int .i64 (IntKind.i64.wrap ((1 : Int) + pickV bs (p + (1 : Int)) (4 : Int)))] [.box [.sl .u8 bs, .int .i64 (p + (1 : Int) + (1 : Int) + (1 : Int))], .box [.sl .kind ks, .sl .point ps]]))) (none)) (none)) (none)) (none)) (ifb (rdOk bs p && decide ((0 : Nat) < [#[(111 : UInt8), (112 : UInt8), (101 : UInt8), (110 : UInt8)].toList, #[(99 : UInt8), (108 : UInt8), (111 : UInt8), (115 : UInt8), (101 : UInt8), (100 : UInt8)].toList].length)) (some (.ret (.str (ofV bs p [#[(111 : UInt8), (112 : UInt8), (101 : UInt8), (110 : UInt8)].toList, #[(99 : UInt8), (108 : UInt8), (111 : UInt8), (115 : UInt8), (101 : UInt8), (100 : UInt8)].toList])) [.box [.sl .u8 bs, .int .i64 (p + (1 : Int))]])) (none))))) := by kernel_rfl
theorem Q0ny (x0 : Str) (x1 : Str) (x2 : Int) (x3 : List (El .u8)) (x4 : Int) (x5 : List (El .kind)) (x6 : List (El .point)) : aRun Qttc 600 true (Qu6t Qttc.fn 20) (cutSt Qttc.fn (Q1m4 Qttc (Qu6t Qttc.fn 20)) [.ptr 0 0, .ptr 1 0, .str x0, .str x1, .int .i64 x2] [.box [.sl .u8 x3, .int .i64 x4], .box [.sl .kind x5, .sl .point x6]]) =
 ifb (decide (x2 > (0 : Int))) (ifb (posOk x4) (ifb (inb (pickV x3 x4 (↑x6.length : Int)) x6.length) (ifb (!(x6.getD (pickV x3 x4 (↑x6.length : Int)).toNat (Qttc.C.dflt Ty.point)).name == x1) (ifb (decide (List.length x0 + #[(32 : UInt8)].toList.length ≤ (9223372036854775807 : Nat))) (ifb (decide ((x0 ++ #[(32 : UInt8)].toList).length + List.length (x6.getD (pickV x3 x4 (↑x6.length : Int)).toNat (Qttc.C.dflt Ty.point)).name ≤ (9223372036854775807 : Nat))) (some (.go (Qu6t Qttc.fn 20) [.ptr 0 0, .ptr 1 0, .str (x0 ++ #[(32 : UInt8)].toList ++ (x6.getD (pickV x3 x4 (↑x6.length : Int)).toNat (Qttc.C.dflt Ty.point)).name), .str ((x6.getD (pickV x3 x4 (↑x6.length : Int)).toNat (Qttc.C.dflt Ty.point)).name), .int .i64 (IntKind.i64.wrap (x2 - (1 : Int)))] [.box [.sl .u8 x3, .int .i64 (x4 + (1 : Int))], .box [.sl .kind x5, .sl .point x6]])) (none)) (none)) (some (.go (Qu6t Qttc.fn 20) [.ptr 0 0, .ptr 1 0, .str x0, .str x1, .int .i64 (IntKind.i64.wrap (x2 - (1 : Int)))] [.box [.sl .u8 x3, .int .i64 (x4 + (1 : Int))], .box [.sl .kind x5, .sl .point x6]]))) (none)) (none)) (some (.ret (.str x0) [.box [.sl .u8 x3, .int .i64 x4]])) := by kernel_rfl
theorem Qb5x {bs : List Int} {p q : Int} {s : Str} (h1 : s.length ≤ 200) (h2 : p ≤ q) (h3 : q ≤ p + 20) : ∃ x : TxP, (AV.str s : AV Ty El) = .str x.s ∧ ([.box [.sl .u8 bs, .int .i64 q]] : List (AObj Ty El)) = [.box [.sl .u8 bs, .int .i64 x.p]] ∧ Qr3b p x := ⟨⟨s, q⟩, rfl, rfl, h1, h2, h3⟩
theorem Q3yw (bs : List Int) (ks : List Kind) (ps : List Point) (hbs : Qf9o bs = true) (hps : ∀ z ∈ ps, z.name.length ≤ 8) (h1 : 1 ≤ ps.length) (h16 : ps.length ≤ 100) : ∀ (d : Nat) (x0 x1 : Str) (q : Int), 0 ≤ q → q + d ≤ 950000 → d ≤ 10 → x0.length + 9 * d ≤ 1000 →
  CutE Qttc Qwqy 20 [.ptr 0 0, .ptr 1 0, .str x0, .str x1, .int .i64 (d : Int)] [.box [.sl .u8 bs, .int .i64 q], .box [.sl .kind ks, .sl .point ps]] (fun v h => ∃ x : TxP, v = .str x.s ∧ h = [.box [.sl .u8 bs, .int .i64 x.p]] ∧ x.s.length ≤ x0.length + 9 * d ∧ q ≤ x.p ∧ x.p ≤ q + d) := by
 intro d
 induction d with
 | zero =>
  intro x0 x1 q h0 hq hd hx
  refine CutE.of Qyl0 rfl (Q0ny x0 x1 (0 : Nat) bs q ks ps) ?_
  exact SatE.ret ⟨⟨x0, q⟩, rfl, rfl, by simp, by simp, by simp⟩
 | succ d ih =>
  intro x0 x1 q h0 hq hd hx
  refine CutE.of Qyl0 rfl (Q0ny x0 x1 ((d + 1 : Nat) : Int) bs q ks ps) ?_
  obtain ⟨a1, a2⟩ := Q5va (p := q) (n := (ps.length : Int)) hbs (Q8s4 (by omega) (by omega)) (by omega)
  have hi : inb (pickV bs q (ps.length : Int)) ps.length = true := by simp only [inb, Bool.and_eq_true, decide_eq_true_eq]; exact ⟨a1, a2⟩
  have hw : IntKind.i64.wrap (((d + 1 : Nat) : Int) - 1) = (d : Int) := by rw [Qbrg] <;> omega
  have hn : (ps.getD (pickV bs q (ps.length : Int)).toNat (Qttc.C.dflt Ty.point)).name.length ≤ 8 := by
   rw [List.getD_eq_getElem?_getD, List.getElem?_eq_getElem (by omega)]
   exact hps _ (List.getElem_mem _)
  rw [show decide (((d + 1 : Nat) : Int) > 0) = true from decide_eq_true (by omega), Q8s4 (q := q) (by omega) (by omega), hi, hw]
  simp only [Qd8q]
  generalize (ps.getD (pickV bs q (ps.length : Int)).toNat (Qttc.C.dflt Ty.point)).name = nm at hn ⊢
  refine SatE.ifb (fun _ => ?_) (fun _ => ?_)
  ·refine SatE.need (decide_eq_true (by simp; omega)) (SatE.need (decide_eq_true (by simp; omega)) (SatE.mono (SatE.cut (ih _ _ (q + 1) (by omega) (by omega) (by omega) (by simp; omega))) ?_))
   rintro v h ⟨x, rfl, rfl, b1, b2, b3⟩
   exact ⟨x, rfl, rfl, by simp at b1; omega, by omega, by omega⟩
  ·refine SatE.mono (SatE.cut (ih _ _ (q + 1) (by omega) (by omega) (by omega) (by omega))) ?_
   rintro v h ⟨x, rfl, rfl, b1, b2, b3⟩
   exact ⟨x, rfl, rfl, by omega, by omega, by omega⟩
theorem Qpyo (bs : List Int) (p : Int) (ks : List Kind) (ps : List Point) (w : Int) (hg : valK bs p ks ps = true) : Qewq Tryz.prog CP Qwqy [.ptr 0 0, .agg [.sl .kind ks, .sl .point ps], .int .i64 w] [.box [.sl .u8 bs, .int .i64 p]] (.str (dVal bs p ks ps w).s) [.box [.sl .u8 bs, .int .i64 (dVal bs p ks ps w).p]] ∧ Qr3b p (dVal bs p ks ps w) := by
 simp only [valK, Bool.and_eq_true, decide_eq_true_eq] at hg
 obtain ⟨hr, h16, hn, h1⟩ := hg
 have hps := named hn
 have hrd := Qosd (q := p) hr (by omega) (by omega)
 simp only [rdK, Bool.and_eq_true, decide_eq_true_eq] at hr
 obtain ⟨hbs, h0, h9⟩ := hr
 have ps0 : ∀ (q : Int), p ≤ q → q ≤ p + 10 → posOk q = true := fun q h2 h3 => Q8s4 (by omega) (by omega)
 have pk : ∀ (q n : Int), p ≤ q → q ≤ p + 10 → 1 ≤ n → 0 ≤ pickV bs q n ∧ pickV bs q n < n := fun q n h2 h3 h4 => Q5va hbs (ps0 q h2 h3) h4
 have rt : ∀ (q : Int) (x0 x1 : Str) (m : Int), p ≤ q → q ≤ p + 10 → 0 ≤ m → m ≤ 7 → x0.length ≤ 8 → SatE Qttc Qwqy (fun v h => ∃ x : TxP, v = .str x.s ∧ h = [.box [.sl .u8 bs, .int .i64 x.p]] ∧ Qr3b p x) (some (.go (Qu6t Qttc.fn 20) [.ptr 0 0, .ptr 1 0, .str x0, .str x1, .int .i64 m] [.box [.sl .u8 bs, .int .i64 q], .box [.sl .kind ks, .sl .point ps]])) := fun q x0 x1 m h2 h3 h4 h5 h6 => by
  obtain ⟨d, rfl⟩ := Int.eq_ofNat_of_zero_le h4
  refine SatE.mono (SatE.cut (Q3yw bs ks ps hbs hps h1 h16 d x0 x1 q (by omega) (by omega) (by omega) (by omega))) ?_
  rintro v h ⟨x, rfl, rfl, b1, b2, b3⟩
  exact ⟨x, rfl, rfl, by omega, by omega, by omega⟩
 have hE : CallE Qttc.P Qttc.C Qwqy [.ptr 0 0, .agg [.sl .kind ks, .sl .point ps], .int .i64 w] [.box [.sl .u8 bs, .int .i64 p]] (fun v h => ∃ x : TxP, v = .str x.s ∧ h = [.box [.sl .u8 bs, .int .i64 x.p]] ∧ Qr3b p x) := by
  refine CallE.of Qyl0 (by kernel_rfl) (Q12p bs p ks ps w) ?_
  refine SatE.ifb (fun _ => SatE.need (by rw [hrd]; rfl) (SatE.ret (Qb5x (Nat.le_trans (Qgo3 (M := 5) (by rfl)) (by omega)) (by omega) (by omega)))) (fun _ => SatE.ifb (fun _ => ?_) (fun _ => SatE.ifb (fun _ => ?_) (fun _ => SatE.ifb (fun _ => ?_) (fun _ => SatE.need (by rw [hrd]; rfl) (SatE.ret (Qb5x (Nat.le_trans (Qgo3 (M := 6) (by rfl)) (by omega)) (by omega) (by omega)))))))
  ·obtain ⟨a1, a2⟩ := pk p 200 (by omega) (by omega) (by omega)
   obtain ⟨c1, c2⟩ := pk (p + 1 + 1) 80 (by omega) (by omega) (by omega)
   obtain ⟨e1, e2⟩ := pk (p + 1 + 1 + 1) 20 (by omega) (by omega) (by omega)
   obtain ⟨f1, f2⟩ := pk (p + 1 + 1) 20 (by omega) (by omega) (by omega)
   have w1 : IntKind.i64.wrap (10000 - pickV bs (p + 1 + 1) 80) = 10000 - pickV bs (p + 1 + 1) 80 := Qbrg (by omega) (by omega)
   have w2 : IntKind.i64.wrap (10000 - pickV bs (p + 1 + 1) 80 + pickV bs (p + 1 + 1 + 1) 20) = 10000 - pickV bs (p + 1 + 1) 80 + pickV bs (p + 1 + 1 + 1) 20 := Qbrg (by omega) (by omega)
   have w3 : IntKind.i64.wrap (pickV bs p 200 + pickV bs (p + 1 + 1) 20) = pickV bs p 200 + pickV bs (p + 1 + 1) 20 := Qbrg (by omega) (by omega)
   rw [w1, w2, w3]
   obtain ⟨g1, l1⟩ := decs (n := 10000) (by omega) (by omega)
   obtain ⟨g2, l2⟩ := decs (n := 10000 - pickV bs (p + 1 + 1) 80) (by omega) (by omega)
   obtain ⟨g3, l3⟩ := decs (n := 10000 - pickV bs (p + 1 + 1) 80 + pickV bs (p + 1 + 1 + 1) 20) (by omega) (by omega)
   obtain ⟨g4, l4⟩ := decs (n := pickV bs p 200) (by omega) (by omega)
   obtain ⟨g5, l5⟩ := decs (n := pickV bs p 200 + pickV bs (p + 1 + 1) 20) (by omega) (by omega)
   refine SatE.need (ps0 _ (by omega) (by omega)) (SatE.need (ps0 _ (by omega) (by omega)) (SatE.ifb (fun _ => ?_) (fun _ => ?_)))
   ·refine SatE.need (ps0 _ (by omega) (by omega)) (SatE.need (ps0 _ (by omega) (by omega)) (SatE.ifb (fun _ => ?_) (fun _ => ?_)))
    ·exact SatE.need g2 (SatE.need (decide_eq_true (by simp; omega)) (SatE.need (decide_eq_true (by simp; omega)) (SatE.ret (Qb5x (by simp; omega) (by omega) (by omega)))))
    ·exact SatE.need g2 (SatE.need (decide_eq_true (by simp; omega)) (SatE.need g3 (SatE.need (decide_eq_true (by simp; omega)) (SatE.ret (Qb5x (by simp; omega) (by omega) (by omega))))))
   ·refine SatE.need (ps0 _ (by omega) (by omega)) (SatE.ifb (fun _ => ?_) (fun _ => ?_))
    ·exact SatE.need g4 (SatE.need (decide_eq_true (by simp; omega)) (SatE.need (decide_eq_true (by simp; omega)) (SatE.ret (Qb5x (by simp; omega) (by omega) (by omega)))))
    ·exact SatE.need g4 (SatE.need (decide_eq_true (by simp; omega)) (SatE.need g5 (SatE.need (decide_eq_true (by simp; omega)) (SatE.ret (Qb5x (by simp; omega) (by omega) (by omega))))))
  ·obtain ⟨a1, a2⟩ := pk p 6 (by omega) (by omega) (by omega)
   have w1 : IntKind.i64.wrap (1 + pickV bs p 6) = 1 + pickV bs p 6 := Qbrg (by omega) (by omega)
   rw [w1]
   obtain ⟨g1, l1⟩ := decs (n := 1 + pickV bs p 6) (by omega) (by omega)
   exact SatE.need (ps0 _ (by omega) (by omega)) (SatE.need g1 (SatE.ret (Qb5x (by omega) (by omega) (by omega))))
  ·obtain ⟨a1, a2⟩ := pk p (ps.length : Int) (by omega) (by omega) (by omega)
   obtain ⟨b1, b2⟩ := pk (p + 1) 4 (by omega) (by omega) (by omega)
   have hi : inb (pickV bs p (ps.length : Int)) ps.length = true := by simp only [inb, Bool.and_eq_true, decide_eq_true_eq]; exact ⟨a1, a2⟩
   have w1 : IntKind.i64.wrap (1 + pickV bs (p + 1) 4) = 1 + pickV bs (p + 1) 4 := Qbrg (by omega) (by omega)
   rw [w1]
   have hn : (ps.getD (pickV bs p (ps.length : Int)).toNat (Qttc.C.dflt Ty.point)).name.length ≤ 8 := by
    rw [List.getD_eq_getElem?_getD, List.getElem?_eq_getElem (by omega)]
    exact hps _ (List.getElem_mem _)
   refine SatE.need (ps0 _ (by omega) (by omega)) (SatE.need hi (SatE.need (ps0 _ (by omega) (by omega)) (SatE.need (ps0 _ (by omega) (by omega)) (SatE.ifb (fun _ => ?_) (fun _ => ?_)))))
   ·exact rt _ _ _ _ (by omega) (by omega) (by omega) (by omega) hn
   ·exact rt _ _ _ _ (by omega) (by omega) (by omega) (by omega) hn
 obtain ⟨v, H', h, x, rfl, rfl, hx⟩ := hE
 exact Qk78 (p := fun x : TxP => Qewq Tryz.prog CP Qwqy [.ptr 0 0, .agg [.sl .kind ks, .sl .point ps], .int .i64 w] [.box [.sl .u8 bs, .int .i64 p]] (.str x.s) [.box [.sl .u8 bs, .int .i64 x.p]] ∧ Qr3b p x) ⟨x, h, hx⟩
theorem Q95u (bs : List Int) (p : Int) (ks : List Kind) (ps : List Point) (w : Int) (hg : valK bs p ks ps = true) : Qewq Tryz.prog CP Qwqy [.ptr 0 0, .agg [.sl .kind ks, .sl .point ps], .int .i64 w] [.box [.sl .u8 bs, .int .i64 p]] (.str (dVal bs p ks ps w).s) [.box [.sl .u8 bs, .int .i64 (dVal bs p ks ps w).p]] := by
 exact (Qpyo bs p ks ps w hg).1
theorem Qnck : EntOK Tryz.prog CP Qwqy Q0t5 := by
 refine ⟨⟨Tryz.f118, by kernel_rfl, by kernel_rfl, by kernel_rfl⟩, fun args H res H' h => ?_⟩
 simp only [Q0t5] at h
 split at h
 ·simp only [Option.some.injEq, Prod.mk.injEq] at h
  obtain ⟨hg, rfl, rfl⟩ := h
  exact Q95u _ _ _ _ _ hg
 ·cases h
end Lx
/- Meanings: changes drawn. -/
namespace Lx
open Go Go.Proofs
structure ChgP where
 c : Chg
 p : Int
 deriving Inhabited
def Qi1t (p : Int) (x : ChgP) : Prop := szV x.c.value = true ∧ p ≤ x.p ∧ x.p ≤ p + 30
noncomputable def dChg (bs : List Int) (p : Int) (ks : List Kind) (ps : List Point) : ChgP := drawn (fun x => Qewq Tryz.prog CP Qhy2 [.ptr 0 0, .agg [.sl .kind ks, .sl .point ps]] [.box [.sl .u8 bs, .int .i64 p]] (.agg [.str x.c.flight, .int .i64 x.c.what, .int .i64 x.c.number, .str x.c.value]) [.box [.sl .u8 bs, .int .i64 x.p]] ∧ Qi1t p x)
def chgK (bs : List Int) (p : Int) (ks : List Kind) (ps : List Point) : Bool := Qf9o bs && (decide (0 ≤ p) && (decide (p ≤ 890000) && (decide (ps.length ≤ 100) && (Qeqt ps && decide (1 ≤ ps.length)))))
noncomputable def Qiyn : Ent Ty El := ⟨[.io, .ro], 0, fun a h => match a, h with
 | [.ptr 0 0, .agg [.sl .kind ks, .sl .point ps]], [.box [.sl .u8 bs, .int .i64 p]] => some (chgK bs p ks ps, .agg [.str (dChg bs p ks ps).c.flight, .int .i64 (dChg bs p ks ps).c.what, .int .i64 (dChg bs p ks ps).c.number, .str (dChg bs p ks ps).c.value], [.box [.sl .u8 bs, .int .i64 (dChg bs p ks ps).p]])
 | _, _ => none⟩
structure ChgsP where
 l : List Chg
 p : Int
 deriving Inhabited
def Q4tv (p : Int) (x : ChgsP) : Prop := x.l.length ≤ 24 ∧ x.l.all (fun c => szV c.value) = true ∧ p ≤ x.p ∧ x.p ≤ p + 800
noncomputable def dChgs (bs : List Int) (p : Int) (ks : List Kind) (ps : List Point) (m : Int) : ChgsP := drawn (fun x => Qewq Tryz.prog CP Q43w [.ptr 0 0, .agg [.sl .kind ks, .sl .point ps], .int .i64 m] [.box [.sl .u8 bs, .int .i64 p]] (.sl .chg x.l) [.box [.sl .u8 bs, .int .i64 x.p]] ∧ Q4tv p x)
def chgsK (bs : List Int) (p : Int) (ks : List Kind) (ps : List Point) (m : Int) : Bool := Qf9o bs && (decide (0 ≤ p) && (decide (p ≤ 880000) && (Qib4 ks ps && (decide (1 ≤ ps.length) && (decide (1 ≤ m) && decide (m ≤ 24))))))
noncomputable def Qfl5 : Ent Ty El := ⟨[.io, .ro, .ro], 0, fun a h => match a, h with
 | [.ptr 0 0, .agg [.sl .kind ks, .sl .point ps], .int .i64 m], [.box [.sl .u8 bs, .int .i64 p]] => some (chgsK bs p ks ps m, .sl .chg (dChgs bs p ks ps m).l, [.box [.sl .u8 bs, .int .i64 (dChgs bs p ks ps m).p]])
 | _, _ => none⟩
end Lx
/- Draws: changes. -/
namespace Lx
open Go Go.Proofs
noncomputable def Qgih : RE Ty El := ⟨Tryz.prog, CP, [(Qpxs, Q7v2), (Qchm, Q2vb), (Qwqy, Q0t5)], Tryz.f90, 1, [], [(4, [(0, .any), (3, .any), (4, .any), (5, .any)])]⟩
theorem Qe50 : REOK Qgih Qhy2 := ⟨CP_ok, (TabOK.cons Q0e7 (TabOK.cons Qyvd (TabOK.cons Qnck Qye1))), by kernel_rfl, by kernel_rfl⟩
theorem Qhjm (bs : List Int) (p : Int) (ks : List Kind) (ps : List Point) : aRun Qgih 600 false (body0 Qgih.fn) (Q4gm Qgih.fn [.ptr 0 0, .agg [.sl .kind ks, .sl .point ps]] [.box [.sl .u8 bs, .int .i64 p]]) =
 ifb (posOk p) (ifb (IntKind.i64.wrap ((1 : Int) + pickV bs p (5 : Int)) == (5 : Int)) (ifb (posOk (p + (1 : Int))) (ifb (pickV bs (p + (1 : Int)) (2 : Int) == (0 : Int)) (some (.go (Qu6t Qgih.fn 4) [.ptr 0 0, .ptr 1 0, .ptr 2 0, .int .i64 (4 : Int)] [.box [.sl .u8 bs, .int .i64 (p + (1 : Int) + (1 : Int))], .box [.sl .kind ks, .sl .point ps], .box [.str #[].toList, .int .i64 (0 : Int), .int .i64 (0 : Int), .str #[].toList]])) (some (.go (Qu6t Qgih.fn 4) [.ptr 0 0, .ptr 1 0, .ptr 2 0, .int .i64 (IntKind.i64.wrap ((1 : Int) + pickV bs p (5 : Int)))] [.box [.sl .u8 bs, .int .i64 (p + (1 : Int) + (1 : Int))], .box [.sl .kind ks, .sl .point ps], .box [.str #[].toList, .int .i64 (0 : Int), .int .i64 (0 : Int), .str #[].toList]]))) (none)) (some (.go (Qu6t Qgih.fn 4) [.ptr 0 0, .ptr 1 0, .ptr 2 0, .int .i64 (IntKind.i64.wrap ((1 : Int) + pickV bs p (5 : Int)))] [.box [.sl .u8 bs, .int .i64 (p + (1 : Int))], .box [.sl .kind ks, .sl .point ps], .box [.str #[].toList, .int .i64 (0 : Int), .int .i64 (0 : Int), .str #[].toList]]))) (none) := by kernel_rfl
theorem Qczd (x0 : Int) (x1 : List (El .u8)) (x2 : Int) (x3 : List (El .kind)) (x4 : List (El .point)) (x5 : Str) (x6 : Int) (x7 : Int) (x8 : Str) : aRun Qgih 600 true (Qu6t Qgih.fn 4) (cutSt Qgih.fn (Q1m4 Qgih (Qu6t Qgih.fn 4)) [.ptr 0 0, .ptr 1 0, .ptr 2 0, .int .i64 x0] [.box [.sl .u8 x1, .int .i64 x2], .box [.sl .kind x3, .sl .point x4], .box [.str x5, .int .i64 x6, .int .i64 x7, .str x8]]) =
 ifb (rdOk x1 x2 && decide ((0 : Nat) < [#[(107 : UInt8), (108 : UInt8), (49 : UInt8)].toList, #[(107 : UInt8), (108 : UInt8), (49 : UInt8)].toList, #[(107 : UInt8), (108 : UInt8), (49 : UInt8)].toList, #[(98 : UInt8), (97 : UInt8), (45 : UInt8), (50 : UInt8)].toList, #[(98 : UInt8), (97 : UInt8), (45 : UInt8), (50 : UInt8)].toList, #[(108 : UInt8), (104 : UInt8), (51 : UInt8)].toList, #[(120 : UInt8)].toList].length)) (ifb (posOk (x2 + (1 : Int))) (ifb (valK x1 (x2 + (1 : Int) + (1 : Int)) x3 x4) (some (.ret (.agg [.str (ofV x1 x2 [#[(107 : UInt8), (108 : UInt8), (49 : UInt8)].toList, #[(107 : UInt8), (108 : UInt8), (49 : UInt8)].toList, #[(107 : UInt8), (108 : UInt8), (49 : UInt8)].toList, #[(98 : UInt8), (97 : UInt8), (45 : UInt8), (50 : UInt8)].toList, #[(98 : UInt8), (97 : UInt8), (45 : UInt8), (50 : UInt8)].toList, #[(108 : UInt8), (104 : UInt8), (51 : UInt8)].toList, #[(120 : UInt8)].toList]), .int .i64 x0, .int .i64 (IntKind.i64.wrap ((1 : Int) + pickV x1 (x2 + (1 : Int)) (12 : Int))), .str ((dVal x1 (x2 + (1 : Int) + (1 : Int)) x3 x4 x0).s)]) [.box [.sl .u8 x1, .int .i64 ((dVal x1 (x2 + (1 : Int) + (1 : Int)) x3 x4 x0).p)]])) (none)) (none)) (none) := by kernel_rfl
theorem Q7ox {bs : List Int} {p q w n : Int} {f v : Str} (h1 : szV v = true) (h2 : p ≤ q) (h3 : q ≤ p + 30) : ∃ x : ChgP, (AV.agg [.str f, .int .i64 w, .int .i64 n, .str v] : AV Ty El) = .agg [.str x.c.flight, .int .i64 x.c.what, .int .i64 x.c.number, .str x.c.value] ∧ ([.box [.sl .u8 bs, .int .i64 q]] : List (AObj Ty El)) = [.box [.sl .u8 bs, .int .i64 x.p]] ∧ Qi1t p x := ⟨⟨⟨f, w, n, v⟩, q⟩, rfl, rfl, h1, h2, h3⟩
theorem Qnhc (bs : List Int) (p : Int) (ks : List Kind) (ps : List Point) (hg : chgK bs p ks ps = true) : Qewq Tryz.prog CP Qhy2 [.ptr 0 0, .agg [.sl .kind ks, .sl .point ps]] [.box [.sl .u8 bs, .int .i64 p]] (.agg [.str (dChg bs p ks ps).c.flight, .int .i64 (dChg bs p ks ps).c.what, .int .i64 (dChg bs p ks ps).c.number, .str (dChg bs p ks ps).c.value]) [.box [.sl .u8 bs, .int .i64 (dChg bs p ks ps).p]] ∧ Qi1t p (dChg bs p ks ps) := by
 simp only [chgK, Bool.and_eq_true, decide_eq_true_eq] at hg
 obtain ⟨hbs, h0, h9, h16, hn, h1⟩ := hg
 have ps0 : ∀ (q : Int), p ≤ q → q ≤ p + 10 → posOk q = true := fun q h2 h3 => Q8s4 (by omega) (by omega)
 have rd : ∀ (q : Int) (l : List Str), p ≤ q → q ≤ p + 10 → 0 < l.length → (rdOk bs q && decide (0 < l.length)) = true := fun q l h2 h3 hl => by rw [rdOk, hbs, ps0 q h2 h3, decide_eq_true hl]; rfl
 have vl : ∀ (q w : Int), p ≤ q → q ≤ p + 10 → valK bs q ks ps = true ∧ szV (dVal bs q ks ps w).s = true ∧ p ≤ (dVal bs q ks ps w).p ∧ (dVal bs q ks ps w).p ≤ p + 30 := fun q w h2 h3 => by
  have hv : valK bs q ks ps = true := by simp only [valK, rdK, Bool.and_eq_true, decide_eq_true_eq]; exact ⟨⟨hbs, by omega, by omega⟩, h16, hn, h1⟩
  obtain ⟨a1, a2, a3⟩ := (Qpyo bs q ks ps w hv).2
  exact ⟨hv, decide_eq_true (by omega), by omega, by omega⟩
 have hE : CallE Qgih.P Qgih.C Qhy2 [.ptr 0 0, .agg [.sl .kind ks, .sl .point ps]] [.box [.sl .u8 bs, .int .i64 p]] (fun v h => ∃ x : ChgP, v = .agg [.str x.c.flight, .int .i64 x.c.what, .int .i64 x.c.number, .str x.c.value] ∧ h = [.box [.sl .u8 bs, .int .i64 x.p]] ∧ Qi1t p x) := by
  refine CallE.of Qe50 (by kernel_rfl) (Qhjm bs p ks ps) ?_
  have hc : ∀ (q w : Int), p ≤ q → q ≤ p + 5 → CutE Qgih Qhy2 4 [.ptr 0 0, .ptr 1 0, .ptr 2 0, .int .i64 w] [.box [.sl .u8 bs, .int .i64 q], .box [.sl .kind ks, .sl .point ps], .box [.str [], .int .i64 0, .int .i64 0, .str []]] (fun v h => ∃ x : ChgP, v = .agg [.str x.c.flight, .int .i64 x.c.what, .int .i64 x.c.number, .str x.c.value] ∧ h = [.box [.sl .u8 bs, .int .i64 x.p]] ∧ Qi1t p x) := fun q w h2 h3 => by
   refine CutE.of Qe50 rfl (Qczd w bs q ks ps [] 0 0 []) ?_
   obtain ⟨v1, v2, v3, v4⟩ := vl (q + 1 + 1) w (by omega) (by omega)
   exact SatE.need (rd _ _ (by omega) (by omega) (Nat.zero_lt_succ _)) (SatE.need (ps0 _ (by omega) (by omega)) (SatE.need v1 (SatE.ret (Q7ox v2 v3 v4))))
  refine SatE.need (ps0 _ (by omega) (by omega)) (SatE.ifb (fun _ => SatE.need (ps0 _ (by omega) (by omega)) (SatE.ifb (fun _ => ?_) (fun _ => ?_))) (fun _ => ?_))
  ·exact SatE.cut (hc _ _ (by omega) (by omega))
  ·exact SatE.cut (hc _ _ (by omega) (by omega))
  ·exact SatE.cut (hc _ _ (by omega) (by omega))
 obtain ⟨v, H', h, x, rfl, rfl, hx⟩ := hE
 unfold dChg
 exact Qk78 (p := fun x : ChgP => Qewq Tryz.prog CP Qhy2 [.ptr 0 0, .agg [.sl .kind ks, .sl .point ps]] [.box [.sl .u8 bs, .int .i64 p]] (.agg [.str x.c.flight, .int .i64 x.c.what, .int .i64 x.c.number, .str x.c.value]) [.box [.sl .u8 bs, .int .i64 x.p]] ∧ Qi1t p x) ⟨x, h, hx⟩
theorem Q20h (bs : List Int) (p : Int) (ks : List Kind) (ps : List Point) (hg : chgK bs p ks ps = true) : Qewq Tryz.prog CP Qhy2 [.ptr 0 0, .agg [.sl .kind ks, .sl .point ps]] [.box [.sl .u8 bs, .int .i64 p]] (.agg [.str (dChg bs p ks ps).c.flight, .int .i64 (dChg bs p ks ps).c.what, .int .i64 (dChg bs p ks ps).c.number, .str (dChg bs p ks ps).c.value]) [.box [.sl .u8 bs, .int .i64 (dChg bs p ks ps).p]] := by
 exact (Qnhc bs p ks ps hg).1
theorem Q3dh : EntOK Tryz.prog CP Qhy2 Qiyn := by
 refine ⟨⟨Tryz.f90, by kernel_rfl, by kernel_rfl, by kernel_rfl⟩, fun args H res H' h => ?_⟩
 simp only [Qiyn] at h
 split at h
 ·simp only [Option.some.injEq, Prod.mk.injEq] at h
  obtain ⟨hg, rfl, rfl⟩ := h
  exact Q20h _ _ _ _ hg
 ·cases h

noncomputable def Q9ws : RE Ty El := ⟨Tryz.prog, CP, [(Qpxs, Q7v2), (Qhy2, Qiyn)], Tryz.f150, 1, [.ro .chg], [(3, [(0, .any), (4, .any), (7, .any), (8, .any)])]⟩
theorem Qtkw : REOK Q9ws Q43w := ⟨CP_ok, (TabOK.cons Q0e7 (TabOK.cons Q3dh Qye1)), by kernel_rfl, by kernel_rfl⟩
theorem Qr5u (bs : List Int) (p : Int) (ks : List Kind) (ps : List Point) (m : Int) : aRun Q9ws 600 false (body0 Q9ws.fn) (Q4gm Q9ws.fn [.ptr 0 0, .agg [.sl .kind ks, .sl .point ps], .int .i64 m] [.box [.sl .u8 bs, .int .i64 p]]) =
 ifb (posOk p) (some (.go (Qu6t Q9ws.fn 3) [.ptr 0 0, .ptr 1 0, .own 2 [] 0, .int .i64 (pickV bs p m)] [.box [.sl .u8 bs, .int .i64 (p + (1 : Int))], .box [.sl .kind ks, .sl .point ps], .row .chg [] 0 0 0 .no])) (none) := by kernel_rfl
theorem Qv2y (x0 : Int) (x1 : List (El .u8)) (x2 : Int) (x3 : List (El .kind)) (x4 : List (El .point)) (x5 : List (El .chg)) : aRun Q9ws 600 true (Qu6t Q9ws.fn 3) (cutSt Q9ws.fn (Q1m4 Q9ws (Qu6t Q9ws.fn 3)) [.ptr 0 0, .ptr 1 0, .own 2 [] 0, .int .i64 x0] [.box [.sl .u8 x1, .int .i64 x2], .box [.sl .kind x3, .sl .point x4], .row .chg x5 0 0 0 .no]) =
 ifb (decide (x0 > (0 : Int))) (ifb (chgK x1 x2 x3 x4) (ifb (decide ((x5.length + [(dChg x1 x2 x3 x4).c].length) * Qbhn Q9ws.P (51 : Nat) ≤ (140737488355328 : Nat))) (some (.go (Qu6t Q9ws.fn 3) [.ptr 0 0, .ptr 1 0, .own 2 [] 0, .int .i64 (IntKind.i64.wrap (x0 - (1 : Int)))] [.box [.sl .u8 x1, .int .i64 ((dChg x1 x2 x3 x4).p)], .box [.sl .kind x3, .sl .point x4], .row .chg (x5 ++ [(dChg x1 x2 x3 x4).c]) 0 0 0 .no])) (none)) (none)) (some (.ret (.sl .chg x5) [.box [.sl .u8 x1, .int .i64 x2]])) := by kernel_rfl
theorem Qpkk (bs : List Int) (ks : List Kind) (ps : List Point) (hbs : Qf9o bs = true) (hb : Qib4 ks ps = true) (h1 : 1 ≤ ps.length) : ∀ (d : Nat) (l : List Chg) (q : Int), 0 ≤ q → q + 30 * d ≤ 890000 → l.length + d ≤ 24 → l.all (fun c => szV c.value) = true →
  CutE Q9ws Q43w 3 [.ptr 0 0, .ptr 1 0, .own 2 [] 0, .int .i64 (d : Int)] [.box [.sl .u8 bs, .int .i64 q], .box [.sl .kind ks, .sl .point ps], .row .chg l 0 0 0 .no] (fun v h => ∃ x : ChgsP, v = .sl .chg x.l ∧ h = [.box [.sl .u8 bs, .int .i64 x.p]] ∧ x.l.length ≤ 24 ∧ x.l.all (fun c => szV c.value) = true ∧ q ≤ x.p ∧ x.p ≤ q + 30 * d) := by
 have hbb : Qbhn Q9ws.P 51 ≤ 256 := of_decide_eq_true (by kernel_rfl)
 intro d
 induction d with
 | zero =>
  intro l q h0 hq hl hz
  refine CutE.of Qtkw rfl (Qv2y (0 : Nat) bs q ks ps l) ?_
  exact SatE.ret ⟨⟨l, q⟩, rfl, rfl, by simpa using hl, hz, by simp, by simp⟩
 | succ d ih =>
  intro l q h0 hq hl hz
  refine CutE.of Qtkw rfl (Qv2y ((d + 1 : Nat) : Int) bs q ks ps l) ?_
  have hw : IntKind.i64.wrap (((d + 1 : Nat) : Int) - 1) = (d : Int) := by rw [Qbrg] <;> omega
  have hc : chgK bs q ks ps = true := by simp only [chgK, Bool.and_eq_true, decide_eq_true_eq]; exact ⟨hbs, h0, by omega, (Qd1y hb).1, (Qd1y hb).2, h1⟩
  obtain ⟨c1, c2, c3⟩ := (Qnhc bs q ks ps hc).2
  rw [show decide (((d + 1 : Nat) : Int) > 0) = true from decide_eq_true (by omega), hc, hw]
  simp only [Qd8q]
  refine SatE.need (Q1mk hbb (by simp; omega)) (SatE.mono (SatE.cut (ih (l ++ [(dChg bs q ks ps).c]) (dChg bs q ks ps).p (by omega) (by omega) (by simp; omega) (by rw [List.all_append, hz]; simpa using c1))) ?_)
  rintro v h ⟨x, rfl, rfl, a1, a2, a3, a4⟩
  exact ⟨x, rfl, rfl, a1, a2, by omega, by omega⟩
theorem Qbm6 (bs : List Int) (p : Int) (ks : List Kind) (ps : List Point) (m : Int) (hg : chgsK bs p ks ps m = true) : Qewq Tryz.prog CP Q43w [.ptr 0 0, .agg [.sl .kind ks, .sl .point ps], .int .i64 m] [.box [.sl .u8 bs, .int .i64 p]] (.sl .chg (dChgs bs p ks ps m).l) [.box [.sl .u8 bs, .int .i64 (dChgs bs p ks ps m).p]] ∧ Q4tv p (dChgs bs p ks ps m) := by
 simp only [chgsK, Bool.and_eq_true, decide_eq_true_eq] at hg
 obtain ⟨hbs, h0, h9, hb, h1, hm, hm2⟩ := hg
 have hE : CallE Q9ws.P Q9ws.C Q43w [.ptr 0 0, .agg [.sl .kind ks, .sl .point ps], .int .i64 m] [.box [.sl .u8 bs, .int .i64 p]] (fun v h => ∃ x : ChgsP, v = .sl .chg x.l ∧ h = [.box [.sl .u8 bs, .int .i64 x.p]] ∧ Q4tv p x) := by
  refine CallE.of Qtkw (by kernel_rfl) (Qr5u bs p ks ps m) ?_
  obtain ⟨a1, a2⟩ := Q5va (n := m) hbs (Q8s4 (q := p) (by omega) (by omega)) hm
  refine SatE.need (Q8s4 (by omega) (by omega)) ?_
  obtain ⟨d, hd⟩ := Int.eq_ofNat_of_zero_le a1
  rw [hd]
  refine SatE.mono (SatE.cut (Qpkk bs ks ps hbs hb h1 d [] (p + 1) (by omega) (by omega) (by simp; omega) rfl)) ?_
  rintro v h ⟨x, rfl, rfl, b1, b2, b3, b4⟩
  exact ⟨x, rfl, rfl, b1, b2, by omega, by omega⟩
 obtain ⟨v, H', h, x, rfl, rfl, hx⟩ := hE
 unfold dChgs
 exact Qk78 (p := fun x : ChgsP => Qewq Tryz.prog CP Q43w [.ptr 0 0, .agg [.sl .kind ks, .sl .point ps], .int .i64 m] [.box [.sl .u8 bs, .int .i64 p]] (.sl .chg x.l) [.box [.sl .u8 bs, .int .i64 x.p]] ∧ Q4tv p x) ⟨x, h, hx⟩
theorem Q3xm (bs : List Int) (p : Int) (ks : List Kind) (ps : List Point) (m : Int) (hg : chgsK bs p ks ps m = true) : Qewq Tryz.prog CP Q43w [.ptr 0 0, .agg [.sl .kind ks, .sl .point ps], .int .i64 m] [.box [.sl .u8 bs, .int .i64 p]] (.sl .chg (dChgs bs p ks ps m).l) [.box [.sl .u8 bs, .int .i64 (dChgs bs p ks ps m).p]] := by
 exact (Qbm6 bs p ks ps m hg).1
theorem Qel0 : EntOK Tryz.prog CP Q43w Qfl5 := by
 refine ⟨⟨Tryz.f150, by kernel_rfl, by kernel_rfl, by kernel_rfl⟩, fun args H res H' h => ?_⟩
 simp only [Qfl5] at h
 split at h
 ·simp only [Option.some.injEq, Prod.mk.injEq] at h
  obtain ⟨hg, rfl, rfl⟩ := h
  exact Q3xm _ _ _ _ _ hg
 ·cases h
end Lx
/- A change that is taken keeps a book in order. -/
namespace Lx
open Go Go.Proofs
def Qtv6 (q : Option Int) (w : Int) : Bool := match q with
 | none => true
 | some q => decide (q < w)
theorem Qg5r {ks : List Kind} {ps : List Point} {n : Str} {q : Option Int} {f : Fld} {l : List Fld} : Qt03 ks ps n q (f :: l) = (Qh2h ks ps n f.what f.number f.value && (Qtv6 q f.what && Qt03 ks ps n (some f.what) l)) := by
 cases q <;> rfl
theorem Qiqk {ks : List Kind} {ps : List Point} {n : Str} {f : Fld} (hf : Qh2h ks ps n f.what f.number f.value = true) : ∀ (l : List Fld) (q : Option Int), Qt03 ks ps n q l = true → Qtv6 q f.what = true → Qt03 ks ps n q (Qul0 l f) = true
 | [], q, _, hq => by simp only [Qul0, Qg5r, hf, hq, Bool.true_and]; rfl
 | g :: r, q, h, hq => by
  have h0 := h
  simp only [Qg5r, Bool.and_eq_true] at h
  obtain ⟨h1, h2, h3⟩ := h
  unfold Qul0
  split
  ·rename_i hlt
   simp only [Qg5r, h1, h2, Bool.true_and]
   exact Qiqk hf r (some g.what) h3 (decide_eq_true hlt)
  ·split
   ·rename_i hne he
    split
    ·simp only [Qg5r, hf, hq, Bool.true_and]
     rw [← he]; exact h3
    ·exact h0
   ·rename_i hlt hne
    simp only [Qg5r, hf, hq, h1, h3, Bool.true_and, Bool.and_true]
    exact decide_eq_true (by omega)
theorem Quu1 {ks : List Kind} {ps : List Point} {x : Entry} (hx : Q7i7 ks ps x = true) : ∀ (es : List Entry) (i : Nat) (q : Option Str), Qgea ks ps q es = true → (∀ e, es[i]? = some e → x.name = e.name) → Qgea ks ps q (es.set i x) = true
 | [], _, _, _, _ => rfl
 | e :: r, 0, q, h, hn => by
  simp only [Qgea, Bool.and_eq_true] at h
  simp only [List.set_cons_zero, Qgea, Bool.and_eq_true, hn e rfl]
  exact ⟨hx, h.2.1, h.2.2⟩
 | e :: r, i + 1, q, h, hn => by
  simp only [Qgea, Bool.and_eq_true] at h
  simp only [List.set_cons_succ, Qgea, Bool.and_eq_true]
  exact ⟨h.1, h.2.1, Quu1 hx r i _ h.2.2 (fun e' he' => hn e' (by simpa using he'))⟩
theorem Qe48 {ks : List Kind} {ps : List Point} {n : Str} {f : Fld} (hx : Q7i7 ks ps ⟨n, [f]⟩ = true) : ∀ (es : List Entry) (q : Option Str), Qgea ks ps q es = true → Qe7t q n = true → (∀ e ∈ es, e.name ≠ n) → Qgea ks ps q (insE es n f) = true
 | [], q, _, hq, _ => by simp only [insE, Qgea, hx, hq, Bool.true_and]
 | e :: r, q, h, hq, hn => by
  simp only [Qgea, Bool.and_eq_true] at h
  unfold insE
  split
  ·rename_i hlt
   simp only [Qgea, Bool.and_eq_true]
   exact ⟨h.1, h.2.1, Qe48 hx r _ h.2.2 hlt (fun e' he' => hn e' (List.mem_cons_of_mem _ he'))⟩
  ·rename_i hlt
   simp only [Qgea, Bool.and_eq_true]
   refine ⟨hx, hq, h.1, ?_, h.2.2⟩
   have h1 := le_lt n e.name
   have h2 : Q7zj e.name n = false := by simpa using hlt
   have h3 : (n == e.name) = false := by
    have := hn e (List.mem_cons_self ..)
    simp only [beq_eq_false_iff_ne]; exact fun e' => this e'.symm
   rw [h2, h3, Bool.or_false] at h1
   exact h1
theorem Q853 {es : List Entry} {n : Str} (h : entIx es n < 0) : ∀ e ∈ es, e.name ≠ n := by
 intro e he hn
 unfold entIx idxF at h
 split at h
 ·omega
 ·rename_i hf
  have := List.findIdx?_eq_none_iff.1 hf e he
  simp [hn] at this
theorem Qn0g {es : List Entry} {n : Str} (h : 0 ≤ entIx es n) : ∀ e, es[(entIx es n).toNat]? = some e → e.name = n := by
 intro e he
 unfold entIx idxF at h he
 split at h
 ·rename_i i hf
  rw [hf] at he
  obtain ⟨hlt, hp, _⟩ := List.findIdx?_eq_some_iff_getElem.1 hf
  simp only [Int.toNat_natCast, List.getElem?_eq_getElem hlt, Option.some.injEq] at he
  subst he
  simpa using hp
 ·omega
theorem Qz8z {ks : List Kind} {ps : List Point} {es : List Entry} {c : Chg} (hb : Qn0o ks ps es = true) (hc : Qs7k ks ps c = true) (hl : ¬ (entIx es c.flight < 0 ∧ 12 ≤ es.length)) : Qn0o ks ps (putF es c.flight ⟨c.what, c.number, c.value⟩) = true := by
 simp only [Qn0o, Bool.and_eq_true, decide_eq_true_eq] at hb
 obtain ⟨hb0, hb1, hb2⟩ := hb
 simp only [Qs7k, Bool.and_eq_true] at hc
 obtain ⟨c1, c2, _, c3⟩ := hc
 have hcv : Qh2h ks ps c.flight c.what c.number c.value = true := by simp only [Qh2h, c1, c2, c3, Bool.and_true]
 simp only [Qn0o, Bool.and_eq_true, decide_eq_true_eq]
 refine ⟨hb0, ?_⟩
 by_cases h : 0 ≤ entIx es c.flight
 ·rw [Q5v6 h]
  refine ⟨by rw [List.length_set]; exact hb1, ?_⟩
  have hlt : (entIx es c.flight).toNat < es.length := by have h2 : entIx es c.flight < (es.length : Int) := Q1mf; omega
  have hat : es[(entIx es c.flight).toNat]? = some (es.getD (entIx es c.flight).toNat (dfltP .entry)) := by rw [List.getD_eq_getElem?_getD, List.getElem?_eq_getElem hlt]; rfl
  have hm := Qhwx h
  have hn := Qn0g h _ hat
  have ho := Qmra es _ hb2 _ hm
  generalize es.getD (entIx es c.flight).toNat (dfltP .entry) = e at *
  refine Quu1 ?_ es _ none hb2 (fun e' he' => by rw [hat] at he'; simp only [Option.some.injEq] at he'; rw [← he'])
  simp only [Q7i7, Bool.and_eq_true] at ho ⊢
  refine ⟨ho.1, ?_, Qiqk (n := e.name) (by rw [hn]; exact hcv) _ none ho.2.2 rfl⟩
  cases e.fields with
  | nil => simp [Qul0]
  | cons g r =>
   unfold Qul0
   split
   ·simp
   ·split
    ·split <;> simp
    ·simp
 ·rw [Qk9v h]
  refine ⟨?_, Qe48 ?_ es none hb2 rfl (Q853 (by omega))⟩
  ·rw [Q7l0]
   have : ¬ 12 ≤ es.length := fun h12 => hl ⟨by omega, h12⟩
   omega
  ·simp only [Q7i7, Qt03, c1, hcv, Bool.true_and, Bool.and_true]; rfl
theorem Qdgy {ks : List Kind} {ps : List Point} {es : List Entry} {c : Chg} (hb : Qn0o ks ps es = true) : (takeF ks ps es c).ks = ks ∧ (takeF ks ps es c).ps = ps ∧ Qn0o ks ps (takeF ks ps es c).es = true := by
 unfold takeF
 rw [if_pos hb]
 split
 ·rename_i hc
  split
  ·exact ⟨rfl, rfl, hb⟩
  ·rename_i hl
   exact ⟨rfl, rfl, Qz8z hb hc hl⟩
 ·exact ⟨rfl, rfl, hb⟩
def goodE (ks : List Kind) (ps : List Point) (es : List Entry) : Bool := Qn0o ks ps es && goodB ks ps es
theorem Qy7k {ks : List Kind} {ps : List Point} {es : List Entry} {c : Chg} (h : goodE ks ps es = true) (hv : szV c.value = true) : (takeF ks ps es c).ks = ks ∧ (takeF ks ps es c).ps = ps ∧ goodE ks ps (takeF ks ps es c).es = true := by
 simp only [goodE, Bool.and_eq_true] at h ⊢
 obtain ⟨h1, h2, h3⟩ := Qdgy (c := c) h.1
 have h4 := Qk6a (c := c) h.2 hv
 rw [h1, h2] at h4
 exact ⟨h1, h2, h3, h4⟩
end Lx
/- Meanings: all changes taken; books drawn. -/
namespace Lx
open Go Go.Proofs
structure TkP where
 es : List Entry
 cs : List Int
 deriving Inhabited
noncomputable def dTk (ks : List Kind) (ps : List Point) (es : List Entry) (l : List Chg) : TkP := drawn (fun x => Qewq Tryz.prog CP Qlb4 [.agg [.sl .kind ks, .sl .point ps, .sl .entry es], .sl .chg l] [] (.tup [.agg [.sl .kind ks, .sl .point ps, .sl .entry x.es], .sl .int x.cs]) [] ∧ goodE ks ps x.es = true)
def tkK (ks : List Kind) (ps : List Point) (es : List Entry) (l : List Chg) : Bool := goodE ks ps es && (decide (l.length ≤ 1000) && l.all (fun c => szV c.value))
noncomputable def Q2m7 : Ent Ty El := ⟨[.ro, .ro], 0, fun a h => match a, h with
 | [.agg [.sl .kind ks, .sl .point ps, .sl .entry es], .sl .chg l], [] => some (tkK ks ps es l, .tup [.agg [.sl .kind ks, .sl .point ps, .sl .entry (dTk ks ps es l).es], .sl .int (dTk ks ps es l).cs], [])
 | _, _ => none⟩
end Lx
/- All changes taken. -/
namespace Lx
open Go Go.Proofs
noncomputable def Qkxy : RE Ty El := ⟨Tryz.prog, CP, [(Qdfk, Q124), (Qfx9, Qc1o), (Qbeb, Q8t5)], Tryz.f63, 0, [.agg [.ro .kind, .ro .point, .ro .entry], .ro .int], [(6, [(1, .any), (4, .any), (6, .any), (7, .box [.ro .kind, .ro .point, .ro .entry]), (8, .any)])]⟩
theorem Qdq1 : REOK Qkxy Qlb4 := ⟨CP_ok, (TabOK.cons Q8cq (TabOK.cons Qaka (TabOK.cons Q2a7 Qye1))), by kernel_rfl, by kernel_rfl⟩
theorem Qw5w (ks : List Kind) (ps : List Point) (es : List Entry) (l : List Chg) : aRun Qkxy 600 false (body0 Qkxy.fn) (Q4gm Qkxy.fn [.agg [.sl .kind ks, .sl .point ps, .sl .entry es], .sl .chg l] []) =
 ifb (szB es) (ifb (!Qn0o ks ps es) (some (.ret (.tup [.agg [.sl .kind [], .sl .point [], .sl .entry []], .sl .int []]) [])) (ifb (Q8cx ks ps es) (some (.go (Qu6t Qkxy.fn 6) [.sl .chg l, .ptr 0 0, .own 1 [] 0, .ptr 2 0, .int .i64 (0 : Int)] [.box [.nils, .nils, .nils], .row .int [] 0 0 0 .no, .box [.sl .kind ks, .sl .point ps, .sl .entry es]])) (none))) (none) := by kernel_rfl
theorem Qmr7 (x0 : List (El .chg)) (x1 : Int) (x2 : List (El .int)) (x3 : List (El .kind)) (x4 : List (El .point)) (x5 : List (El .entry)) : aRun Qkxy 600 true (Qu6t Qkxy.fn 6) (cutSt Qkxy.fn (Q1m4 Qkxy (Qu6t Qkxy.fn 6)) [.sl .chg x0, .ptr 0 0, .own 1 [] 0, .ptr 2 0, .int .i64 x1] [.box [.nils, .nils, .nils], .row .int x2 0 0 0 .no, .box [.sl .kind x3, .sl .point x4, .sl .entry x5]]) =
 ifb (decide (x1 < (↑x0.length : Int))) (ifb (inb x1 x0.length) (ifb (goodB x3 x4 x5 && szV (x0.getD x1.toNat (Qkxy.C.dflt Ty.chg)).value) (ifb (decide ((x2.length + [(takeF x3 x4 x5 (x0.getD x1.toNat (Qkxy.C.dflt Ty.chg))).code].length) * Qbhn Qkxy.P (3 : Nat) ≤ (140737488355328 : Nat))) (some (.go (Qu6t Qkxy.fn 6) [.sl .chg x0, .ptr 0 0, .own 1 [] 0, .ptr 2 0, .int .i64 (IntKind.i64.wrap (x1 + (1 : Int)))] [.box [.nils, .nils, .nils], .row .int (x2 ++ [(takeF x3 x4 x5 (x0.getD x1.toNat (Qkxy.C.dflt Ty.chg))).code]) 0 0 0 .no, .box [.sl .kind ((takeF x3 x4 x5 (x0.getD x1.toNat (Qkxy.C.dflt Ty.chg))).ks), .sl .point ((takeF x3 x4 x5 (x0.getD x1.toNat (Qkxy.C.dflt Ty.chg))).ps), .sl .entry ((takeF x3 x4 x5 (x0.getD x1.toNat (Qkxy.C.dflt Ty.chg))).es)]])) (none)) (none)) (none)) (some (.ret (.tup [.agg [.sl .kind x3, .sl .point x4, .sl .entry x5], .sl .int x2]) [])) := by kernel_rfl
theorem Qq9y (ks : List Kind) (ps : List Point) (l : List Chg) (g0 : l.length ≤ 1000) (g1 : l.all (fun c => szV c.value) = true) : ∀ (d i : Nat) (es : List Entry) (cs : List Int), i + d = l.length → cs.length = i → goodE ks ps es = true →
  CutE Qkxy Qlb4 6 [.sl .chg l, .ptr 0 0, .own 1 [] 0, .ptr 2 0, .int .i64 (i : Int)] [.box [.nils, .nils, .nils], .row .int cs 0 0 0 .no, .box [.sl .kind ks, .sl .point ps, .sl .entry es]] (fun v h => ∃ x : TkP, v = (.tup [.agg [.sl .kind ks, .sl .point ps, .sl .entry x.es], .sl .int x.cs]) ∧ h = [] ∧ goodE ks ps x.es = true) := by
 have hbb : Qbhn Qkxy.P 3 ≤ 256 := of_decide_eq_true (by kernel_rfl)
 intro d
 induction d with
 | zero =>
  intro i es cs hi hc hg
  refine CutE.of Qdq1 rfl (Qmr7 l i cs ks ps es) ?_
  rw [show decide ((i : Int) < (l.length : Int)) = false from decide_eq_false (by omega), Qk7y]
  exact SatE.ret ⟨⟨es, cs⟩, rfl, rfl, hg⟩
 | succ d ih =>
  intro i es cs hi hc hg
  refine CutE.of Qdq1 rfl (Qmr7 l i cs ks ps es) ?_
  have hlt : i < l.length := by omega
  have hw : IntKind.wrap .i64 ((i : Int) + 1) = ((i + 1 : Nat) : Int) := by rw [Qbrg] <;> omega
  have hw1 : IntKind.wrap .i64 ((i : Int) - 1) = (i : Int) - 1 := by rw [Qbrg] <;> omega
  have hd : l.drop i = l[i] :: l.drop (i + 1) := List.drop_eq_getElem_cons hlt
  have hx : l.getD (i : Int).toNat (Qkxy.C.dflt .chg) = l[i] := by simp [hlt]
  have hin : inb (i : Int) l.length = true := by simp only [inb, Bool.and_eq_true, decide_eq_true_eq]; omega
  have hlo : decide ((i : Int) < (l.length : Int)) = true := decide_eq_true (by omega)
  have htk := List.take_succ_eq_append_getElem hlt
  have hl : (l.take (i + 1)).getLast? = some l[i] := by rw [List.take_succ_eq_append_getElem hlt, List.getLast?_concat]
  have hv := List.all_eq_true.1 g1 _ (List.getElem_mem hlt)
  obtain ⟨t1, t2, t3⟩ := Qy7k (c := l[i]) hg hv
  have hgb := hg
  simp only [goodE, Bool.and_eq_true] at hgb
  rw [hlo, hin, hx, hw, hgb.2, hv, t1, t2]
  simp only [Qd8q, Bool.and_true]
  exact SatE.need (Q1mk hbb (by simp; omega)) (SatE.cut (ih (i + 1) _ _ (by omega) (by simp; omega) t3))
theorem Qhv6 (ks : List Kind) (ps : List Point) (es : List Entry) (l : List Chg) (hg : tkK ks ps es l = true) : Qewq Tryz.prog CP Qlb4 [.agg [.sl .kind ks, .sl .point ps, .sl .entry es], .sl .chg l] [] (.tup [.agg [.sl .kind ks, .sl .point ps, .sl .entry (dTk ks ps es l).es], .sl .int (dTk ks ps es l).cs]) [] ∧ goodE ks ps (dTk ks ps es l).es = true := by
 simp only [tkK, Bool.and_eq_true, decide_eq_true_eq] at hg
 obtain ⟨h0, h1, h2⟩ := hg
 have h3 := h0
 simp only [goodE, goodB, Bool.and_eq_true] at h3
 obtain ⟨b1, b2, b3⟩ := h3
 have hE : CallE Qkxy.P Qkxy.C Qlb4 [.agg [.sl .kind ks, .sl .point ps, .sl .entry es], .sl .chg l] [] (fun v h => ∃ x : TkP, v = (.tup [.agg [.sl .kind ks, .sl .point ps, .sl .entry x.es], .sl .int x.cs]) ∧ h = [] ∧ goodE ks ps x.es = true) := by
  refine CallE.of Qdq1 (by kernel_rfl) (Qw5w ks ps es l) ?_
  rw [b1, b2, b3]
  exact SatE.cut (Qq9y ks ps l h1 h2 l.length 0 es [] (by omega) rfl h0)
 obtain ⟨v, H', h, x, rfl, rfl, hx⟩ := hE
 exact Qk78 (p := fun x : TkP => Qewq Tryz.prog CP Qlb4 [.agg [.sl .kind ks, .sl .point ps, .sl .entry es], .sl .chg l] [] (.tup [.agg [.sl .kind ks, .sl .point ps, .sl .entry x.es], .sl .int x.cs]) [] ∧ goodE ks ps x.es = true) ⟨x, h, hx⟩
theorem Qqvt (ks : List Kind) (ps : List Point) (es : List Entry) (l : List Chg) (hg : tkK ks ps es l = true) : Qewq Tryz.prog CP Qlb4 [.agg [.sl .kind ks, .sl .point ps, .sl .entry es], .sl .chg l] [] (.tup [.agg [.sl .kind ks, .sl .point ps, .sl .entry (dTk ks ps es l).es], .sl .int (dTk ks ps es l).cs]) [] := by
 exact (Qhv6 ks ps es l hg).1
theorem Qyvn : EntOK Tryz.prog CP Qlb4 Q2m7 := by
 refine ⟨⟨Tryz.f63, by kernel_rfl, by kernel_rfl, by kernel_rfl⟩, fun args H res H' h => ?_⟩
 simp only [Q2m7] at h
 split at h
 ·simp only [Option.some.injEq, Prod.mk.injEq] at h
  obtain ⟨hg, rfl, rfl⟩ := h
  exact Qqvt _ _ _ _ hg
 ·cases h
end Lx
/- Meanings: books drawn. -/
namespace Lx
open Go Go.Proofs
structure BkP where
 es : List Entry
 p : Int
 deriving Inhabited
def Qv5n (ks : List Kind) (ps : List Point) (p : Int) (x : BkP) : Prop := goodE ks ps x.es = true ∧ p ≤ x.p ∧ x.p ≤ p + 1000
noncomputable def dBook (bs : List Int) (p : Int) (ks : List Kind) (ps : List Point) : BkP := drawn (fun x => Qewq Tryz.prog CP Q604 [.ptr 0 0, .agg [.sl .kind ks, .sl .point ps]] [.box [.sl .u8 bs, .int .i64 p]] (.agg [.sl .kind ks, .sl .point ps, .sl .entry x.es]) [.box [.sl .u8 bs, .int .i64 x.p]] ∧ Qv5n ks ps p x)
def bkK (bs : List Int) (p : Int) (ks : List Kind) (ps : List Point) : Bool := Qf9o bs && (decide (0 ≤ p) && (decide (p ≤ 870000) && (Qib4 ks ps && decide (1 ≤ ps.length))))
noncomputable def Qnfe : Ent Ty El := ⟨[.io, .ro], 0, fun a h => match a, h with
 | [.ptr 0 0, .agg [.sl .kind ks, .sl .point ps]], [.box [.sl .u8 bs, .int .i64 p]] => some (bkK bs p ks ps, .agg [.sl .kind ks, .sl .point ps, .sl .entry (dBook bs p ks ps).es], [.box [.sl .u8 bs, .int .i64 (dBook bs p ks ps).p]])
 | _, _ => none⟩
theorem Qkew {ks : List Kind} {ps : List Point} (h : Qib4 ks ps = true) : goodE ks ps [] = true := by
 have h0 := h
 simp only [Qib4, Bool.and_eq_true, decide_eq_true_eq] at h
 have k1 : Q6lz ks = true := by simp only [Q6lz, Bool.and_true, decide_eq_true_eq]; omega
 have k2 : Qjyp ps = true := by simp only [Qjyp, Bool.and_true, decide_eq_true_eq]; omega
 have k3 : Qn0o ks ps [] = true := by rw [Qn0o, h0]; rfl
 have k4 : Q8cx ks ps [] = true := by rw [Q8cx, k1, k2]; rfl
 rw [goodE, goodB, k3, k4]; rfl
end Lx
/- Books drawn. -/
namespace Lx
open Go Go.Proofs
noncomputable def Qoc9 : RE Ty El := ⟨Tryz.prog, CP, [(Qpxs, Q7v2), (Qbeb, Q8t5), (Qwqy, Q0t5), (Qlb4, Q2m7), (Q43w, Qfl5), (Qstj, Qmce)], Tryz.f142, 1, [.agg [.ro .kind, .ro .point, .ro .entry]], [(4, [(0, .box [.ro .kind, .ro .point, .ro .entry]), (3, .box [.ro .kind, .ro .point, .ro .entry]), (4, .box [.ro .kind, .ro .point, .ro .entry]), (5, .box [.ro .kind, .ro .point, .ro .entry]), (6, .box [.ro .kind, .ro .point, .ro .entry])]), (10, [(4, .box [.ro .kind, .ro .point, .ro .entry]), (5, .box [.ro .kind, .ro .point, .ro .entry]), (7, .box [.ro .kind, .ro .point, .ro .entry])]), (7, [(0, .box [.ro .kind, .ro .point, .ro .entry]), (3, .box [.ro .kind, .ro .point, .ro .entry]), (4, .box [.ro .kind, .ro .point, .ro .entry]), (5, .box [.ro .kind, .ro .point, .ro .entry])])]⟩
theorem Q692 : REOK Qoc9 Q604 := ⟨CP_ok, (TabOK.cons Q0e7 (TabOK.cons Q2a7 (TabOK.cons Qnck (TabOK.cons Qyvn (TabOK.cons Qel0 (TabOK.cons Qqii Qye1)))))), by kernel_rfl, by kernel_rfl⟩
theorem Qh82 (bs : List Int) (p : Int) (ks : List Kind) (ps : List Point) : aRun Qoc9 600 false (body0 Qoc9.fn) (Q4gm Qoc9.fn [.ptr 0 0, .agg [.sl .kind ks, .sl .point ps]] [.box [.sl .u8 bs, .int .i64 p]]) =
 ifb (posOk p) (ifb (decide (pickV bs p (3 : Int) > (0 : Int))) (some (.go (Qu6t Qoc9.fn 4) [.ptr 0 0, .ptr 1 0, .ptr 2 0, .ptr 3 0, .int .i64 (1 : Int)] [.box [.sl .u8 bs, .int .i64 (p + (1 : Int))], .box [.sl .kind ks, .sl .point ps], .box [.sl .kind [], .sl .point [], .sl .entry []], .box [.sl .kind ks, .sl .point ps, .sl .entry []]])) (some (.go (Qu6t Qoc9.fn 7) [.ptr 0 0, .ptr 1 0, .ptr 2 0, .ptr 3 0] [.box [.sl .u8 bs, .int .i64 (p + (1 : Int))], .box [.sl .kind ks, .sl .point ps], .box [.sl .kind [], .sl .point [], .sl .entry []], .box [.sl .kind ks, .sl .point ps, .sl .entry []]]))) (none) := by kernel_rfl
theorem Qbfw (x0 : Int) (x1 : List (El .u8)) (x2 : Int) (x3 : List (El .kind)) (x4 : List (El .point)) (x5 : List (El .kind)) (x6 : List (El .point)) (x7 : List (El .entry)) (x8 : List (El .kind)) (x9 : List (El .point)) (x10 : List (El .entry)) : aRun Qoc9 600 true (Qu6t Qoc9.fn 4) (cutSt Qoc9.fn (Q1m4 Qoc9 (Qu6t Qoc9.fn 4)) [.ptr 0 0, .ptr 1 0, .ptr 2 0, .ptr 3 0, .int .i64 x0] [.box [.sl .u8 x1, .int .i64 x2], .box [.sl .kind x3, .sl .point x4], .box [.sl .kind x5, .sl .point x6, .sl .entry x7], .box [.sl .kind x8, .sl .point x9, .sl .entry x10]]) =
 ifb (decide (x0 ≤ (4 : Int))) (ifb (valK x1 x2 x3 x4) (ifb (goodB x8 x9 x10 && szV (dVal x1 x2 x3 x4 x0).s) (some (.go (Qu6t Qoc9.fn 4) [.ptr 0 0, .ptr 1 0, .ptr 2 0, .ptr 3 0, .int .i64 (IntKind.i64.wrap (x0 + (1 : Int)))] [.box [.sl .u8 x1, .int .i64 ((dVal x1 x2 x3 x4 x0).p)], .box [.sl .kind x3, .sl .point x4], .box [.sl .kind x5, .sl .point x6, .sl .entry x7], .box [.sl .kind ((takeF x8 x9 x10 (Chg.mk #[(107 : UInt8), (108 : UInt8), (49 : UInt8)].toList x0 (1 : Int) (dVal x1 x2 x3 x4 x0).s)).ks), .sl .point ((takeF x8 x9 x10 (Chg.mk #[(107 : UInt8), (108 : UInt8), (49 : UInt8)].toList x0 (1 : Int) (dVal x1 x2 x3 x4 x0).s)).ps), .sl .entry ((takeF x8 x9 x10 (Chg.mk #[(107 : UInt8), (108 : UInt8), (49 : UInt8)].toList x0 (1 : Int) (dVal x1 x2 x3 x4 x0).s)).es)]])) (none)) (none)) (some (.go (Qu6t Qoc9.fn 7) [.ptr 0 0, .ptr 1 0, .ptr 2 0, .ptr 3 0] [.box [.sl .u8 x1, .int .i64 x2], .box [.sl .kind x3, .sl .point x4], .box [.sl .kind x5, .sl .point x6, .sl .entry x7], .box [.sl .kind x8, .sl .point x9, .sl .entry x10]])) := by kernel_rfl
theorem Qui8 (x0 : List (El .u8)) (x1 : Int) (x2 : List (El .kind)) (x3 : List (El .point)) (x4 : List (El .kind)) (x5 : List (El .point)) (x6 : List (El .entry)) (x7 : List (El .kind)) (x8 : List (El .point)) (x9 : List (El .entry)) : aRun Qoc9 600 true (Qu6t Qoc9.fn 7) (cutSt Qoc9.fn (Q1m4 Qoc9 (Qu6t Qoc9.fn 7)) [.ptr 0 0, .ptr 1 0, .ptr 2 0, .ptr 3 0] [.box [.sl .u8 x0, .int .i64 x1], .box [.sl .kind x2, .sl .point x3], .box [.sl .kind x4, .sl .point x5, .sl .entry x6], .box [.sl .kind x7, .sl .point x8, .sl .entry x9]]) =
 ifb (chgsK x0 x1 x2 x3 (24 : Int)) (ifb (tkK x7 x8 x9 (dChgs x0 x1 x2 x3 (24 : Int)).l) (ifb (posOk (dChgs x0 x1 x2 x3 (24 : Int)).p) (ifb (pickV x0 (dChgs x0 x1 x2 x3 (24 : Int)).p (16 : Int) == (0 : Int)) (some (.go (Qu6t Qoc9.fn 10) [.ptr 1 0, .ptr 2 0, .int .i64 (0 : Int)] [.box [.sl .u8 x0, .int .i64 ((dChgs x0 x1 x2 x3 (24 : Int)).p + (1 : Int))], .box [.sl .kind x4, .sl .point x5, .sl .entry x6], .box [.sl .kind x7, .sl .point x8, .sl .entry ((dTk x7 x8 x9 (dChgs x0 x1 x2 x3 (24 : Int)).l).es)]])) (some (.ret (.agg [.sl .kind x7, .sl .point x8, .sl .entry ((dTk x7 x8 x9 (dChgs x0 x1 x2 x3 (24 : Int)).l).es)]) [.box [.sl .u8 x0, .int .i64 ((dChgs x0 x1 x2 x3 (24 : Int)).p + (1 : Int))]]))) (none)) (none)) (none) := by kernel_rfl
theorem Qvgp (x0 : Int) (x1 : List (El .u8)) (x2 : Int) (x3 : List (El .kind)) (x4 : List (El .point)) (x5 : List (El .entry)) (x6 : List (El .kind)) (x7 : List (El .point)) (x8 : List (El .entry)) : aRun Qoc9 600 true (Qu6t Qoc9.fn 10) (cutSt Qoc9.fn (Q1m4 Qoc9 (Qu6t Qoc9.fn 10)) [.ptr 1 0, .ptr 2 0, .int .i64 x0] [.box [.sl .u8 x1, .int .i64 x2], .box [.sl .kind x3, .sl .point x4, .sl .entry x5], .box [.sl .kind x6, .sl .point x7, .sl .entry x8]]) =
 ifb (decide (x0 < (12 : Int))) (ifb (decide ((0 : Int) ≤ x0) && decide (x0 < (10 : Int) ^ ((4 : Nat) + (1 : Nat)))) (ifb (decide (#[(102 : UInt8)].toList.length + List.length (dDec (4 : Nat) x0) ≤ (9223372036854775807 : Nat))) (ifb (goodB x6 x7 x8 && szV #[(50 : UInt8)].toList) (some (.go (Qu6t Qoc9.fn 10) [.ptr 1 0, .ptr 2 0, .int .i64 (IntKind.i64.wrap (x0 + (1 : Int)))] [.box [.sl .u8 x1, .int .i64 x2], .box [.sl .kind x3, .sl .point x4, .sl .entry x5], .box [.sl .kind ((takeF x6 x7 x8 (Chg.mk (#[(102 : UInt8)].toList ++ dDec (4 : Nat) x0) (3 : Int) (5 : Int) #[(50 : UInt8)].toList)).ks), .sl .point ((takeF x6 x7 x8 (Chg.mk (#[(102 : UInt8)].toList ++ dDec (4 : Nat) x0) (3 : Int) (5 : Int) #[(50 : UInt8)].toList)).ps), .sl .entry ((takeF x6 x7 x8 (Chg.mk (#[(102 : UInt8)].toList ++ dDec (4 : Nat) x0) (3 : Int) (5 : Int) #[(50 : UInt8)].toList)).es)]])) (none)) (none)) (none)) (some (.ret (.agg [.sl .kind x6, .sl .point x7, .sl .entry x8]) [.box [.sl .u8 x1, .int .i64 x2]])) := by kernel_rfl
theorem Q8ao (bs : List Int) (ks : List Kind) (ps : List Point) (q : Int) (r0 : List Kind) (r1 : List Point) (r2 : List Entry) : ∀ (d i : Nat) (es : List Entry), i + d = 12 → goodE ks ps es = true →
  CutE Qoc9 Q604 10 [.ptr 1 0, .ptr 2 0, .int .i64 (i : Int)] [.box [.sl .u8 bs, .int .i64 q], .box [.sl .kind r0, .sl .point r1, .sl .entry r2], .box [.sl .kind ks, .sl .point ps, .sl .entry es]] (fun v h => ∃ x : BkP, v = (.agg [.sl .kind ks, .sl .point ps, .sl .entry x.es]) ∧ h = [.box [.sl .u8 bs, .int .i64 x.p]] ∧ goodE ks ps x.es = true ∧ q ≤ x.p ∧ x.p ≤ q + 0) := by
 intro d
 induction d with
 | zero =>
  intro i es hi hg
  refine CutE.of Q692 rfl (Qvgp i bs q r0 r1 r2 ks ps es) ?_
  rw [show decide ((i : Int) < 12) = false from decide_eq_false (by omega), Qk7y]
  exact SatE.ret ⟨⟨es, q⟩, rfl, rfl, hg, by simp, by simp⟩
 | succ d ih =>
  intro i es hi hg
  refine CutE.of Q692 rfl (Qvgp i bs q r0 r1 r2 ks ps es) ?_
  have hw : IntKind.i64.wrap ((i : Int) + 1) = ((i + 1 : Nat) : Int) := by rw [Qbrg] <;> omega
  obtain ⟨g1, l1⟩ := decs (n := (i : Int)) (by omega) (by omega)
  have hgb := hg
  simp only [goodE, Bool.and_eq_true] at hgb
  have hz : szV #[(50 : UInt8)].toList = true := decide_eq_true (by simp)
  obtain ⟨t1, t2, t3⟩ := Qy7k (c := (Chg.mk (#[(102 : UInt8)].toList ++ dDec (4 : Nat) (i : Int)) (3 : Int) (5 : Int) #[(50 : UInt8)].toList)) hg hz
  rw [show decide ((i : Int) < 12) = true from decide_eq_true (by omega), hw, t1, t2, Qd8q]
  exact SatE.need g1 (SatE.need (decide_eq_true (by simp; omega)) (SatE.need (by rw [Bool.and_eq_true]; exact ⟨hgb.2, hz⟩) (SatE.cut (ih (i + 1) _ (by omega) t3))))
theorem Q8ui (bs : List Int) (ks : List Kind) (ps : List Point) (hbs : Qf9o bs = true) (hb : Qib4 ks ps = true) (h1 : 1 ≤ ps.length) (q : Int) (h0 : 0 ≤ q) (hq : q ≤ 880000) (r0 : List Kind) (r1 : List Point) (r2 : List Entry) (es : List Entry) (hg : goodE ks ps es = true) :
  CutE Qoc9 Q604 7 [.ptr 0 0, .ptr 1 0, .ptr 2 0, .ptr 3 0] [.box [.sl .u8 bs, .int .i64 q], .box [.sl .kind ks, .sl .point ps], .box [.sl .kind r0, .sl .point r1, .sl .entry r2], .box [.sl .kind ks, .sl .point ps, .sl .entry es]] (fun v h => ∃ x : BkP, v = (.agg [.sl .kind ks, .sl .point ps, .sl .entry x.es]) ∧ h = [.box [.sl .u8 bs, .int .i64 x.p]] ∧ goodE ks ps x.es = true ∧ q ≤ x.p ∧ x.p ≤ q + 801) := by
 refine CutE.of Q692 rfl (Qui8 bs q ks ps r0 r1 r2 ks ps es) ?_
 have hc : chgsK bs q ks ps 24 = true := by simp only [chgsK, Bool.and_eq_true, decide_eq_true_eq]; exact ⟨hbs, h0, hq, hb, h1, by omega, by omega⟩
 obtain ⟨c1, c2, c3, c4⟩ := (Qbm6 bs q ks ps 24 hc).2
 have ht : tkK ks ps es (dChgs bs q ks ps 24).l = true := by simp only [tkK, Bool.and_eq_true, decide_eq_true_eq]; exact ⟨hg, by omega, c2⟩
 have hd := (Qhv6 ks ps es _ ht).2
 refine SatE.need hc (SatE.need ht (SatE.need (Q8s4 (by omega) (by omega)) (SatE.ifb (fun _ => ?_) (fun _ => ?_))))
 ·refine SatE.mono (SatE.cut (Q8ao bs ks ps _ r0 r1 r2 12 0 _ (by omega) hd)) ?_
  rintro v h ⟨x, rfl, rfl, a1, a2, a3⟩
  exact ⟨x, rfl, rfl, a1, by omega, by omega⟩
 ·exact SatE.ret ⟨⟨_, _⟩, rfl, rfl, hd, by show q ≤ (dChgs bs q ks ps 24).p + 1; omega, by show (dChgs bs q ks ps 24).p + 1 ≤ q + 801; omega⟩
theorem Qygj (bs : List Int) (ks : List Kind) (ps : List Point) (hbs : Qf9o bs = true) (hb : Qib4 ks ps = true) (h1 : 1 ≤ ps.length) (r0 : List Kind) (r1 : List Point) (r2 : List Entry) : ∀ (d i : Nat) (es : List Entry) (q : Int), i + d = 5 → 1 ≤ i → 0 ≤ q → q + 20 * d ≤ 880000 → goodE ks ps es = true →
  CutE Qoc9 Q604 4 [.ptr 0 0, .ptr 1 0, .ptr 2 0, .ptr 3 0, .int .i64 (i : Int)] [.box [.sl .u8 bs, .int .i64 q], .box [.sl .kind ks, .sl .point ps], .box [.sl .kind r0, .sl .point r1, .sl .entry r2], .box [.sl .kind ks, .sl .point ps, .sl .entry es]] (fun v h => ∃ x : BkP, v = (.agg [.sl .kind ks, .sl .point ps, .sl .entry x.es]) ∧ h = [.box [.sl .u8 bs, .int .i64 x.p]] ∧ goodE ks ps x.es = true ∧ q ≤ x.p ∧ x.p ≤ q + (801 + 20 * d)) := by
 intro d
 induction d with
 | zero =>
  intro i es q hi h1i h0 hq hg
  refine CutE.of Q692 rfl (Qbfw i bs q ks ps r0 r1 r2 ks ps es) ?_
  rw [show decide ((i : Int) ≤ 4) = false from decide_eq_false (by omega), Qk7y]
  exact SatE.mono (SatE.cut (Q8ui bs ks ps hbs hb h1 q h0 (by omega) r0 r1 r2 es hg)) (fun v h ⟨x, e1, e2, a1, a2, a3⟩ => ⟨x, e1, e2, a1, a2, by omega⟩)
 | succ d ih =>
  intro i es q hi h1i h0 hq hg
  refine CutE.of Q692 rfl (Qbfw i bs q ks ps r0 r1 r2 ks ps es) ?_
  have hw : IntKind.i64.wrap ((i : Int) + 1) = ((i + 1 : Nat) : Int) := by rw [Qbrg] <;> omega
  have hv : valK bs q ks ps = true := by simp only [valK, rdK, Bool.and_eq_true, decide_eq_true_eq]; exact ⟨⟨hbs, by omega, by omega⟩, (Qd1y hb).1, (Qd1y hb).2, h1⟩
  obtain ⟨v1, v2, v3⟩ := (Qpyo bs q ks ps (i : Int) hv).2
  have hz : szV (dVal bs q ks ps (i : Int)).s = true := decide_eq_true (by omega)
  have hgb := hg
  simp only [goodE, Bool.and_eq_true] at hgb
  obtain ⟨t1, t2, t3⟩ := Qy7k (c := (Chg.mk #[(107 : UInt8), (108 : UInt8), (49 : UInt8)].toList (i : Int) (1 : Int) (dVal bs q ks ps (i : Int)).s)) hg hz
  rw [show decide ((i : Int) ≤ 4) = true from decide_eq_true (by omega), hv, hw, hgb.2, hz, t1, t2]
  simp only [Qd8q, Bool.true_and]
  exact SatE.mono (SatE.cut (ih (i + 1) _ (dVal bs q ks ps (i : Int)).p (by omega) (by omega) (by omega) (by omega) t3)) (fun v h ⟨x, e1, e2, a1, a2, a3⟩ => ⟨x, e1, e2, a1, by omega, by omega⟩)
theorem Q4mo (bs : List Int) (p : Int) (ks : List Kind) (ps : List Point) (hg : bkK bs p ks ps = true) : Qewq Tryz.prog CP Q604 [.ptr 0 0, .agg [.sl .kind ks, .sl .point ps]] [.box [.sl .u8 bs, .int .i64 p]] (.agg [.sl .kind ks, .sl .point ps, .sl .entry (dBook bs p ks ps).es]) [.box [.sl .u8 bs, .int .i64 (dBook bs p ks ps).p]] ∧ Qv5n ks ps p (dBook bs p ks ps) := by
 simp only [bkK, Bool.and_eq_true, decide_eq_true_eq] at hg
 obtain ⟨hbs, h0, h9, hb, h1⟩ := hg
 have hE : CallE Qoc9.P Qoc9.C Q604 [.ptr 0 0, .agg [.sl .kind ks, .sl .point ps]] [.box [.sl .u8 bs, .int .i64 p]] (fun v h => ∃ x : BkP, v = (.agg [.sl .kind ks, .sl .point ps, .sl .entry x.es]) ∧ h = [.box [.sl .u8 bs, .int .i64 x.p]] ∧ Qv5n ks ps p x) := by
  refine CallE.of Q692 (by kernel_rfl) (Qh82 bs p ks ps) ?_
  refine SatE.need (Q8s4 (by omega) (by omega)) (SatE.ifb (fun _ => ?_) (fun _ => ?_))
  ·exact SatE.mono (SatE.cut (Qygj bs ks ps hbs hb h1 [] [] [] 4 1 [] (p + 1) (by omega) (by omega) (by omega) (by omega) (Qkew hb))) (fun v h ⟨x, e1, e2, a1, a2, a3⟩ => ⟨x, e1, e2, a1, by omega, by omega⟩)
  ·exact SatE.mono (SatE.cut (Q8ui bs ks ps hbs hb h1 (p + 1) (by omega) (by omega) [] [] [] [] (Qkew hb))) (fun v h ⟨x, e1, e2, a1, a2, a3⟩ => ⟨x, e1, e2, a1, by omega, by omega⟩)
 obtain ⟨v, H', h, x, rfl, rfl, hx⟩ := hE
 exact Qk78 (p := fun x : BkP => Qewq Tryz.prog CP Q604 [.ptr 0 0, .agg [.sl .kind ks, .sl .point ps]] [.box [.sl .u8 bs, .int .i64 p]] (.agg [.sl .kind ks, .sl .point ps, .sl .entry x.es]) [.box [.sl .u8 bs, .int .i64 x.p]] ∧ Qv5n ks ps p x) ⟨x, h, hx⟩
theorem Qyzu (bs : List Int) (p : Int) (ks : List Kind) (ps : List Point) (hg : bkK bs p ks ps = true) : Qewq Tryz.prog CP Q604 [.ptr 0 0, .agg [.sl .kind ks, .sl .point ps]] [.box [.sl .u8 bs, .int .i64 p]] (.agg [.sl .kind ks, .sl .point ps, .sl .entry (dBook bs p ks ps).es]) [.box [.sl .u8 bs, .int .i64 (dBook bs p ks ps).p]] := by
 exact (Q4mo bs p ks ps hg).1
theorem Qtpw : EntOK Tryz.prog CP Q604 Qnfe := by
 refine ⟨⟨Tryz.f142, by kernel_rfl, by kernel_rfl, by kernel_rfl⟩, fun args H res H' h => ?_⟩
 simp only [Qnfe] at h
 split at h
 ·simp only [Option.some.injEq, Prod.mk.injEq] at h
  obtain ⟨hg, rfl, rfl⟩ := h
  exact Qyzu _ _ _ _ hg
 ·cases h
end Lx
/- Meanings: bases spoilt. -/
namespace Lx
open Go Go.Proofs
def Qp6t (p : Int) (x : BaseP) : Prop := x.ks.length ≤ 20 ∧ x.ps.length ≤ 100 ∧ p ≤ x.p ∧ x.p ≤ p + 60 ∧ Qeqt x.ps = true
noncomputable def dSp (bs : List Int) (p : Int) (ks : List Kind) (ps : List Point) : BaseP := drawn (fun x => Qewq Tryz.prog CP Q963 [.ptr 0 0, .agg [.sl .kind ks, .sl .point ps]] [.box [.sl .u8 bs, .int .i64 p]] (.agg [.sl .kind x.ks, .sl .point x.ps]) [.box [.sl .u8 bs, .int .i64 x.p]] ∧ Qp6t p x)
def spK (bs : List Int) (p : Int) (ks : List Kind) (ps : List Point) : Bool := Qf9o bs && (decide (0 ≤ p) && (decide (p ≤ 880000) && (decide (1 ≤ ks.length) && (decide (ks.length ≤ 10) && (decide (1 ≤ ps.length) && (decide (ps.length ≤ 40) && Qeqt ps))))))
noncomputable def Qx4k : Ent Ty El := ⟨[.io, .ro], 0, fun a h => match a, h with
 | [.ptr 0 0, .agg [.sl .kind ks, .sl .point ps]], [.box [.sl .u8 bs, .int .i64 p]] => some (spK bs p ks ps, .agg [.sl .kind (dSp bs p ks ps).ks, .sl .point (dSp bs p ks ps).ps], [.box [.sl .u8 bs, .int .i64 (dSp bs p ks ps).p]])
 | _, _ => none⟩
theorem inb3 {n a b c : Int} (h : 0 ≤ n ∧ n < 3) : inb n [a, b, c].length = true := by
 simp only [inb, List.length_cons, List.length_nil, Bool.and_eq_true, decide_eq_true_eq]; omega
theorem inbL {α : Type} {n : Int} {l : List α} (h : 0 ≤ n ∧ n < (l.length : Int)) : inb n l.length = true := by
 simp only [inb, Bool.and_eq_true, decide_eq_true_eq]; exact h
end Lx
/- Bases spoilt. -/
namespace Lx
open Go Go.Proofs
noncomputable def Qam6 : RE Ty El := ⟨Tryz.prog, CP, [(Qpxs, Q7v2), (Qchm, Q2vb), (Q373, Qf5p), (Q1eg, Qvc4), (Qstj, Qmce)], Tryz.f119, 1, [.agg [.ro .kind, .ro .point]], [(23, [(0, .any), (4, .any), (5, .any), (8, .any)]), (6, [(0, .any), (4, .any), (5, .any), (9, .any)])]⟩
theorem Qj2r : REOK Qam6 Q963 := ⟨CP_ok, (TabOK.cons Q0e7 (TabOK.cons Qyvd (TabOK.cons Qoq9 (TabOK.cons Q8hv (TabOK.cons Qqii Qye1))))), by kernel_rfl, by kernel_rfl⟩
theorem Qbvz (bs : List Int) (p : Int) (ks : List Kind) (ps : List Point) : aRun Qam6 600 false (body0 Qam6.fn) (Q4gm Qam6.fn [.ptr 0 0, .agg [.sl .kind ks, .sl .point ps]] [.box [.sl .u8 bs, .int .i64 p]]) =
 ifb (Qzta ks ps) (ifb (posOk p) (ifb (posOk (p + (1 : Int))) (ifb (posOk (p + (1 : Int) + (1 : Int))) (ifb (pickV bs (p + (1 : Int) + (1 : Int)) (8 : Int) == (0 : Int)) (ifb (posOk (p + (1 : Int) + (1 : Int) + (1 : Int))) (ifb (decide (#[(107 : UInt8)].toList.length ≤ (1 : Nat)) && decide (IntKind.i64.wrap ((8 : Int) + pickV bs (p + (1 : Int) + (1 : Int) + (1 : Int)) (2 : Int)) < (64 : Int))) (ifb (rdOk bs (p + (1 : Int) + (1 : Int) + (1 : Int) + (1 : Int)) && decide ((0 : Nat) < [#[].toList, #[(65 : UInt8)].toList, #[(122 : UInt8), (122 : UInt8)].toList, #[(97 : UInt8), (49 : UInt8)].toList, dMany #[(107 : UInt8)].toList (IntKind.i64.wrap ((8 : Int) + pickV bs (p + (1 : Int) + (1 : Int) + (1 : Int)) (2 : Int)))].length)) (ifb (inb (pickV bs p (↑ks.length : Int)) ks.length) (some (.ret (.agg [.sl .kind (ks.set (pickV bs p (↑ks.length : Int)).toNat (Kind.mk (ofV bs (p + (1 : Int) + (1 : Int) + (1 : Int) + (1 : Int)) [#[].toList, #[(65 : UInt8)].toList, #[(122 : UInt8), (122 : UInt8)].toList, #[(97 : UInt8), (49 : UInt8)].toList, dMany #[(107 : UInt8)].toList (IntKind.i64.wrap ((8 : Int) + pickV bs (p + (1 : Int) + (1 : Int) + (1 : Int)) (2 : Int)))]) (ks.getD (pickV bs p (↑ks.length : Int)).toNat (Qam6.C.dflt Ty.kind)).quick (ks.getD (pickV bs p (↑ks.length : Int)).toNat (Qam6.C.dflt Ty.kind)).slow)), .sl .point ps]) [.box [.sl .u8 bs, .int .i64 (p + (1 : Int) + (1 : Int) + (1 : Int) + (1 : Int) + (1 : Int))]])) (none)) (none)) (none)) (none)) (ifb (pickV bs (p + (1 : Int) + (1 : Int)) (8 : Int) == (1 : Int)) (ifb (posOk (p + (1 : Int) + (1 : Int) + (1 : Int))) (ifb (inb (pickV bs p (↑ks.length : Int)) ks.length) (some (.ret (.agg [.sl .kind (ks.set (pickV bs p (↑ks.length : Int)).toNat (Kind.mk (ks.getD (pickV bs p (↑ks.length : Int)).toNat (Qam6.C.dflt Ty.kind)).name (IntKind.i64.wrap (pickV bs (p + (1 : Int) + (1 : Int) + (1 : Int)) (9 : Int) - (1 : Int))) (ks.getD (pickV bs p (↑ks.length : Int)).toNat (Qam6.C.dflt Ty.kind)).slow)), .sl .point ps]) [.box [.sl .u8 bs, .int .i64 (p + (1 : Int) + (1 : Int) + (1 : Int) + (1 : Int))]])) (none)) (none)) (ifb (pickV bs (p + (1 : Int) + (1 : Int)) (8 : Int) == (2 : Int)) (ifb (posOk (p + (1 : Int) + (1 : Int) + (1 : Int))) (ifb (inb (pickV bs (p + (1 : Int) + (1 : Int) + (1 : Int)) (3 : Int)) [(0 : Int), (50 : Int), (51 : Int)].length) (ifb (inb (pickV bs p (↑ks.length : Int)) ks.length) (some (.ret (.agg [.sl .kind (ks.set (pickV bs p (↑ks.length : Int)).toNat (Kind.mk (ks.getD (pickV bs p (↑ks.length : Int)).toNat (Qam6.C.dflt Ty.kind)).name (ks.getD (pickV bs p (↑ks.length : Int)).toNat (Qam6.C.dflt Ty.kind)).quick ([(0 : Int), (50 : Int), (51 : Int)].getD (pickV bs (p + (1 : Int) + (1 : Int) + (1 : Int)) (3 : Int)).toNat (Qam6.C.dflt Ty.int)))), .sl .point ps]) [.box [.sl .u8 bs, .int .i64 (p + (1 : Int) + (1 : Int) + (1 : Int) + (1 : Int))]])) (none)) (none)) (none)) (ifb (pickV bs (p + (1 : Int) + (1 : Int)) (8 : Int) == (3 : Int)) (ifb (rdOk bs (p + (1 : Int) + (1 : Int) + (1 : Int)) && decide ((0 : Nat) < [#[].toList, #[(80 : UInt8)].toList, #[(122 : UInt8), (122 : UInt8)].toList, #[(97 : UInt8), (108 : UInt8), (102 : UInt8), (97 : UInt8)].toList].length)) (ifb (inb (pickV bs (p + (1 : Int)) (↑ps.length : Int)) ps.length) (some (.ret (.agg [.sl .kind ks, .sl .point (ps.set (pickV bs (p + (1 : Int)) (↑ps.length : Int)).toNat (Point.mk (ofV bs (p + (1 : Int) + (1 : Int) + (1 : Int)) [#[].toList, #[(80 : UInt8)].toList, #[(122 : UInt8), (122 : UInt8)].toList, #[(97 : UInt8), (108 : UInt8), (102 : UInt8), (97 : UInt8)].toList]) (ps.getD (pickV bs (p + (1 : Int)) (↑ps.length : Int)).toNat (Qam6.C.dflt Ty.point)).x (ps.getD (pickV bs (p + (1 : Int)) (↑ps.length : Int)).toNat (Qam6.C.dflt Ty.point)).y))]) [.box [.sl .u8 bs, .int .i64 (p + (1 : Int) + (1 : Int) + (1 : Int) + (1 : Int))]])) (none)) (none)) (ifb (pickV bs (p + (1 : Int) + (1 : Int)) (8 : Int) == (4 : Int)) (ifb (posOk (p + (1 : Int) + (1 : Int) + (1 : Int))) (ifb (inb (pickV bs (p + (1 : Int) + (1 : Int) + (1 : Int)) (3 : Int)) [(-1 : Int), (16 : Int), (0 : Int)].length) (ifb (inb (pickV bs (p + (1 : Int)) (↑ps.length : Int)) ps.length) (some (.ret (.agg [.sl .kind ks, .sl .point (ps.set (pickV bs (p + (1 : Int)) (↑ps.length : Int)).toNat (Point.mk (ps.getD (pickV bs (p + (1 : Int)) (↑ps.length : Int)).toNat (Qam6.C.dflt Ty.point)).name ([(-1 : Int), (16 : Int), (0 : Int)].getD (pickV bs (p + (1 : Int) + (1 : Int) + (1 : Int)) (3 : Int)).toNat (Qam6.C.dflt Ty.int)) (ps.getD (pickV bs (p + (1 : Int)) (↑ps.length : Int)).toNat (Qam6.C.dflt Ty.point)).y))]) [.box [.sl .u8 bs, .int .i64 (p + (1 : Int) + (1 : Int) + (1 : Int) + (1 : Int))]])) (none)) (none)) (none)) (ifb (pickV bs (p + (1 : Int) + (1 : Int)) (8 : Int) == (5 : Int)) (ifb (inb (pickV bs (p + (1 : Int)) (↑ps.length : Int)) ps.length) (ifb (inb (pickV bs (p + (1 : Int)) (↑ps.length : Int)) ps.length) (ifb (decide ((ps.length + [Point.mk #[(122 : UInt8), (122 : UInt8)].toList (ps.getD (pickV bs (p + (1 : Int)) (↑ps.length : Int)).toNat (Qam6.C.dflt Ty.point)).x (ps.getD (pickV bs (p + (1 : Int)) (↑ps.length : Int)).toNat (Qam6.C.dflt Ty.point)).y].length) * Qbhn Qam6.P (160 : Nat) ≤ (140737488355328 : Nat))) (some (.ret (.agg [.sl .kind ks, .sl .point (ps ++ [Point.mk #[(122 : UInt8), (122 : UInt8)].toList (ps.getD (pickV bs (p + (1 : Int)) (↑ps.length : Int)).toNat (Qam6.C.dflt Ty.point)).x (ps.getD (pickV bs (p + (1 : Int)) (↑ps.length : Int)).toNat (Qam6.C.dflt Ty.point)).y])]) [.box [.sl .u8 bs, .int .i64 (p + (1 : Int) + (1 : Int) + (1 : Int))]])) (none)) (none)) (none)) (ifb (pickV bs (p + (1 : Int) + (1 : Int)) (8 : Int) == (6 : Int)) (some (.go (Qu6t Qam6.fn 23) [.ptr 0 0, .ptr 1 0, .ptr 2 0, .int .i64 (0 : Int)] [.box [.sl .u8 bs, .int .i64 (p + (1 : Int) + (1 : Int) + (1 : Int))], .box [.nils, .nils], .box [.own 3 [] 0, .own 4 [] 0], .row .kind ks 0 0 0 .no, .row .point ps 0 0 0 .no])) (some (.go (Qu6t Qam6.fn 6) [.ptr 0 0, .ptr 1 0, .ptr 2 0, .int .i64 (0 : Int)] [.box [.sl .u8 bs, .int .i64 (p + (1 : Int) + (1 : Int) + (1 : Int))], .box [.nils, .nils], .box [.own 3 [] 0, .own 4 [] 0], .row .kind ks 0 0 0 .no, .row .point ps 0 0 0 .no]))))))))) (none)) (none)) (none)) (none) := by kernel_rfl
theorem Qkno (x0 : Int) (x1 : List (El .u8)) (x2 : Int) (x3 : List (El .kind)) (x4 : List (El .point)) : aRun Qam6 600 true (Qu6t Qam6.fn 23) (cutSt Qam6.fn (Q1m4 Qam6 (Qu6t Qam6.fn 23)) [.ptr 0 0, .ptr 1 0, .ptr 2 0, .int .i64 x0] [.box [.sl .u8 x1, .int .i64 x2], .box [.nils, .nils], .box [.own 3 [] 0, .own 4 [] 0], .row .kind x3 0 0 0 .no, .row .point x4 0 0 0 .no]) =
 ifb (posOk x2) (ifb (decide ((↑x3.length : Int) < IntKind.i64.wrap ((6 : Int) + pickV x1 x2 (2 : Int)))) (ifb (decide (x0 < (9 : Int))) (ifb (decide ((0 : Int) ≤ x0) && decide (x0 < (10 : Int) ^ ((4 : Nat) + (1 : Nat)))) (ifb (decide (#[(116 : UInt8)].toList.length + List.length (dDec (4 : Nat) x0) ≤ (9223372036854775807 : Nat))) (ifb (decide ((x3.length + [Kind.mk (#[(116 : UInt8)].toList ++ dDec (4 : Nat) x0) (1 : Int) (1 : Int)].length) * Qbhn Qam6.P (40 : Nat) ≤ (140737488355328 : Nat))) (some (.go (Qu6t Qam6.fn 23) [.ptr 0 0, .ptr 1 0, .ptr 2 0, .int .i64 (IntKind.i64.wrap (x0 + (1 : Int)))] [.box [.sl .u8 x1, .int .i64 (x2 + (1 : Int))], .box [.nils, .nils], .box [.own 3 [] 0, .own 4 [] 0], .row .kind (x3 ++ [Kind.mk (#[(116 : UInt8)].toList ++ dDec (4 : Nat) x0) (1 : Int) (1 : Int)]) 0 0 0 .no, .row .point x4 0 0 0 .no])) (none)) (none)) (none)) (some (.ret (.agg [.sl .kind x3, .sl .point x4]) [.box [.sl .u8 x1, .int .i64 (x2 + (1 : Int))]]))) (some (.ret (.agg [.sl .kind x3, .sl .point x4]) [.box [.sl .u8 x1, .int .i64 (x2 + (1 : Int))]]))) (none) := by kernel_rfl
theorem Qkh0 (x0 : Int) (x1 : List (El .u8)) (x2 : Int) (x3 : List (El .kind)) (x4 : List (El .point)) : aRun Qam6 600 true (Qu6t Qam6.fn 6) (cutSt Qam6.fn (Q1m4 Qam6 (Qu6t Qam6.fn 6)) [.ptr 0 0, .ptr 1 0, .ptr 2 0, .int .i64 x0] [.box [.sl .u8 x1, .int .i64 x2], .box [.nils, .nils], .box [.own 3 [] 0, .own 4 [] 0], .row .kind x3 0 0 0 .no, .row .point x4 0 0 0 .no]) =
 ifb (posOk x2) (ifb (decide ((↑x4.length : Int) < IntKind.i64.wrap ((16 : Int) + pickV x1 x2 (2 : Int)))) (ifb (decide (x0 < (40 : Int))) (ifb (decide ((0 : Int) ≤ IntKind.i64.wrap ((10 : Int) + x0)) && decide (IntKind.i64.wrap ((10 : Int) + x0) < (10 : Int) ^ ((4 : Nat) + (1 : Nat)))) (ifb (decide (#[(121 : UInt8)].toList.length + List.length (dDec (4 : Nat) (IntKind.i64.wrap ((10 : Int) + x0))) ≤ (9223372036854775807 : Nat))) (ifb (decide ((x4.length + [Point.mk (#[(121 : UInt8)].toList ++ dDec (4 : Nat) (IntKind.i64.wrap ((10 : Int) + x0))) (x0.tmod (16 : Int)) (IntKind.i64.wrap ((15 : Int) - IntKind.i64.wrap (x0.tdiv (16 : Int))))].length) * Qbhn Qam6.P (160 : Nat) ≤ (140737488355328 : Nat))) (some (.go (Qu6t Qam6.fn 6) [.ptr 0 0, .ptr 1 0, .ptr 2 0, .int .i64 (IntKind.i64.wrap (x0 + (1 : Int)))] [.box [.sl .u8 x1, .int .i64 (x2 + (1 : Int))], .box [.nils, .nils], .box [.own 3 [] 0, .own 4 [] 0], .row .kind x3 0 0 0 .no, .row .point (x4 ++ [Point.mk (#[(121 : UInt8)].toList ++ dDec (4 : Nat) (IntKind.i64.wrap ((10 : Int) + x0))) (x0.tmod (16 : Int)) (IntKind.i64.wrap ((15 : Int) - IntKind.i64.wrap (x0.tdiv (16 : Int))))]) 0 0 0 .no])) (none)) (none)) (none)) (some (.ret (.agg [.sl .kind x3, .sl .point x4]) [.box [.sl .u8 x1, .int .i64 (x2 + (1 : Int))]]))) (some (.ret (.agg [.sl .kind x3, .sl .point x4]) [.box [.sl .u8 x1, .int .i64 (x2 + (1 : Int))]]))) (none) := by kernel_rfl
theorem Qnce (bs : List Int) (ps : List Point) : ∀ (d i : Nat) (ks : List Kind) (q : Int), i + d = 9 → 0 ≤ q → q + d ≤ 900000 → ks.length + d ≤ 19 → ps.length ≤ 100 → Qeqt ps = true →
  CutE Qam6 Q963 23 [.ptr 0 0, .ptr 1 0, .ptr 2 0, .int .i64 (i : Int)] [.box [.sl .u8 bs, .int .i64 q], .box [.nils, .nils], .box [.own 3 [] 0, .own 4 [] 0], .row .kind ks 0 0 0 .no, .row .point ps 0 0 0 .no] (fun v h => ∃ x : BaseP, v = (.agg [.sl .kind x.ks, .sl .point x.ps]) ∧ h = [.box [.sl .u8 bs, .int .i64 x.p]] ∧ x.ks.length ≤ 20 ∧ x.ps.length ≤ 100 ∧ q ≤ x.p ∧ x.p ≤ q + (d + 1) ∧ Qeqt x.ps = true) := by
 have hbb : Qbhn Qam6.P 40 ≤ 256 := of_decide_eq_true (by kernel_rfl)
 intro d
 induction d with
 | zero =>
  intro i ks q hi h0 hq hl ho hn
  refine CutE.of Qj2r rfl (Qkno i bs q ks ps) ?_
  refine SatE.need (Q8s4 (by omega) (by omega)) (SatE.ifb (fun _ => ?_) (fun _ => ?_))
  ·rw [show decide ((i : Int) < 9) = false from decide_eq_false (by omega), Qk7y]
   exact SatE.ret ⟨⟨ks, ps, q + 1⟩, rfl, rfl, by show ks.length ≤ 20; omega, by show ps.length ≤ 100; omega, by show q ≤ q + 1; omega, by show q + 1 ≤ _; omega, hn⟩
  ·exact SatE.ret ⟨⟨ks, ps, q + 1⟩, rfl, rfl, by show ks.length ≤ 20; omega, by show ps.length ≤ 100; omega, by show q ≤ q + 1; omega, by show q + 1 ≤ _; omega, hn⟩
 | succ d ih =>
  intro i ks q hi h0 hq hl ho hn
  refine CutE.of Qj2r rfl (Qkno i bs q ks ps) ?_
  have hw : IntKind.i64.wrap ((i : Int) + 1) = ((i + 1 : Nat) : Int) := by rw [Qbrg] <;> omega
  obtain ⟨g1, l1⟩ := decs (n := (i : Int)) (by omega) (by omega)
  refine SatE.need (Q8s4 (by omega) (by omega)) (SatE.ifb (fun _ => ?_) (fun _ => ?_))
  ·rw [show decide ((i : Int) < 9) = true from decide_eq_true (by omega), hw, Qd8q]
   refine SatE.need g1 (SatE.need (decide_eq_true (by simp; omega)) (SatE.need (Q1mk hbb (by simp; omega)) (SatE.mono (SatE.cut (ih (i + 1) _ (q + 1) (by omega) (by omega) (by omega) (by simp; omega) (by omega) hn)) ?_)))
   rintro v h ⟨x, e1, e2, a1, a2, a3, a4, a5⟩
   exact ⟨x, e1, e2, a1, a2, by omega, by omega, a5⟩
  ·exact SatE.ret ⟨⟨ks, ps, q + 1⟩, rfl, rfl, by show ks.length ≤ 20; omega, by show ps.length ≤ 100; omega, by show q ≤ q + 1; omega, by show q + 1 ≤ _; omega, hn⟩
theorem Qpkz (bs : List Int) (ks : List Kind) : ∀ (d i : Nat) (ps : List Point) (q : Int), i + d = 40 → 0 ≤ q → q + d ≤ 900000 → ps.length + d ≤ 80 → ks.length ≤ 20 → Qeqt ps = true →
  CutE Qam6 Q963 6 [.ptr 0 0, .ptr 1 0, .ptr 2 0, .int .i64 (i : Int)] [.box [.sl .u8 bs, .int .i64 q], .box [.nils, .nils], .box [.own 3 [] 0, .own 4 [] 0], .row .kind ks 0 0 0 .no, .row .point ps 0 0 0 .no] (fun v h => ∃ x : BaseP, v = (.agg [.sl .kind x.ks, .sl .point x.ps]) ∧ h = [.box [.sl .u8 bs, .int .i64 x.p]] ∧ x.ks.length ≤ 20 ∧ x.ps.length ≤ 100 ∧ q ≤ x.p ∧ x.p ≤ q + (d + 1) ∧ Qeqt x.ps = true) := by
 have hbb : Qbhn Qam6.P 160 ≤ 256 := of_decide_eq_true (by kernel_rfl)
 intro d
 induction d with
 | zero =>
  intro i ps q hi h0 hq hl ho hn
  refine CutE.of Qj2r rfl (Qkh0 i bs q ks ps) ?_
  refine SatE.need (Q8s4 (by omega) (by omega)) (SatE.ifb (fun _ => ?_) (fun _ => ?_))
  ·rw [show decide ((i : Int) < 40) = false from decide_eq_false (by omega), Qk7y]
   exact SatE.ret ⟨⟨ks, ps, q + 1⟩, rfl, rfl, by show ks.length ≤ 20; omega, by show ps.length ≤ 100; omega, by show q ≤ q + 1; omega, by show q + 1 ≤ _; omega, hn⟩
  ·exact SatE.ret ⟨⟨ks, ps, q + 1⟩, rfl, rfl, by show ks.length ≤ 20; omega, by show ps.length ≤ 100; omega, by show q ≤ q + 1; omega, by show q + 1 ≤ _; omega, hn⟩
 | succ d ih =>
  intro i ps q hi h0 hq hl ho hn
  refine CutE.of Qj2r rfl (Qkh0 i bs q ks ps) ?_
  have hw : IntKind.i64.wrap ((i : Int) + 1) = ((i + 1 : Nat) : Int) := by rw [Qbrg] <;> omega
  have hw2 : IntKind.i64.wrap (10 + (i : Int)) = 10 + (i : Int) := Qbrg (by omega) (by omega)
  obtain ⟨g1, l1⟩ := decs (n := 10 + (i : Int)) (by omega) (by omega)
  refine SatE.need (Q8s4 (by omega) (by omega)) (SatE.ifb (fun _ => ?_) (fun _ => ?_))
  ·rw [show decide ((i : Int) < 40) = true from decide_eq_true (by omega), hw, Qd8q, hw2]
   refine SatE.need g1 (SatE.need (decide_eq_true (by simp; omega)) (SatE.need (Q1mk hbb (by simp; omega)) (SatE.mono (SatE.cut (ih (i + 1) _ (q + 1) (by omega) (by omega) (by omega) (by simp; omega) (by omega) (by exact Qv4q hn (by simp; omega)))) ?_)))
   rintro v h ⟨x, e1, e2, a1, a2, a3, a4, a5⟩
   exact ⟨x, e1, e2, a1, a2, by omega, by omega, a5⟩
  ·exact SatE.ret ⟨⟨ks, ps, q + 1⟩, rfl, rfl, by show ks.length ≤ 20; omega, by show ps.length ≤ 100; omega, by show q ≤ q + 1; omega, by show q + 1 ≤ _; omega, hn⟩
theorem Qdn9 {bs : List Int} {p q : Int} {ks : List Kind} {ps : List Point} (h1 : ks.length ≤ 20) (h2 : ps.length ≤ 100) (h3 : p ≤ q) (h4 : q ≤ p + 60) (h5 : Qeqt ps = true) : ∃ x : BaseP, (AV.agg [.sl .kind ks, .sl .point ps] : AV Ty El) = (.agg [.sl .kind x.ks, .sl .point x.ps]) ∧ ([.box [.sl .u8 bs, .int .i64 q]] : List (AObj Ty El)) = [.box [.sl .u8 bs, .int .i64 x.p]] ∧ Qp6t p x := ⟨⟨ks, ps, q⟩, rfl, rfl, h1, h2, h3, h4, h5⟩
theorem Qtjp (bs : List Int) (p : Int) (ks : List Kind) (ps : List Point) (hg : spK bs p ks ps = true) : Qewq Tryz.prog CP Q963 [.ptr 0 0, .agg [.sl .kind ks, .sl .point ps]] [.box [.sl .u8 bs, .int .i64 p]] (.agg [.sl .kind (dSp bs p ks ps).ks, .sl .point (dSp bs p ks ps).ps]) [.box [.sl .u8 bs, .int .i64 (dSp bs p ks ps).p]] ∧ Qp6t p (dSp bs p ks ps) := by
 simp only [spK, Bool.and_eq_true, decide_eq_true_eq] at hg
 obtain ⟨hbs, h0, h9, k1, k2, s1, s2, hn⟩ := hg
 have hbb : Qbhn Qam6.P 160 ≤ 256 := of_decide_eq_true (by kernel_rfl)
 have ht : Qzta ks ps = true := by
  have e1 : Q6lz ks = true := by simp only [Q6lz, Bool.and_true, decide_eq_true_eq]; omega
  have e2 : Qjyp ps = true := by simp only [Qjyp, Bool.and_true, decide_eq_true_eq]; omega
  rw [Qzta, e1, e2]; rfl
 have ps0 : ∀ (q : Int), p ≤ q → q ≤ p + 10 → posOk q = true := fun q h2 h3 => Q8s4 (by omega) (by omega)
 have pk : ∀ (q n : Int), p ≤ q → q ≤ p + 10 → 1 ≤ n → 0 ≤ pickV bs q n ∧ pickV bs q n < n := fun q n h2 h3 h4 => Q5va hbs (ps0 q h2 h3) h4
 have rd : ∀ (q : Int) (l : List Str), p ≤ q → q ≤ p + 10 → 0 < l.length → (rdOk bs q && decide (0 < l.length)) = true := fun q l h2 h3 hl => by rw [rdOk, hbs, ps0 q h2 h3, decide_eq_true hl]; rfl
 have ik : inb (pickV bs p (ks.length : Int)) ks.length = true := inbL (pk p _ (by omega) (by omega) (by omega))
 have ip : inb (pickV bs (p + 1) (ps.length : Int)) ps.length = true := inbL (pk (p + 1) _ (by omega) (by omega) (by omega))
 have hE : CallE Qam6.P Qam6.C Q963 [.ptr 0 0, .agg [.sl .kind ks, .sl .point ps]] [.box [.sl .u8 bs, .int .i64 p]] (fun v h => ∃ x : BaseP, v = (.agg [.sl .kind x.ks, .sl .point x.ps]) ∧ h = [.box [.sl .u8 bs, .int .i64 x.p]] ∧ Qp6t p x) := by
  refine CallE.of Qj2r (by kernel_rfl) (Qbvz bs p ks ps) ?_
  refine SatE.need ht (SatE.need (ps0 _ (by omega) (by omega)) (SatE.need (ps0 _ (by omega) (by omega)) (SatE.need (ps0 _ (by omega) (by omega)) (SatE.ifb (fun _ => ?_) (fun _ => SatE.ifb (fun _ => ?_) (fun _ => SatE.ifb (fun _ => ?_) (fun _ => SatE.ifb (fun _ => ?_) (fun _ => SatE.ifb (fun _ => ?_) (fun _ => SatE.ifb (fun _ => ?_) (fun _ => SatE.ifb (fun _ => ?_) (fun _ => ?_)))))))))))
  ·obtain ⟨a1, a2⟩ := pk (p + 1 + 1 + 1) 2 (by omega) (by omega) (by omega)
   have hw : IntKind.i64.wrap (8 + pickV bs (p + 1 + 1 + 1) 2) = 8 + pickV bs (p + 1 + 1 + 1) 2 := Qbrg (by omega) (by omega)
   rw [hw]
   exact SatE.need (ps0 _ (by omega) (by omega)) (SatE.need (by rw [Bool.and_eq_true]; exact ⟨decide_eq_true (by simp), decide_eq_true (by omega)⟩) (SatE.need (rd _ _ (by omega) (by omega) (Nat.zero_lt_succ _)) (SatE.need ik (SatE.ret (Qdn9 (by rw [List.length_set]; omega) (by omega) (by omega) (by omega) hn)))))
  ·exact SatE.need (ps0 _ (by omega) (by omega)) (SatE.need ik (SatE.ret (Qdn9 (by rw [List.length_set]; omega) (by omega) (by omega) (by omega) hn)))
  ·exact SatE.need (ps0 _ (by omega) (by omega)) (SatE.need (inb3 (pk (p + 1 + 1 + 1) 3 (by omega) (by omega) (by omega))) (SatE.need ik (SatE.ret (Qdn9 (by rw [List.length_set]; omega) (by omega) (by omega) (by omega) hn))))
  ·exact SatE.need (rd _ _ (by omega) (by omega) (Nat.zero_lt_succ _)) (SatE.need ip (SatE.ret (Qdn9 (by omega) (by rw [List.length_set]; omega) (by omega) (by omega) (Qosi hn _ (Nat.le_trans (Qgo3 (M := 4) (by rfl)) (by omega))))))
  ·exact SatE.need (ps0 _ (by omega) (by omega)) (SatE.need (inb3 (pk (p + 1 + 1 + 1) 3 (by omega) (by omega) (by omega))) (SatE.need ip (SatE.ret (Qdn9 (by omega) (by rw [List.length_set]; omega) (by omega) (by omega) (Qosi hn _ (by exact Qwum hn _ _ (by first | simp | decide)))))))
  ·exact SatE.need ip (SatE.need ip (SatE.need (Q1mk hbb (by simp; omega)) (SatE.ret (Qdn9 (by omega) (by simp; omega) (by omega) (by omega) (by exact Qv4q hn (by simp))))))
  ·refine SatE.mono (SatE.cut (Qnce bs ps 9 0 ks (p + 1 + 1 + 1) (by omega) (by omega) (by omega) (by omega) (by omega) hn)) ?_
   rintro v h ⟨x, e1, e2, a1, a2, a3, a4, a5⟩
   exact ⟨x, e1, e2, a1, a2, by omega, by omega, a5⟩
  ·refine SatE.mono (SatE.cut (Qpkz bs ks 40 0 ps (p + 1 + 1 + 1) (by omega) (by omega) (by omega) (by omega) (by omega) hn)) ?_
   rintro v h ⟨x, e1, e2, a1, a2, a3, a4, a5⟩
   exact ⟨x, e1, e2, a1, a2, by omega, by omega, a5⟩
 obtain ⟨v, H', h, x, rfl, rfl, hx⟩ := hE
 exact Qk78 (p := fun x : BaseP => Qewq Tryz.prog CP Q963 [.ptr 0 0, .agg [.sl .kind ks, .sl .point ps]] [.box [.sl .u8 bs, .int .i64 p]] (.agg [.sl .kind x.ks, .sl .point x.ps]) [.box [.sl .u8 bs, .int .i64 x.p]] ∧ Qp6t p x) ⟨x, h, hx⟩
theorem Q3hx (bs : List Int) (p : Int) (ks : List Kind) (ps : List Point) (hg : spK bs p ks ps = true) : Qewq Tryz.prog CP Q963 [.ptr 0 0, .agg [.sl .kind ks, .sl .point ps]] [.box [.sl .u8 bs, .int .i64 p]] (.agg [.sl .kind (dSp bs p ks ps).ks, .sl .point (dSp bs p ks ps).ps]) [.box [.sl .u8 bs, .int .i64 (dSp bs p ks ps).p]] := by
 exact (Qtjp bs p ks ps hg).1
theorem Q1zq : EntOK Tryz.prog CP Q963 Qx4k := by
 refine ⟨⟨Tryz.f119, by kernel_rfl, by kernel_rfl, by kernel_rfl⟩, fun args H res H' h => ?_⟩
 simp only [Qx4k] at h
 split at h
 ·simp only [Option.some.injEq, Prod.mk.injEq] at h
  obtain ⟨hg, rfl, rfl⟩ := h
  exact Q3hx _ _ _ _ hg
 ·cases h
end Lx
/- Meanings: books spoilt. -/
namespace Lx
open Go Go.Proofs
structure BookP where
 ks : List Kind
 ps : List Point
 es : List Entry
 p : Int
 deriving Inhabited
def goodS (ks : List Kind) (ps : List Point) (es : List Entry) : Bool := goodB ks ps es && (decide (ks.length ≤ 1000) && (decide (ps.length ≤ 100) && (decide (es.length ≤ 1000) && Qeqt ps)))
def Qe4i (p : Int) (x : BookP) : Prop := goodS x.ks x.ps x.es = true ∧ p ≤ x.p ∧ x.p ≤ p + 100
noncomputable def Qkav (bs : List Int) (p : Int) (ks : List Kind) (ps : List Point) (es : List Entry) : BookP := drawn (fun x => Qewq Tryz.prog CP Qvef [.ptr 0 0, .agg [.sl .kind ks, .sl .point ps, .sl .entry es]] [.box [.sl .u8 bs, .int .i64 p]] (.agg [.sl .kind x.ks, .sl .point x.ps, .sl .entry x.es]) [.box [.sl .u8 bs, .int .i64 x.p]] ∧ Qe4i p x)
def slK (bs : List Int) (p : Int) (ks : List Kind) (ps : List Point) (es : List Entry) : Bool := Qf9o bs && (decide (0 ≤ p) && (decide (p ≤ 870000) && (decide (1 ≤ ks.length) && (decide (1 ≤ ps.length) && goodE ks ps es))))
noncomputable def Qsb4 : Ent Ty El := ⟨[.io, .ro], 0, fun a h => match a, h with
 | [.ptr 0 0, .agg [.sl .kind ks, .sl .point ps, .sl .entry es]], [.box [.sl .u8 bs, .int .i64 p]] => some (slK bs p ks ps es, .agg [.sl .kind (Qkav bs p ks ps es).ks, .sl .point (Qkav bs p ks ps es).ps, .sl .entry (Qkav bs p ks ps es).es], [.box [.sl .u8 bs, .int .i64 (Qkav bs p ks ps es).p]])
 | _, _ => none⟩
def small (x : Entry) : Prop := x.fields.length ≤ 20 ∧ ∀ f ∈ x.fields, szV f.value = true
theorem Qq1u {ks : List Kind} {ps : List Point} {es : List Entry} (h1 : ks.length ≤ 1000) (h2 : ps.length ≤ 1000) (h3 : es.length ≤ 1000) (h4 : ∀ x ∈ es, small x) : goodB ks ps es = true := by
 simp only [goodB, szB, Q8cx, Q6lz, Qjyp, Qnwa, Bool.and_eq_true, decide_eq_true_eq, and_true]
 refine ⟨⟨by omega, List.all_eq_true.2 fun x hx => ?_⟩, by omega, by omega, by omega, List.all_eq_true.2 fun x hx => ?_⟩
 ·simp only [szE, Bool.and_eq_true, decide_eq_true_eq]
  exact ⟨by have := (h4 x hx).1; omega, List.all_eq_true.2 fun f hf => (h4 x hx).2 f hf⟩
 ·simp only [Qytc, Qckx, Bool.and_eq_true, decide_eq_true_eq, and_true]
  have := (h4 x hx).1; omega
theorem Qieu {ks : List Kind} {ps : List Point} {es : List Entry} (h1 : ks.length ≤ 1000) (h2 : ps.length ≤ 100) (h3 : es.length ≤ 1000) (h4 : ∀ x ∈ es, small x) (h5 : Qeqt ps = true) : goodS ks ps es = true := by
 have hb := Qq1u h1 (Nat.le_trans h2 (by decide)) h3 h4
 simp only [goodS, hb, h1, h2, h3, h5, decide_true, Bool.and_self]
theorem Qj7a {ks : List Kind} {ps : List Point} {es : List Entry} (h : goodE ks ps es = true) : goodS ks ps es = true := by
 have h0 := h
 simp only [goodE, Qn0o, Qib4, Bool.and_eq_true, decide_eq_true_eq] at h0
 obtain ⟨⟨⟨k2, s2, _⟩, e2, _⟩, hb⟩ := h0
 have hbase : Qib4 ks ps = true := by simp only [goodE, Qn0o, Bool.and_eq_true] at h; exact h.1.1
 simp only [goodS, hb, Bool.and_eq_true, decide_eq_true_eq]
 exact ⟨trivial, by omega, by omega, by omega, (Qd1y hbase).2⟩
theorem Qyyr {ks : List Kind} {ps : List Point} {es : List Entry} (h : goodE ks ps es = true) : es.length ≤ 12 ∧ ∀ x ∈ es, small x := by
 simp only [goodE, goodB, szB, Bool.and_eq_true, decide_eq_true_eq] at h
 obtain ⟨hb, ⟨_, hz⟩, _⟩ := h
 obtain ⟨h1, h2⟩ := Qm34 hb
 refine ⟨h1, fun x hx => ⟨by have := h2 x hx; omega, fun f hf => ?_⟩⟩
 have := List.all_eq_true.1 hz x hx
 simp only [szE, Bool.and_eq_true] at this
 exact List.all_eq_true.1 this.2 f hf
theorem Qt1v {es : List Entry} (h : ∀ x ∈ es, small x) (i : Nat) {e : Entry} (he : small e) : ∀ x ∈ es.set i e, small x := fun x hx => by
 rcases List.mem_or_eq_of_mem_set hx with hx | rfl
 ·exact h x hx
 ·exact he
theorem Qsfv {n : Str} {l : List Fld} (h : small ⟨n, l⟩) (i : Nat) {f : Fld} (hf : szV f.value = true) : small ⟨n, l.set i f⟩ := by
 refine ⟨by have := h.1; simp only [List.length_set]; exact this, fun g hg => ?_⟩
 rcases List.mem_or_eq_of_mem_set hg with hg | rfl
 ·exact h.2 g hg
 ·exact hf
theorem Q7q7 {es : List Entry} {i : Nat} (h : i < es.length) : es.getD i (dfltP .entry) ∈ es := by
 rw [List.getD_eq_getElem?_getD, List.getElem?_eq_getElem h]; exact List.getElem_mem _
theorem Qfaa {l : List Fld} {i : Nat} (h : i < l.length) : l.getD i (dfltP .fld) ∈ l := by
 rw [List.getD_eq_getElem?_getD, List.getElem?_eq_getElem h]; exact List.getElem_mem _
theorem Q23x {ks : List Kind} {ps : List Point} {es : List Entry} (h : goodE ks ps es = true) : ∀ x ∈ es, 1 ≤ x.fields.length := fun x hx => by
 simp only [goodE, Qn0o, Bool.and_eq_true] at h
 have := Qmra es _ h.1.2.2 x hx
 simp only [Q7i7, Bool.and_eq_true, Bool.not_eq_true', decide_eq_false_iff_not] at this
 omega
end Lx
/- Books spoilt. -/
namespace Lx
open Go Go.Proofs
noncomputable def Qb57 : RE Ty El := ⟨Tryz.prog, CP, [(Qpxs, Q7v2), (Qchm, Q2vb), (Qfx9, Qc1o), (Q0nv, Qwn9), (Q963, Qx4k), (Qstj, Qmce)], Tryz.f143, 1, [.agg [.ro .kind, .ro .point, .ro .entry]], [(10, [(4, .any), (5, .any), (8, .any), (9, .any)]), (3, [(0, .box [.ro .kind, .ro .point, .any]), (4, .box [.ro .kind, .ro .point, .any]), (5, .box [.ro .kind, .ro .point, .any])]), (14, [(0, .box [.ro .kind, .ro .point, .any]), (4, .box [.ro .kind, .ro .point, .any]), (5, .box [.ro .kind, .ro .point, .any])]), (26, [(4, .any), (5, .any), (6, .any)])]⟩
theorem Qjmm : REOK Qb57 Qvef := ⟨CP_ok, (TabOK.cons Q0e7 (TabOK.cons Qyvd (TabOK.cons Qaka (TabOK.cons Q83y (TabOK.cons Q1zq (TabOK.cons Qqii Qye1)))))), by kernel_rfl, by kernel_rfl⟩
theorem Qocw (bs : List Int) (p : Int) (ks : List Kind) (ps : List Point) (es : List Entry) : aRun Qb57 600 false (body0 Qb57.fn) (Q4gm Qb57.fn [.ptr 0 0, .agg [.sl .kind ks, .sl .point ps, .sl .entry es]] [.box [.sl .u8 bs, .int .i64 p]]) =
 ifb (Q8cx ks ps es) (ifb ((↑es.length : Int) == (0 : Int)) (some (.go (Qu6t Qb57.fn 3) [.ptr 0 0, .ptr 1 0, .ptr 2 0] [.box [.sl .u8 bs, .int .i64 p], .box [.sl .kind [], .sl .point [], .nils], .box [.sl .kind ks, .sl .point ps, .own 3 [] 0], .row .entry es 1 0 0 .no])) (ifb (posOk p) (ifb (inb (pickV bs p (↑es.length : Int)) es.length) (ifb (posOk (p + (1 : Int))) (ifb (posOk (p + (1 : Int) + (1 : Int))) (ifb (pickV bs (p + (1 : Int) + (1 : Int)) (8 : Int) == (0 : Int)) (some (.go (Qu6t Qb57.fn 14) [.ptr 0 0, .ptr 1 0, .ptr 2 0] [.box [.sl .u8 bs, .int .i64 (p + (1 : Int) + (1 : Int) + (1 : Int))], .box [.sl .kind [], .sl .point [], .nils], .box [.sl .kind ks, .sl .point ps, .own 3 [] 0], .row .entry es 1 0 0 .no])) (ifb (pickV bs (p + (1 : Int) + (1 : Int)) (8 : Int) == (1 : Int)) (ifb (rdOk bs (p + (1 : Int) + (1 : Int) + (1 : Int)) && decide ((0 : Nat) < [#[].toList, #[(97 : UInt8)].toList, #[(122 : UInt8), (122 : UInt8)].toList, #[(75 : UInt8)].toList].length)) (ifb (inb (pickV bs p (↑es.length : Int)) es.length) (some (.ret (.agg [.sl .kind ks, .sl .point ps, .sl .entry (es.set (pickV bs p (↑es.length : Int)).toNat (Entry.mk (ofV bs (p + (1 : Int) + (1 : Int) + (1 : Int)) [#[].toList, #[(97 : UInt8)].toList, #[(122 : UInt8), (122 : UInt8)].toList, #[(75 : UInt8)].toList]) (es.getD (pickV bs p (↑es.length : Int)).toNat (Qb57.C.dflt Ty.entry)).fields))]) [.box [.sl .u8 bs, .int .i64 (p + (1 : Int) + (1 : Int) + (1 : Int) + (1 : Int))]])) (none)) (none)) (ifb (pickV bs (p + (1 : Int) + (1 : Int)) (8 : Int) == (2 : Int)) (ifb (inb (pickV bs p (↑es.length : Int)) es.length) (some (.ret (.agg [.sl .kind ks, .sl .point ps, .sl .entry (es.set (pickV bs p (↑es.length : Int)).toNat (Entry.mk (es.getD (pickV bs p (↑es.length : Int)).toNat (Qb57.C.dflt Ty.entry)).name []))]) [.box [.sl .u8 bs, .int .i64 (p + (1 : Int) + (1 : Int) + (1 : Int))]])) (none)) (ifb (pickV bs (p + (1 : Int) + (1 : Int)) (8 : Int) == (3 : Int)) (ifb (inb (pickV bs p (↑es.length : Int)) es.length) (ifb (posOk (p + (1 : Int) + (1 : Int) + (1 : Int))) (ifb (inb (pickV bs (p + (1 : Int)) (↑(es.getD (pickV bs p (↑es.length : Int)).toNat (Qb57.C.dflt Ty.entry)).fields.length : Int)) (es.getD (pickV bs p (↑es.length : Int)).toNat (Qb57.C.dflt Ty.entry)).fields.length) (some (.ret (.agg [.sl .kind ks, .sl .point ps, .sl .entry (es.set (pickV bs p (↑es.length : Int)).toNat (Entry.mk (es.getD (pickV bs p (↑es.length : Int)).toNat (Qb57.C.dflt Ty.entry)).name ((es.getD (pickV bs p (↑es.length : Int)).toNat (Qb57.C.dflt Ty.entry)).fields.set (pickV bs (p + (1 : Int)) (↑(es.getD (pickV bs p (↑es.length : Int)).toNat (Qb57.C.dflt Ty.entry)).fields.length : Int)).toNat (Fld.mk (pickV bs (p + (1 : Int) + (1 : Int) + (1 : Int)) (7 : Int)) ((es.getD (pickV bs p (↑es.length : Int)).toNat (Qb57.C.dflt Ty.entry)).fields.getD (pickV bs (p + (1 : Int)) (↑(es.getD (pickV bs p (↑es.length : Int)).toNat (Qb57.C.dflt Ty.entry)).fields.length : Int)).toNat (Qb57.C.dflt Ty.fld)).number ((es.getD (pickV bs p (↑es.length : Int)).toNat (Qb57.C.dflt Ty.entry)).fields.getD (pickV bs (p + (1 : Int)) (↑(es.getD (pickV bs p (↑es.length : Int)).toNat (Qb57.C.dflt Ty.entry)).fields.length : Int)).toNat (Qb57.C.dflt Ty.fld)).value))))]) [.box [.sl .u8 bs, .int .i64 (p + (1 : Int) + (1 : Int) + (1 : Int) + (1 : Int))]])) (none)) (none)) (none)) (ifb (pickV bs (p + (1 : Int) + (1 : Int)) (8 : Int) == (4 : Int)) (ifb (inb (pickV bs p (↑es.length : Int)) es.length) (ifb (posOk (p + (1 : Int) + (1 : Int) + (1 : Int))) (ifb (inb (pickV bs (p + (1 : Int) + (1 : Int) + (1 : Int)) (3 : Int)) [(0 : Int), (1000001 : Int), (1000000 : Int)].length) (ifb (inb (pickV bs (p + (1 : Int)) (↑(es.getD (pickV bs p (↑es.length : Int)).toNat (Qb57.C.dflt Ty.entry)).fields.length : Int)) (es.getD (pickV bs p (↑es.length : Int)).toNat (Qb57.C.dflt Ty.entry)).fields.length) (some (.ret (.agg [.sl .kind ks, .sl .point ps, .sl .entry (es.set (pickV bs p (↑es.length : Int)).toNat (Entry.mk (es.getD (pickV bs p (↑es.length : Int)).toNat (Qb57.C.dflt Ty.entry)).name ((es.getD (pickV bs p (↑es.length : Int)).toNat (Qb57.C.dflt Ty.entry)).fields.set (pickV bs (p + (1 : Int)) (↑(es.getD (pickV bs p (↑es.length : Int)).toNat (Qb57.C.dflt Ty.entry)).fields.length : Int)).toNat (Fld.mk ((es.getD (pickV bs p (↑es.length : Int)).toNat (Qb57.C.dflt Ty.entry)).fields.getD (pickV bs (p + (1 : Int)) (↑(es.getD (pickV bs p (↑es.length : Int)).toNat (Qb57.C.dflt Ty.entry)).fields.length : Int)).toNat (Qb57.C.dflt Ty.fld)).what ([(0 : Int), (1000001 : Int), (1000000 : Int)].getD (pickV bs (p + (1 : Int) + (1 : Int) + (1 : Int)) (3 : Int)).toNat (Qb57.C.dflt Ty.int)) ((es.getD (pickV bs p (↑es.length : Int)).toNat (Qb57.C.dflt Ty.entry)).fields.getD (pickV bs (p + (1 : Int)) (↑(es.getD (pickV bs p (↑es.length : Int)).toNat (Qb57.C.dflt Ty.entry)).fields.length : Int)).toNat (Qb57.C.dflt Ty.fld)).value))))]) [.box [.sl .u8 bs, .int .i64 (p + (1 : Int) + (1 : Int) + (1 : Int) + (1 : Int))]])) (none)) (none)) (none)) (none)) (ifb (pickV bs (p + (1 : Int) + (1 : Int)) (8 : Int) == (5 : Int)) (ifb (inb (pickV bs p (↑es.length : Int)) es.length) (ifb (rdOk bs (p + (1 : Int) + (1 : Int) + (1 : Int))) (ifb (inb (pickV bs (p + (1 : Int)) (↑(es.getD (pickV bs p (↑es.length : Int)).toNat (Qb57.C.dflt Ty.entry)).fields.length : Int)) (es.getD (pickV bs p (↑es.length : Int)).toNat (Qb57.C.dflt Ty.entry)).fields.length) (some (.ret (.agg [.sl .kind ks, .sl .point ps, .sl .entry (es.set (pickV bs p (↑es.length : Int)).toNat (Entry.mk (es.getD (pickV bs p (↑es.length : Int)).toNat (Qb57.C.dflt Ty.entry)).name ((es.getD (pickV bs p (↑es.length : Int)).toNat (Qb57.C.dflt Ty.entry)).fields.set (pickV bs (p + (1 : Int)) (↑(es.getD (pickV bs p (↑es.length : Int)).toNat (Qb57.C.dflt Ty.entry)).fields.length : Int)).toNat (Fld.mk ((es.getD (pickV bs p (↑es.length : Int)).toNat (Qb57.C.dflt Ty.entry)).fields.getD (pickV bs (p + (1 : Int)) (↑(es.getD (pickV bs p (↑es.length : Int)).toNat (Qb57.C.dflt Ty.entry)).fields.length : Int)).toNat (Qb57.C.dflt Ty.fld)).what ((es.getD (pickV bs p (↑es.length : Int)).toNat (Qb57.C.dflt Ty.entry)).fields.getD (pickV bs (p + (1 : Int)) (↑(es.getD (pickV bs p (↑es.length : Int)).toNat (Qb57.C.dflt Ty.entry)).fields.length : Int)).toNat (Qb57.C.dflt Ty.fld)).number (ofV bs (p + (1 : Int) + (1 : Int) + (1 : Int)) bad12)))))]) [.box [.sl .u8 bs, .int .i64 (p + (1 : Int) + (1 : Int) + (1 : Int) + (1 : Int))]])) (none)) (none)) (none)) (ifb (pickV bs (p + (1 : Int) + (1 : Int)) (8 : Int) == (6 : Int)) (some (.go (Qu6t Qb57.fn 26) [.ptr 1 0, .ptr 2 0, .int .i64 (pickV bs p (↑es.length : Int))] [.box [.sl .u8 bs, .int .i64 (p + (1 : Int) + (1 : Int) + (1 : Int))], .box [.nils, .nils, .nils], .box [.own 3 [] 0, .own 4 [] 0, .own 5 [] 0], .row .kind ks 0 0 0 .no, .row .point ps 0 0 0 .no, .row .entry es 1 0 0 .no])) (ifb (posOk (p + (1 : Int) + (1 : Int) + (1 : Int))) (some (.go (Qu6t Qb57.fn 10) [.ptr 1 0, .ptr 2 0, .int .i64 (IntKind.i64.wrap ((12 : Int) + pickV bs (p + (1 : Int) + (1 : Int) + (1 : Int)) (2 : Int))), .int .i64 (0 : Int)] [.box [.sl .u8 bs, .int .i64 (p + (1 : Int) + (1 : Int) + (1 : Int) + (1 : Int))], .box [.nils, .nils, .nils], .box [.own 3 [] 0, .own 4 [] 0, .own 5 [] 0], .row .kind ks 0 0 0 .no, .row .point ps 0 0 0 .no, .row .entry es 1 0 0 .no])) (none))))))))) (none)) (none)) (none)) (none))) (none) := by kernel_rfl
theorem Qv3i (x0 : List (El .u8)) (x1 : Int) (x2 : List (El .kind)) (x3 : List (El .point)) (x4 : List (El .kind)) (x5 : List (El .point)) (x6 : List (El .entry)) : aRun Qb57 600 true (Qu6t Qb57.fn 3) (cutSt Qb57.fn (Q1m4 Qb57 (Qu6t Qb57.fn 3)) [.ptr 0 0, .ptr 1 0, .ptr 2 0] [.box [.sl .u8 x0, .int .i64 x1], .box [.sl .kind x2, .sl .point x3, .nils], .box [.sl .kind x4, .sl .point x5, .own 3 [] 0], .row .entry x6 1 0 0 .no]) =
 ifb (spK x0 x1 x4 x5) (some (.ret (.agg [.sl .kind ((dSp x0 x1 x4 x5).ks), .sl .point ((dSp x0 x1 x4 x5).ps), .sl .entry x6]) [.box [.sl .u8 x0, .int .i64 ((dSp x0 x1 x4 x5).p)]])) (none) := by kernel_rfl
theorem Qmd8 (x0 : List (El .u8)) (x1 : Int) (x2 : List (El .kind)) (x3 : List (El .point)) (x4 : List (El .kind)) (x5 : List (El .point)) (x6 : List (El .entry)) : aRun Qb57 600 true (Qu6t Qb57.fn 14) (cutSt Qb57.fn (Q1m4 Qb57 (Qu6t Qb57.fn 14)) [.ptr 0 0, .ptr 1 0, .ptr 2 0] [.box [.sl .u8 x0, .int .i64 x1], .box [.sl .kind x2, .sl .point x3, .nils], .box [.sl .kind x4, .sl .point x5, .own 3 [] 0], .row .entry x6 1 0 0 .no]) =
 ifb (spK x0 x1 x4 x5) (some (.ret (.agg [.sl .kind ((dSp x0 x1 x4 x5).ks), .sl .point ((dSp x0 x1 x4 x5).ps), .sl .entry x6]) [.box [.sl .u8 x0, .int .i64 ((dSp x0 x1 x4 x5).p)]])) (none) := by kernel_rfl
theorem Q57m (x0 : Int) (x1 : Int) (x2 : List (El .u8)) (x3 : Int) (x4 : List (El .kind)) (x5 : List (El .point)) (x6 : List (El .entry)) : aRun Qb57 600 true (Qu6t Qb57.fn 10) (cutSt Qb57.fn (Q1m4 Qb57 (Qu6t Qb57.fn 10)) [.ptr 1 0, .ptr 2 0, .int .i64 x0, .int .i64 x1] [.box [.sl .u8 x2, .int .i64 x3], .box [.nils, .nils, .nils], .box [.own 3 [] 0, .own 4 [] 0, .own 5 [] 0], .row .kind x4 0 0 0 .no, .row .point x5 0 0 0 .no, .row .entry x6 1 0 0 .no]) =
 ifb (decide ((↑x6.length : Int) < x0)) (ifb (decide ((0 : Int) ≤ IntKind.i64.wrap ((10 : Int) + x1)) && decide (IntKind.i64.wrap ((10 : Int) + x1) < (10 : Int) ^ ((4 : Nat) + (1 : Nat)))) (ifb (decide (#[(122 : UInt8)].toList.length + List.length (dDec (4 : Nat) (IntKind.i64.wrap ((10 : Int) + x1))) ≤ (9223372036854775807 : Nat))) (ifb (decide ((x6.length + [Entry.mk (#[(122 : UInt8)].toList ++ dDec (4 : Nat) (IntKind.i64.wrap ((10 : Int) + x1))) [Fld.mk (5 : Int) (1 : Int) #[(111 : UInt8), (112 : UInt8), (101 : UInt8), (110 : UInt8)].toList]].length) * Qbhn Qb57.P (92 : Nat) ≤ (140737488355328 : Nat))) (some (.go (Qu6t Qb57.fn 10) [.ptr 1 0, .ptr 2 0, .int .i64 x0, .int .i64 (IntKind.i64.wrap (x1 + (1 : Int)))] [.box [.sl .u8 x2, .int .i64 x3], .box [.nils, .nils, .nils], .box [.own 3 [] 0, .own 4 [] 0, .own 5 [] 0], .row .kind x4 0 0 0 .no, .row .point x5 0 0 0 .no, .row .entry (x6 ++ [Entry.mk (#[(122 : UInt8)].toList ++ dDec (4 : Nat) (IntKind.i64.wrap ((10 : Int) + x1))) [Fld.mk (5 : Int) (1 : Int) #[(111 : UInt8), (112 : UInt8), (101 : UInt8), (110 : UInt8)].toList]]) 1 0 0 .no])) (none)) (none)) (none)) (some (.ret (.agg [.sl .kind x4, .sl .point x5, .sl .entry x6]) [.box [.sl .u8 x2, .int .i64 x3]])) := by kernel_rfl
theorem Qamf (x0 : Int) (x1 : List (El .u8)) (x2 : Int) (x3 : List (El .kind)) (x4 : List (El .point)) (x5 : List (El .entry)) : aRun Qb57 600 true (Qu6t Qb57.fn 26) (cutSt Qb57.fn (Q1m4 Qb57 (Qu6t Qb57.fn 26)) [.ptr 1 0, .ptr 2 0, .int .i64 x0] [.box [.sl .u8 x1, .int .i64 x2], .box [.nils, .nils, .nils], .box [.own 3 [] 0, .own 4 [] 0, .own 5 [] 0], .row .kind x3 0 0 0 .no, .row .point x4 0 0 0 .no, .row .entry x5 0 0 0 .no]) =
 ifb (inb x0 x5.length) (ifb (decide ((x5.length + [x5.getD x0.toNat (Qb57.C.dflt Ty.entry)].length) * Qbhn Qb57.P (92 : Nat) ≤ (140737488355328 : Nat))) (some (.ret (.agg [.sl .kind x3, .sl .point x4, .sl .entry (x5 ++ [x5.getD x0.toNat (Qb57.C.dflt Ty.entry)])]) [.box [.sl .u8 x1, .int .i64 x2]])) (none)) (none) := by kernel_rfl
theorem Qn22 {bs : List Int} {p q : Int} {ks : List Kind} {ps : List Point} {es : List Entry} (h1 : goodS ks ps es = true) (h3 : p ≤ q) (h4 : q ≤ p + 100) : ∃ x : BookP, (AV.agg [.sl .kind ks, .sl .point ps, .sl .entry es] : AV Ty El) = (.agg [.sl .kind x.ks, .sl .point x.ps, .sl .entry x.es]) ∧ ([.box [.sl .u8 bs, .int .i64 q]] : List (AObj Ty El)) = [.box [.sl .u8 bs, .int .i64 x.p]] ∧ Qe4i p x := ⟨⟨ks, ps, es, q⟩, rfl, rfl, h1, h3, h4⟩
theorem Qtzz (bs : List Int) (hbs : Qf9o bs = true) (ks : List Kind) (ps : List Point) (es : List Entry) (k1 : 1 ≤ ks.length) (k2 : ks.length ≤ 10) (s1 : 1 ≤ ps.length) (s2 : ps.length ≤ 40) (h12 : es.length ≤ 12) (hs : ∀ x ∈ es, small x) (hn : Qeqt ps = true) (p q : Int) (h0 : 0 ≤ p) (h9 : p ≤ 870000) (h2 : p ≤ q) (h3 : q ≤ p + 10) :
  CutE Qb57 Qvef 3 [.ptr 0 0, .ptr 1 0, .ptr 2 0] [.box [.sl .u8 bs, .int .i64 q], .box [.sl .kind [], .sl .point [], .nils], .box [.sl .kind ks, .sl .point ps, .own 3 [] 0], .row .entry es 1 0 0 .no] (fun v h => ∃ x : BookP, v = (.agg [.sl .kind x.ks, .sl .point x.ps, .sl .entry x.es]) ∧ h = [.box [.sl .u8 bs, .int .i64 x.p]] ∧ Qe4i p x) := by
 refine CutE.of Qjmm rfl (Qv3i bs q [] [] ks ps es) ?_
 have hk : spK bs q ks ps = true := by simp only [spK, Bool.and_eq_true, decide_eq_true_eq]; exact ⟨hbs, by omega, by omega, k1, k2, s1, s2, hn⟩
 obtain ⟨a1, a2, a3, a4, a5⟩ := (Qtjp bs q ks ps hk).2
 exact SatE.need hk (SatE.ret (Qn22 (Qieu (by omega) (by omega) (by omega) hs a5) (by omega) (by omega)))
theorem Qv3y (bs : List Int) (hbs : Qf9o bs = true) (ks : List Kind) (ps : List Point) (es : List Entry) (k1 : 1 ≤ ks.length) (k2 : ks.length ≤ 10) (s1 : 1 ≤ ps.length) (s2 : ps.length ≤ 40) (h12 : es.length ≤ 12) (hs : ∀ x ∈ es, small x) (hn : Qeqt ps = true) (p q : Int) (h0 : 0 ≤ p) (h9 : p ≤ 870000) (h2 : p ≤ q) (h3 : q ≤ p + 10) :
  CutE Qb57 Qvef 14 [.ptr 0 0, .ptr 1 0, .ptr 2 0] [.box [.sl .u8 bs, .int .i64 q], .box [.sl .kind [], .sl .point [], .nils], .box [.sl .kind ks, .sl .point ps, .own 3 [] 0], .row .entry es 1 0 0 .no] (fun v h => ∃ x : BookP, v = (.agg [.sl .kind x.ks, .sl .point x.ps, .sl .entry x.es]) ∧ h = [.box [.sl .u8 bs, .int .i64 x.p]] ∧ Qe4i p x) := by
 refine CutE.of Qjmm rfl (Qmd8 bs q [] [] ks ps es) ?_
 have hk : spK bs q ks ps = true := by simp only [spK, Bool.and_eq_true, decide_eq_true_eq]; exact ⟨hbs, by omega, by omega, k1, k2, s1, s2, hn⟩
 obtain ⟨a1, a2, a3, a4, a5⟩ := (Qtjp bs q ks ps hk).2
 exact SatE.need hk (SatE.ret (Qn22 (Qieu (by omega) (by omega) (by omega) hs a5) (by omega) (by omega)))
theorem Q985 (bs : List Int) (ks : List Kind) (ps : List Point) (k2 : ks.length ≤ 10) (s2 : ps.length ≤ 40) (hnm : Qeqt ps = true) (p q n : Int) (hn : n ≤ 20) (h2 : p ≤ q) (h3 : q ≤ p + 10) : ∀ (d i : Nat) (es : List Entry), n ≤ es.length + d → i + d ≤ 50 → es.length ≤ 20 → (∀ x ∈ es, small x) →
  CutE Qb57 Qvef 10 [.ptr 1 0, .ptr 2 0, .int .i64 n, .int .i64 (i : Int)] [.box [.sl .u8 bs, .int .i64 q], .box [.nils, .nils, .nils], .box [.own 3 [] 0, .own 4 [] 0, .own 5 [] 0], .row .kind ks 0 0 0 .no, .row .point ps 0 0 0 .no, .row .entry es 1 0 0 .no] (fun v h => ∃ x : BookP, v = (.agg [.sl .kind x.ks, .sl .point x.ps, .sl .entry x.es]) ∧ h = [.box [.sl .u8 bs, .int .i64 x.p]] ∧ Qe4i p x) := by
 have hbb : Qbhn Qb57.P 92 ≤ 256 := of_decide_eq_true (by kernel_rfl)
 intro d
 induction d with
 | zero =>
  intro i es hl hi hm hs
  refine CutE.of Qjmm rfl (Q57m n i bs q ks ps es) ?_
  rw [show decide ((es.length : Int) < n) = false from decide_eq_false (by omega), Qk7y]
  exact SatE.ret (Qn22 (Qieu (by omega) (by omega) (by omega) hs hnm) (by omega) (by omega))
 | succ d ih =>
  intro i es hl hi hm hs
  refine CutE.of Qjmm rfl (Q57m n i bs q ks ps es) ?_
  have hw : IntKind.i64.wrap ((i : Int) + 1) = ((i + 1 : Nat) : Int) := by rw [Qbrg] <;> omega
  have hw2 : IntKind.i64.wrap (10 + (i : Int)) = 10 + (i : Int) := Qbrg (by omega) (by omega)
  obtain ⟨g1, l1⟩ := decs (n := 10 + (i : Int)) (by omega) (by omega)
  rw [hw, hw2]
  refine SatE.ifb (fun hlt => ?_) (fun _ => SatE.ret (Qn22 (Qieu (by omega) (by omega) (by omega) hs hnm) (by omega) (by omega)))
  have hlt := of_decide_eq_true hlt
  refine SatE.need g1 (SatE.need (decide_eq_true (by simp; omega)) (SatE.need (Q1mk hbb (by simp; omega)) (SatE.cut (ih (i + 1) _ (by simp; omega) (by omega) (by simp; omega) ?_))))
  intro x hx
  rcases List.mem_append.1 hx with hx | hx
  ·exact hs x hx
  ·simp only [List.mem_singleton] at hx
   subst hx
   exact ⟨by simp, fun f hf => by simp only [List.mem_singleton] at hf; subst hf; exact decide_eq_true (by simp)⟩
theorem Qzxv (bs : List Int) (p : Int) (ks : List Kind) (ps : List Point) (es : List Entry) (hg : slK bs p ks ps es = true) : Qewq Tryz.prog CP Qvef [.ptr 0 0, .agg [.sl .kind ks, .sl .point ps, .sl .entry es]] [.box [.sl .u8 bs, .int .i64 p]] (.agg [.sl .kind (Qkav bs p ks ps es).ks, .sl .point (Qkav bs p ks ps es).ps, .sl .entry (Qkav bs p ks ps es).es]) [.box [.sl .u8 bs, .int .i64 (Qkav bs p ks ps es).p]] ∧ Qe4i p (Qkav bs p ks ps es) := by
 simp only [slK, Bool.and_eq_true, decide_eq_true_eq] at hg
 obtain ⟨hbs, h0, h9, k1, s1, hge⟩ := hg
 have hge2 := hge
 simp only [goodE, goodB, Qn0o, Qib4, Bool.and_eq_true, decide_eq_true_eq] at hge2
 obtain ⟨⟨⟨k2, s2, _⟩, _⟩, _, ht⟩ := hge2
 obtain ⟨h12, hs⟩ := Qyyr hge
 have hnm : Qeqt ps = true := by
  have h := hge
  simp only [goodE, Qn0o, Bool.and_eq_true] at h
  exact (Qd1y h.1.1).2
 have hbb : Qbhn Qb57.P 92 ≤ 256 := of_decide_eq_true (by kernel_rfl)
 have ps0 : ∀ (q : Int), p ≤ q → q ≤ p + 10 → posOk q = true := fun q h2 h3 => Q8s4 (by omega) (by omega)
 have pk : ∀ (q n : Int), p ≤ q → q ≤ p + 10 → 1 ≤ n → 0 ≤ pickV bs q n ∧ pickV bs q n < n := fun q n h2 h3 h4 => Q5va hbs (ps0 q h2 h3) h4
 have rd0 : ∀ (q : Int), p ≤ q → q ≤ p + 10 → rdOk bs q = true := fun q h2 h3 => by rw [rdOk, hbs, ps0 q h2 h3]; rfl
 have rd : ∀ (q : Int) (l : List Str), p ≤ q → q ≤ p + 10 → 0 < l.length → (rdOk bs q && decide (0 < l.length)) = true := fun q l h2 h3 hl => by rw [rd0 q h2 h3, decide_eq_true hl]; rfl
 have hE : CallE Qb57.P Qb57.C Qvef [.ptr 0 0, .agg [.sl .kind ks, .sl .point ps, .sl .entry es]] [.box [.sl .u8 bs, .int .i64 p]] (fun v h => ∃ x : BookP, v = (.agg [.sl .kind x.ks, .sl .point x.ps, .sl .entry x.es]) ∧ h = [.box [.sl .u8 bs, .int .i64 x.p]] ∧ Qe4i p x) := by
  refine CallE.of Qjmm (by kernel_rfl) (Qocw bs p ks ps es) ?_
  refine SatE.need ht (SatE.ifb (fun _ => SatE.cut (Qtzz bs hbs ks ps es k1 (by omega) s1 (by omega) h12 hs hnm p p h0 h9 (by omega) (by omega))) (fun hne => ?_))
  have hl1 : 1 ≤ es.length := by
   have : ¬ ((es.length : Int) = 0) := by simpa using hne
   omega
  obtain ⟨i1, i2⟩ := pk p (es.length : Int) (by omega) (by omega) (by omega)
  have hi : inb (pickV bs p (es.length : Int)) es.length = true := inbL ⟨i1, i2⟩
  have hm := Q7q7 (es := es) (i := (pickV bs p (es.length : Int)).toNat) (by omega)
  have hsm := hs _ hm
  have hfp := Q23x hge _ hm
  refine SatE.need (ps0 _ (by omega) (by omega)) (SatE.need hi (SatE.need (ps0 _ (by omega) (by omega)) (SatE.need (ps0 _ (by omega) (by omega)) ?_)))
  have hf : inb (pickV bs (p + 1) ((es.getD (pickV bs p (es.length : Int)).toNat (dfltP .entry)).fields.length : Int)) (es.getD (pickV bs p (es.length : Int)).toNat (dfltP .entry)).fields.length = true := inbL (pk (p + 1) _ (by omega) (by omega) (by omega))
  obtain ⟨f1, f2⟩ := pk (p + 1) ((es.getD (pickV bs p (es.length : Int)).toNat (dfltP .entry)).fields.length : Int) (by omega) (by omega) (by omega)
  have hfm := Qfaa (l := (es.getD (pickV bs p (es.length : Int)).toNat (dfltP .entry)).fields) (i := (pickV bs (p + 1) ((es.getD (pickV bs p (es.length : Int)).toNat (dfltP .entry)).fields.length : Int)).toNat) (by omega)
  have hfz := hsm.2 _ hfm
  have fin : ∀ (es' : List Entry) (q : Int), es'.length ≤ 20 → (∀ x ∈ es', small x) → p ≤ q → q ≤ p + 10 → SatE Qb57 Qvef (fun v h => ∃ x : BookP, v = (.agg [.sl .kind x.ks, .sl .point x.ps, .sl .entry x.es]) ∧ h = [.box [.sl .u8 bs, .int .i64 x.p]] ∧ Qe4i p x) (some (.ret (.agg [.sl .kind ks, .sl .point ps, .sl .entry es']) [.box [.sl .u8 bs, .int .i64 q]])) := fun es' q h1 h2 h3 h4 => SatE.ret (Qn22 (Qieu (by omega) (by omega) (by omega) h2 hnm) (by omega) (by omega))
  have hsl : ∀ (k : Nat) (e : Entry), (es.set k e).length ≤ 20 := fun k e => by rw [List.length_set]; omega
  refine SatE.ifb (fun _ => ?_) (fun _ => SatE.ifb (fun _ => ?_) (fun _ => SatE.ifb (fun _ => ?_) (fun _ => SatE.ifb (fun _ => ?_) (fun _ => SatE.ifb (fun _ => ?_) (fun _ => SatE.ifb (fun _ => ?_) (fun _ => SatE.ifb (fun _ => ?_) (fun _ => ?_)))))))
  ·exact SatE.cut (Qv3y bs hbs ks ps es k1 (by omega) s1 (by omega) h12 hs hnm p _ h0 h9 (by omega) (by omega))
  ·exact SatE.need (rd _ _ (by omega) (by omega) (Nat.zero_lt_succ _)) (SatE.need hi (fin _ _ (hsl _ _) (Qt1v hs _ hsm) (by omega) (by omega)))
  ·exact SatE.need hi (fin _ _ (hsl _ _) (Qt1v hs _ ⟨Nat.zero_le _, fun f hf => by cases hf⟩) (by omega) (by omega))
  ·exact SatE.need hi (SatE.need (ps0 _ (by omega) (by omega)) (SatE.need hf (fin _ _ (hsl _ _) (Qt1v hs _ (Qsfv hsm _ hfz)) (by omega) (by omega))))
  ·exact SatE.need hi (SatE.need (ps0 _ (by omega) (by omega)) (SatE.need (inb3 (pk (p + 1 + 1 + 1) 3 (by omega) (by omega) (by omega))) (SatE.need hf (fin _ _ (hsl _ _) (Qt1v hs _ (Qsfv hsm _ hfz)) (by omega) (by omega)))))
  ·exact SatE.need hi (SatE.need (rd0 _ (by omega) (by omega)) (SatE.need hf (fin _ _ (hsl _ _) (Qt1v hs _ (Qsfv hsm _ (decide_eq_true (Nat.le_trans (Qgo3 (M := 100) (by rfl)) (by omega))))) (by omega) (by omega))))
  ·refine SatE.cut (CutE.frz (r := 5) (d := 1) (d' := 0) (T := .entry) (xs := es) CP_ok (by simp) rfl (by omega) ?_)
   refine CutE.of Qjmm rfl (Qamf _ bs _ ks ps es) ?_
   refine SatE.need hi (SatE.need (Q1mk hbb (by simp; omega)) (fin _ _ (by simp; omega) (fun x hx => ?_) (by omega) (by omega)))
   rcases List.mem_append.1 hx with hx | hx
   ·exact hs x hx
   ·simp only [List.mem_singleton] at hx
    subst hx
    exact hsm
  ·obtain ⟨n1, n2⟩ := pk (p + 1 + 1 + 1) 2 (by omega) (by omega) (by omega)
   have hw : IntKind.i64.wrap (12 + pickV bs (p + 1 + 1 + 1) 2) = 12 + pickV bs (p + 1 + 1 + 1) 2 := Qbrg (by omega) (by omega)
   rw [hw]
   exact SatE.need (ps0 _ (by omega) (by omega)) (SatE.cut (Q985 bs ks ps (by omega) (by omega) hnm p _ _ (by omega) (by omega) (by omega) 13 0 es (by omega) (by omega) (by omega) hs))
 obtain ⟨v, H', h, x, rfl, rfl, hx⟩ := hE
 exact Qk78 (p := fun x : BookP => Qewq Tryz.prog CP Qvef [.ptr 0 0, .agg [.sl .kind ks, .sl .point ps, .sl .entry es]] [.box [.sl .u8 bs, .int .i64 p]] (.agg [.sl .kind x.ks, .sl .point x.ps, .sl .entry x.es]) [.box [.sl .u8 bs, .int .i64 x.p]] ∧ Qe4i p x) ⟨x, h, hx⟩
theorem Qq5v (bs : List Int) (p : Int) (ks : List Kind) (ps : List Point) (es : List Entry) (hg : slK bs p ks ps es = true) : Qewq Tryz.prog CP Qvef [.ptr 0 0, .agg [.sl .kind ks, .sl .point ps, .sl .entry es]] [.box [.sl .u8 bs, .int .i64 p]] (.agg [.sl .kind (Qkav bs p ks ps es).ks, .sl .point (Qkav bs p ks ps es).ps, .sl .entry (Qkav bs p ks ps es).es]) [.box [.sl .u8 bs, .int .i64 (Qkav bs p ks ps es).p]] := by
 exact (Qzxv bs p ks ps es hg).1
theorem Qql7 : EntOK Tryz.prog CP Qvef Qsb4 := by
 refine ⟨⟨Tryz.f143, by kernel_rfl, by kernel_rfl, by kernel_rfl⟩, fun args H res H' h => ?_⟩
 simp only [Qsb4] at h
 split at h
 ·simp only [Option.some.injEq, Prod.mk.injEq] at h
  obtain ⟨hg, rfl, rfl⟩ := h
  exact Qq5v _ _ _ _ _ hg
 ·cases h
end Lx
/- Meanings: any book. -/
namespace Lx
open Go Go.Proofs
def Qjf2 (p : Int) (x : BookP) : Prop := goodS x.ks x.ps x.es = true ∧ p ≤ x.p ∧ x.p ≤ p + 2000
noncomputable def dAny (bs : List Int) (p : Int) : BookP := drawn (fun x => Qewq Tryz.prog CP Qzkm [.ptr 0 0] [.box [.sl .u8 bs, .int .i64 p]] (.agg [.sl .kind x.ks, .sl .point x.ps, .sl .entry x.es]) [.box [.sl .u8 bs, .int .i64 x.p]] ∧ Qjf2 p x)
def anyK (bs : List Int) (p : Int) : Bool := Qf9o bs && (decide (0 ≤ p) && decide (p ≤ 800000))
noncomputable def Qrra : Ent Ty El := ⟨[.io], 0, fun a h => match a, h with
 | [.ptr 0 0], [.box [.sl .u8 bs, .int .i64 p]] => some (anyK bs p, .agg [.sl .kind (dAny bs p).ks, .sl .point (dAny bs p).ps, .sl .entry (dAny bs p).es], [.box [.sl .u8 bs, .int .i64 (dAny bs p).p]])
 | _, _ => none⟩
end Lx
/- Any book. -/
namespace Lx
open Go Go.Proofs
noncomputable def Qsx2 : RE Ty El := ⟨Tryz.prog, CP, [(Qpxs, Q7v2), (Qwua, Qu46), (Q604, Qnfe), (Qvef, Qsb4)], Tryz.f81, 1, [.agg [.ro .kind, .ro .point, .ro .entry]], []⟩
theorem Q1ej : REOK Qsx2 Qzkm := ⟨CP_ok, (TabOK.cons Q0e7 (TabOK.cons Ql5k (TabOK.cons Qtpw (TabOK.cons Qql7 Qye1)))), by kernel_rfl, by kernel_rfl⟩
theorem Q4p4 (bs : List Int) (p : Int) : aRun Qsx2 600 false (body0 Qsx2.fn) (Q4gm Qsx2.fn [.ptr 0 0] [.box [.sl .u8 bs, .int .i64 p]]) =
 ifb (rdK bs p) (ifb (bkK bs (dBase bs p).p (dBase bs p).ks (dBase bs p).ps) (ifb (posOk (dBook bs (dBase bs p).p (dBase bs p).ks (dBase bs p).ps).p) (ifb (pickV bs (dBook bs (dBase bs p).p (dBase bs p).ks (dBase bs p).ps).p (16 : Int) == (0 : Int)) (ifb (slK bs ((dBook bs (dBase bs p).p (dBase bs p).ks (dBase bs p).ps).p + (1 : Int)) (dBase bs p).ks (dBase bs p).ps (dBook bs (dBase bs p).p (dBase bs p).ks (dBase bs p).ps).es) (some (.ret (.agg [.sl .kind ((Qkav bs ((dBook bs (dBase bs p).p (dBase bs p).ks (dBase bs p).ps).p + (1 : Int)) (dBase bs p).ks (dBase bs p).ps (dBook bs (dBase bs p).p (dBase bs p).ks (dBase bs p).ps).es).ks), .sl .point ((Qkav bs ((dBook bs (dBase bs p).p (dBase bs p).ks (dBase bs p).ps).p + (1 : Int)) (dBase bs p).ks (dBase bs p).ps (dBook bs (dBase bs p).p (dBase bs p).ks (dBase bs p).ps).es).ps), .sl .entry ((Qkav bs ((dBook bs (dBase bs p).p (dBase bs p).ks (dBase bs p).ps).p + (1 : Int)) (dBase bs p).ks (dBase bs p).ps (dBook bs (dBase bs p).p (dBase bs p).ks (dBase bs p).ps).es).es)]) [.box [.sl .u8 bs, .int .i64 ((Qkav bs ((dBook bs (dBase bs p).p (dBase bs p).ks (dBase bs p).ps).p + (1 : Int)) (dBase bs p).ks (dBase bs p).ps (dBook bs (dBase bs p).p (dBase bs p).ks (dBase bs p).ps).es).p)]])) (none)) (some (.ret (.agg [.sl .kind ((dBase bs p).ks), .sl .point ((dBase bs p).ps), .sl .entry ((dBook bs (dBase bs p).p (dBase bs p).ks (dBase bs p).ps).es)]) [.box [.sl .u8 bs, .int .i64 ((dBook bs (dBase bs p).p (dBase bs p).ks (dBase bs p).ps).p + (1 : Int))]]))) (none)) (none)) (none) := by kernel_rfl
theorem Qt2n {bs : List Int} {p q : Int} {ks : List Kind} {ps : List Point} {es : List Entry} (h1 : goodS ks ps es = true) (h3 : p ≤ q) (h4 : q ≤ p + 2000) : ∃ x : BookP, (AV.agg [.sl .kind ks, .sl .point ps, .sl .entry es] : AV Ty El) = (.agg [.sl .kind x.ks, .sl .point x.ps, .sl .entry x.es]) ∧ ([.box [.sl .u8 bs, .int .i64 q]] : List (AObj Ty El)) = [.box [.sl .u8 bs, .int .i64 x.p]] ∧ Qjf2 p x := ⟨⟨ks, ps, es, q⟩, rfl, rfl, h1, h3, h4⟩
theorem Qmag (bs : List Int) (p : Int) (hg : anyK bs p = true) : Qewq Tryz.prog CP Qzkm [.ptr 0 0] [.box [.sl .u8 bs, .int .i64 p]] (.agg [.sl .kind (dAny bs p).ks, .sl .point (dAny bs p).ps, .sl .entry (dAny bs p).es]) [.box [.sl .u8 bs, .int .i64 (dAny bs p).p]] ∧ Qjf2 p (dAny bs p) := by
 simp only [anyK, Bool.and_eq_true, decide_eq_true_eq] at hg
 obtain ⟨hbs, h0, h9⟩ := hg
 have hr : rdK bs p = true := by simp only [rdK, Bool.and_eq_true, decide_eq_true_eq]; exact ⟨hbs, h0, by omega⟩
 obtain ⟨b1, b2, b3, b4, b5⟩ := (Q46n bs p hr).2
 have hE : CallE Qsx2.P Qsx2.C Qzkm [.ptr 0 0] [.box [.sl .u8 bs, .int .i64 p]] (fun v h => ∃ x : BookP, v = (.agg [.sl .kind x.ks, .sl .point x.ps, .sl .entry x.es]) ∧ h = [.box [.sl .u8 bs, .int .i64 x.p]] ∧ Qjf2 p x) := by
  refine CallE.of Q1ej (by kernel_rfl) (Q4p4 bs p) ?_
  generalize dBase bs p = z at *
  have hk : bkK bs z.p z.ks z.ps = true := by simp only [bkK, Bool.and_eq_true, decide_eq_true_eq]; exact ⟨hbs, by omega, by omega, b1, b3⟩
  obtain ⟨c1, c2, c3⟩ := (Q4mo bs z.p z.ks z.ps hk).2
  generalize dBook bs z.p z.ks z.ps = y at *
  have hs : slK bs (y.p + 1) z.ks z.ps y.es = true := by simp only [slK, Bool.and_eq_true, decide_eq_true_eq]; exact ⟨hbs, by omega, by omega, b2, b3, c1⟩
  obtain ⟨d1, d2, d3⟩ := (Qzxv bs (y.p + 1) z.ks z.ps y.es hs).2
  have hgb := c1
  simp only [goodE, Bool.and_eq_true] at hgb
  exact SatE.need hr (SatE.need hk (SatE.need (Q8s4 (by omega) (by omega)) (SatE.ifb (fun _ => SatE.need hs (SatE.ret (Qt2n d1 (by omega) (by omega)))) (fun _ => SatE.ret (Qt2n (Qj7a c1) (by omega) (by omega))))))
 obtain ⟨v, H', h, x, rfl, rfl, hx⟩ := hE
 exact Qk78 (p := fun x : BookP => Qewq Tryz.prog CP Qzkm [.ptr 0 0] [.box [.sl .u8 bs, .int .i64 p]] (.agg [.sl .kind x.ks, .sl .point x.ps, .sl .entry x.es]) [.box [.sl .u8 bs, .int .i64 x.p]] ∧ Qjf2 p x) ⟨x, h, hx⟩
theorem Qqeh (bs : List Int) (p : Int) (hg : anyK bs p = true) : Qewq Tryz.prog CP Qzkm [.ptr 0 0] [.box [.sl .u8 bs, .int .i64 p]] (.agg [.sl .kind (dAny bs p).ks, .sl .point (dAny bs p).ps, .sl .entry (dAny bs p).es]) [.box [.sl .u8 bs, .int .i64 (dAny bs p).p]] := by
 exact (Qmag bs p hg).1
theorem Qs7a : EntOK Tryz.prog CP Qzkm Qrra := by
 refine ⟨⟨Tryz.f81, by kernel_rfl, by kernel_rfl, by kernel_rfl⟩, fun args H res H' h => ?_⟩
 simp only [Qrra] at h
 split at h
 ·simp only [Option.some.injEq, Prod.mk.injEq] at h
  obtain ⟨hg, rfl, rfl⟩ := h
  exact Qqeh _ _ hg
 ·cases h
end Lx
/- Meanings: what the laws draw. -/
namespace Lx
open Go Go.Proofs
structure OvP where
 ks : List Kind
 ps : List Point
 es : List Entry
 n : Str
 q : Str
 deriving Inhabited
def Qywq (x : OvP) : Prop := goodS x.ks x.ps x.es = true
noncomputable def dOver (c : List Int) : OvP := drawn (fun x => Qewq Tryz.prog CP Qig0 [.sl .u8 c] [] (.tup [.agg [.sl .kind x.ks, .sl .point x.ps, .sl .entry x.es], .str x.n, .str x.q]) [] ∧ Qywq x)
noncomputable def Qarm : Ent Ty El := ⟨[.ro], 0, fun a h => match a, h with
 | [.sl .u8 c], [] => some (Qf9o c, .tup [.agg [.sl .kind (dOver c).ks, .sl .point (dOver c).ps, .sl .entry (dOver c).es], .str (dOver c).n, .str (dOver c).q], [])
 | _, _ => none⟩
structure FlP where
 ks : List Kind
 ps : List Point
 es : List Entry
 n : Str
 l : List Int
 deriving Inhabited
structure CeP where
 ks : List Kind
 ps : List Point
 l : List Str
 deriving Inhabited
def Qxdq (x : CeP) : Prop := x.ks.length ≤ 20 ∧ x.ps.length ≤ 100 ∧ x.l.length ≤ 1000
noncomputable def Qq37 (c : List Int) : CeP := drawn (fun x => Qewq Tryz.prog CP Qaxv [.sl .u8 c] [] (.tup [.agg [.sl .kind x.ks, .sl .point x.ps], .sl .str x.l]) [] ∧ Qxdq x)
noncomputable def Q215 : Ent Ty El := ⟨[.ro], 0, fun a h => match a, h with
 | [.sl .u8 c], [] => some (Qf9o c, .tup [.agg [.sl .kind (Qq37 c).ks, .sl .point (Qq37 c).ps], .sl .str (Qq37 c).l], [])
 | _, _ => none⟩
theorem Qz2g {c : List Int} (h : Qf9o c = true) (n : Nat) : Qf9o (c.take n) = true := List.all_eq_true.2 fun b hb => List.all_eq_true.1 h b (List.mem_of_mem_take hb)
end Lx
/- What the laws draw. -/
namespace Lx
open Go Go.Proofs
noncomputable def Qm32 : RE Ty El := ⟨Tryz.prog, CP, [(Qajm, Qqtq), (Qzkm, Qrra), (Q67f, Qhmi), (Qchm, Q2vb)], Tryz.f31, 0, [.agg [.ro .kind, .ro .point, .ro .entry], .any, .any], []⟩
theorem Qms6 : REOK Qm32 Qig0 := ⟨CP_ok, (TabOK.cons Q3w2 (TabOK.cons Qs7a (TabOK.cons Qkds (TabOK.cons Qyvd Qye1)))), by kernel_rfl, by kernel_rfl⟩
theorem Qvjb (c : List Int) : aRun Qm32 600 false (body0 Qm32.fn) (Q4gm Qm32.fn [.sl .u8 c] []) =
 ifb (anyK (List.take (2000 : Nat) c) (0 : Int)) (ifb (rdOk (List.take (2000 : Nat) c) (dAny (List.take (2000 : Nat) c) (0 : Int)).p) (ifb (rdOk (List.take (2000 : Nat) c) ((dAny (List.take (2000 : Nat) c) (0 : Int)).p + (1 : Int)) && decide ((0 : Nat) < [#[(97 : UInt8), (108 : UInt8), (102 : UInt8), (97 : UInt8)].toList, #[(98 : UInt8), (114 : UInt8), (97 : UInt8), (118 : UInt8)].toList, #[(99 : UInt8), (104 : UInt8), (97 : UInt8), (114 : UInt8)].toList, #[(100 : UInt8), (45 : UInt8), (52 : UInt8)].toList, #[(101 : UInt8), (99 : UInt8), (104 : UInt8), (111 : UInt8)].toList, #[(110 : UInt8), (111 : UInt8), (110 : UInt8), (101 : UInt8)].toList].length)) (some (.ret (.tup [.agg [.sl .kind ((dAny (List.take (2000 : Nat) c) (0 : Int)).ks), .sl .point ((dAny (List.take (2000 : Nat) c) (0 : Int)).ps), .sl .entry ((dAny (List.take (2000 : Nat) c) (0 : Int)).es)], .str (ofV (List.take (2000 : Nat) c) (dAny (List.take (2000 : Nat) c) (0 : Int)).p Qzzw), .str (ofV (List.take (2000 : Nat) c) ((dAny (List.take (2000 : Nat) c) (0 : Int)).p + (1 : Int)) [#[(97 : UInt8), (108 : UInt8), (102 : UInt8), (97 : UInt8)].toList, #[(98 : UInt8), (114 : UInt8), (97 : UInt8), (118 : UInt8)].toList, #[(99 : UInt8), (104 : UInt8), (97 : UInt8), (114 : UInt8)].toList, #[(100 : UInt8), (45 : UInt8), (52 : UInt8)].toList, #[(101 : UInt8), (99 : UInt8), (104 : UInt8), (111 : UInt8)].toList, #[(110 : UInt8), (111 : UInt8), (110 : UInt8), (101 : UInt8)].toList])]) [])) (none)) (none)) (none) := by kernel_rfl
theorem Qxst (c : List Int) (hg : Qf9o c = true) : Qewq Tryz.prog CP Qig0 [.sl .u8 c] [] (.tup [.agg [.sl .kind (dOver c).ks, .sl .point (dOver c).ps, .sl .entry (dOver c).es], .str (dOver c).n, .str (dOver c).q]) [] ∧ Qywq (dOver c) := by
 have hbs := Qz2g hg 2000
 have ha : anyK (c.take 2000) 0 = true := by simp only [anyK, Bool.and_eq_true, decide_eq_true_eq]; exact ⟨hbs, by omega, by omega⟩
 obtain ⟨a1, a2, a3⟩ := (Qmag (c.take 2000) 0 ha).2
 have rd : ∀ q : Int, 0 ≤ q → q ≤ 900000 → rdOk (c.take 2000) q = true := fun q h1 h2 => by rw [rdOk, hbs, Q8s4 h1 (by omega)]; rfl
 have hE : CallE Qm32.P Qm32.C Qig0 [.sl .u8 c] [] (fun v h => ∃ x : OvP, v = (.tup [.agg [.sl .kind x.ks, .sl .point x.ps, .sl .entry x.es], .str x.n, .str x.q]) ∧ h = [] ∧ Qywq x) := by
  refine CallE.of Qms6 (by kernel_rfl) (Qvjb c) ?_
  refine SatE.need ha (SatE.need (rd _ (by omega) (by omega)) (SatE.need (by rw [rd _ (by omega) (by omega)]; rfl) (SatE.ret ⟨⟨_, _, _, _, _⟩, rfl, rfl, a1⟩)))
 obtain ⟨v, H', h, x, rfl, rfl, hx⟩ := hE
 exact Qk78 (p := fun x : OvP => Qewq Tryz.prog CP Qig0 [.sl .u8 c] [] (.tup [.agg [.sl .kind x.ks, .sl .point x.ps, .sl .entry x.es], .str x.n, .str x.q]) [] ∧ Qywq x) ⟨x, h, hx⟩
theorem Qndf (c : List Int) (hg : Qf9o c = true) : Qewq Tryz.prog CP Qig0 [.sl .u8 c] [] (.tup [.agg [.sl .kind (dOver c).ks, .sl .point (dOver c).ps, .sl .entry (dOver c).es], .str (dOver c).n, .str (dOver c).q]) [] := by
 exact (Qxst c hg).1
theorem Q3nq : EntOK Tryz.prog CP Qig0 Qarm := by
 refine ⟨⟨Tryz.f31, by kernel_rfl, by kernel_rfl, by kernel_rfl⟩, fun args H res H' h => ?_⟩
 simp only [Qarm] at h
 split at h
 ·simp only [Option.some.injEq, Prod.mk.injEq] at h
  obtain ⟨hg, rfl, rfl⟩ := h
  exact Qndf _ hg
 ·cases h

end Lx
/- What the laws draw: cells. -/
namespace Lx
open Go Go.Proofs
noncomputable def Qdrj : RE Ty El := ⟨Tryz.prog, CP, [(Qajm, Qqtq), (Qwua, Qu46), (Qwqy, Q0t5), (Q001, Qi2p), (Q963, Qx4k), (Q0nv, Qwn9), (Qpxs, Q7v2)], Tryz.f35, 0, [.agg [.ro .kind, .ro .point], .ro .str], []⟩
theorem Qn3j : REOK Qdrj Qaxv := ⟨CP_ok, (TabOK.cons Q3w2 (TabOK.cons Ql5k (TabOK.cons Qnck (TabOK.cons Ql4s (TabOK.cons Q1zq (TabOK.cons Q83y (TabOK.cons Q0e7 Qye1))))))), by kernel_rfl, by kernel_rfl⟩
theorem Qf0g (c : List Int) : aRun Qdrj 600 false (body0 Qdrj.fn) (Q4gm Qdrj.fn [.sl .u8 c] []) =
 ifb (rdK (List.take (2000 : Nat) c) (0 : Int)) (ifb (valK (List.take (2000 : Nat) c) (dBase (List.take (2000 : Nat) c) (0 : Int)).p (dBase (List.take (2000 : Nat) c) (0 : Int)).ks (dBase (List.take (2000 : Nat) c) (0 : Int)).ps) (ifb (decide (List.length (dVal (List.take (2000 : Nat) c) (dBase (List.take (2000 : Nat) c) (0 : Int)).p (dBase (List.take (2000 : Nat) c) (0 : Int)).ks (dBase (List.take (2000 : Nat) c) (0 : Int)).ps (4 : Int)).s ≤ (1000000000 : Nat))) (ifb (posOk (dVal (List.take (2000 : Nat) c) (dBase (List.take (2000 : Nat) c) (0 : Int)).p (dBase (List.take (2000 : Nat) c) (0 : Int)).ks (dBase (List.take (2000 : Nat) c) (0 : Int)).ps (4 : Int)).p) (ifb (pickV (List.take (2000 : Nat) c) (dVal (List.take (2000 : Nat) c) (dBase (List.take (2000 : Nat) c) (0 : Int)).p (dBase (List.take (2000 : Nat) c) (0 : Int)).ks (dBase (List.take (2000 : Nat) c) (0 : Int)).ps (4 : Int)).p (12 : Int) == (0 : Int)) (ifb (spK (List.take (2000 : Nat) c) ((dVal (List.take (2000 : Nat) c) (dBase (List.take (2000 : Nat) c) (0 : Int)).p (dBase (List.take (2000 : Nat) c) (0 : Int)).ks (dBase (List.take (2000 : Nat) c) (0 : Int)).ps (4 : Int)).p + (1 : Int)) (dBase (List.take (2000 : Nat) c) (0 : Int)).ks (dBase (List.take (2000 : Nat) c) (0 : Int)).ps) (some (.ret (.tup [.agg [.sl .kind ((dSp (List.take (2000 : Nat) c) ((dVal (List.take (2000 : Nat) c) (dBase (List.take (2000 : Nat) c) (0 : Int)).p (dBase (List.take (2000 : Nat) c) (0 : Int)).ks (dBase (List.take (2000 : Nat) c) (0 : Int)).ps (4 : Int)).p + (1 : Int)) (dBase (List.take (2000 : Nat) c) (0 : Int)).ks (dBase (List.take (2000 : Nat) c) (0 : Int)).ps).ks), .sl .point ((dSp (List.take (2000 : Nat) c) ((dVal (List.take (2000 : Nat) c) (dBase (List.take (2000 : Nat) c) (0 : Int)).p (dBase (List.take (2000 : Nat) c) (0 : Int)).ks (dBase (List.take (2000 : Nat) c) (0 : Int)).ps (4 : Int)).p + (1 : Int)) (dBase (List.take (2000 : Nat) c) (0 : Int)).ks (dBase (List.take (2000 : Nat) c) (0 : Int)).ps).ps)], .sl .str (cutS (32 : Int) (dVal (List.take (2000 : Nat) c) (dBase (List.take (2000 : Nat) c) (0 : Int)).p (dBase (List.take (2000 : Nat) c) (0 : Int)).ks (dBase (List.take (2000 : Nat) c) (0 : Int)).ps (4 : Int)).s)]) [])) (none)) (ifb (pickV (List.take (2000 : Nat) c) (dVal (List.take (2000 : Nat) c) (dBase (List.take (2000 : Nat) c) (0 : Int)).p (dBase (List.take (2000 : Nat) c) (0 : Int)).ks (dBase (List.take (2000 : Nat) c) (0 : Int)).ps (4 : Int)).p (12 : Int) == (1 : Int)) (ifb (rdOk (List.take (2000 : Nat) c) ((dVal (List.take (2000 : Nat) c) (dBase (List.take (2000 : Nat) c) (0 : Int)).p (dBase (List.take (2000 : Nat) c) (0 : Int)).ks (dBase (List.take (2000 : Nat) c) (0 : Int)).ps (4 : Int)).p + (1 : Int))) (ifb (decide (List.length (ofV (List.take (2000 : Nat) c) ((dVal (List.take (2000 : Nat) c) (dBase (List.take (2000 : Nat) c) (0 : Int)).p (dBase (List.take (2000 : Nat) c) (0 : Int)).ks (dBase (List.take (2000 : Nat) c) (0 : Int)).ps (4 : Int)).p + (1 : Int)) bad12) ≤ (1000000000 : Nat))) (some (.ret (.tup [.agg [.sl .kind ((dBase (List.take (2000 : Nat) c) (0 : Int)).ks), .sl .point ((dBase (List.take (2000 : Nat) c) (0 : Int)).ps)], .sl .str (cutS (32 : Int) (ofV (List.take (2000 : Nat) c) ((dVal (List.take (2000 : Nat) c) (dBase (List.take (2000 : Nat) c) (0 : Int)).p (dBase (List.take (2000 : Nat) c) (0 : Int)).ks (dBase (List.take (2000 : Nat) c) (0 : Int)).ps (4 : Int)).p + (1 : Int)) bad12))]) [])) (none)) (none)) (some (.ret (.tup [.agg [.sl .kind ((dBase (List.take (2000 : Nat) c) (0 : Int)).ks), .sl .point ((dBase (List.take (2000 : Nat) c) (0 : Int)).ps)], .sl .str (cutS (32 : Int) (dVal (List.take (2000 : Nat) c) (dBase (List.take (2000 : Nat) c) (0 : Int)).p (dBase (List.take (2000 : Nat) c) (0 : Int)).ks (dBase (List.take (2000 : Nat) c) (0 : Int)).ps (4 : Int)).s)]) [])))) (none)) (none)) (none)) (none) := by kernel_rfl
theorem Qkhd (c : List Int) (hg : Qf9o c = true) : Qewq Tryz.prog CP Qaxv [.sl .u8 c] [] (.tup [.agg [.sl .kind (Qq37 c).ks, .sl .point (Qq37 c).ps], .sl .str (Qq37 c).l]) [] ∧ Qxdq (Qq37 c) := by
 have hbs := Qz2g hg 2000
 have hr : rdK (c.take 2000) 0 = true := by simp only [rdK, Bool.and_eq_true, decide_eq_true_eq]; exact ⟨hbs, by omega, by omega⟩
 have rd : ∀ q : Int, 0 ≤ q → q ≤ 900000 → rdOk (c.take 2000) q = true := fun q h1 h2 => by rw [rdOk, hbs, Q8s4 h1 (by omega)]; rfl
 obtain ⟨b1, b2, b3, b4, b5⟩ := (Q46n (c.take 2000) 0 hr).2
 have hE : CallE Qdrj.P Qdrj.C Qaxv [.sl .u8 c] [] (fun v h => ∃ x : CeP, v = (.tup [.agg [.sl .kind x.ks, .sl .point x.ps], .sl .str x.l]) ∧ h = [] ∧ Qxdq x) := by
  refine CallE.of Qn3j (by kernel_rfl) (Qf0g c) ?_
  generalize dBase (c.take 2000) 0 = z at *
  have b1' := b1
  simp only [Qib4, Bool.and_eq_true, decide_eq_true_eq] at b1'
  obtain ⟨k2, s2, _⟩ := b1'
  have hv : valK (c.take 2000) z.p z.ks z.ps = true := by simp only [valK, rdK, Bool.and_eq_true, decide_eq_true_eq]; exact ⟨⟨hbs, by omega, by omega⟩, (Qd1y b1).1, (Qd1y b1).2, b3⟩
  obtain ⟨v1, v2, v3⟩ := (Qpyo (c.take 2000) z.p z.ks z.ps 4 hv).2
  generalize dVal (c.take 2000) z.p z.ks z.ps 4 = y at *
  have hk : spK (c.take 2000) (y.p + 1) z.ks z.ps = true := by simp only [spK, Bool.and_eq_true, decide_eq_true_eq]; exact ⟨hbs, by omega, by omega, b2, by omega, b3, by omega, (Qd1y b1).2⟩
  obtain ⟨d1, d2, _, _, _⟩ := (Qtjp (c.take 2000) (y.p + 1) z.ks z.ps hk).2
  have hc := Qtox 32 y.s
  have ho : (ofV (c.take 2000) (y.p + 1) bad12).length ≤ 100 := Qgo3 (M := 100) (by rfl)
  have hc2 := Qtox 32 (ofV (c.take 2000) (y.p + 1) bad12)
  refine SatE.need hr (SatE.need hv (SatE.need (decide_eq_true (by omega)) (SatE.need (Q8s4 (by omega) (by omega)) (SatE.ifb (fun _ => ?_) (fun _ => SatE.ifb (fun _ => ?_) (fun _ => ?_))))))
  ·exact SatE.need hk (SatE.ret ⟨⟨_, _, _⟩, rfl, rfl, d1, d2, Nat.le_trans hc (by omega)⟩)
  ·exact SatE.need (rd _ (by omega) (by omega)) (SatE.need (decide_eq_true (by omega)) (SatE.ret ⟨⟨_, _, _⟩, rfl, rfl, Nat.le_trans k2 (by omega), Nat.le_trans s2 (by omega), Nat.le_trans hc2 (by omega)⟩))
  ·exact SatE.ret ⟨⟨_, _, _⟩, rfl, rfl, Nat.le_trans k2 (by omega), Nat.le_trans s2 (by omega), Nat.le_trans hc (by omega)⟩
 obtain ⟨v, H', h, x, rfl, rfl, hx⟩ := hE
 exact Qk78 (p := fun x : CeP => Qewq Tryz.prog CP Qaxv [.sl .u8 c] [] (.tup [.agg [.sl .kind x.ks, .sl .point x.ps], .sl .str x.l]) [] ∧ Qxdq x) ⟨x, h, hx⟩
theorem Qy8e (c : List Int) (hg : Qf9o c = true) : Qewq Tryz.prog CP Qaxv [.sl .u8 c] [] (.tup [.agg [.sl .kind (Qq37 c).ks, .sl .point (Qq37 c).ps], .sl .str (Qq37 c).l]) [] := by
 exact (Qkhd c hg).1
theorem Qzbd : EntOK Tryz.prog CP Qaxv Q215 := by
 refine ⟨⟨Tryz.f35, by kernel_rfl, by kernel_rfl, by kernel_rfl⟩, fun args H res H' h => ?_⟩
 simp only [Q215] at h
 split at h
 ·simp only [Option.some.injEq, Prod.mk.injEq] at h
  obtain ⟨hg, rfl, rfl⟩ := h
  exact Qy8e _ hg
 ·cases h
end Lx
/- Cells of a route (spec). -/
namespace Lx
open Go Go.Proofs
noncomputable def Qj19 : RE Ty El := ⟨Tryz.prog, CP, [(Qxas, Qm9f), (Qyzi, Qqwh), (Qw65, Qziw), (Qc7b, Qusy)], Tryz.f37, 0, [.ro .cell, .any], [(6, [(1, .any), (2, .any), (6, .any), (7, .any)])]⟩
theorem Qi4t : REOK Qj19 Qy6j := ⟨CP_ok, (TabOK.cons Q8a6 (TabOK.cons Qhq3 (TabOK.cons Qn01 (TabOK.cons Qj3q Qye1)))), by kernel_rfl, by kernel_rfl⟩
theorem Qidt (ks : List Kind) (ps : List Point) (w : List Str) : aRun Qj19 600 false (body0 Qj19.fn) (Q4gm Qj19.fn [.agg [.sl .kind ks, .sl .point ps], .sl .str w] []) =
 ifb (!Qib4 ks ps) (some (.ret (.tup [.sl .cell [], .bool false]) [])) (ifb (decide (ps.length < (1000000000 : Nat))) (ifb (!Qyhl ps w) (some (.ret (.tup [.sl .cell [], .bool false]) [])) (ifb (inb (0 : Int) w.length) (ifb (decide (ps.length < (1000000000 : Nat)) && decide ((0 : Int) ≤ Qigq ps (w.getD (Int.toNat (0 : Int)) (Qj19.C.dflt Ty.str)))) (some (.go (Qu6t Qj19.fn 6) [.sl .str w, .ptr 0 0, .own 1 [] 0, .int .i64 (1 : Int)] [.box [.sl .kind ks, .sl .point ps], .row .cell ([] ++ [Cell.mk (ps.getD (Qigq ps (w.getD (Int.toNat (0 : Int)) (Qj19.C.dflt Ty.str))).toNat default).x (ps.getD (Qigq ps (w.getD (Int.toNat (0 : Int)) (Qj19.C.dflt Ty.str))).toNat default).y]) 0 0 0 .no])) (none)) (none))) (none)) := by kernel_rfl
theorem Q5gk (x0 : List (El .str)) (x1 : Int) (x2 : List (El .kind)) (x3 : List (El .point)) (x4 : List (El .cell)) : aRun Qj19 600 true (Qu6t Qj19.fn 6) (cutSt Qj19.fn (Q1m4 Qj19 (Qu6t Qj19.fn 6)) [.sl .str x0, .ptr 0 0, .own 1 [] 0, .int .i64 x1] [.box [.sl .kind x2, .sl .point x3], .row .cell x4 0 0 0 .no]) =
 ifb (decide (x1 < (↑x0.length : Int))) (ifb (inb (IntKind.i64.wrap (x1 - (1 : Int))) x0.length) (ifb (decide (x3.length < (1000000000 : Nat)) && decide ((0 : Int) ≤ Qigq x3 (x0.getD (IntKind.i64.wrap (x1 - (1 : Int))).toNat (Qj19.C.dflt Ty.str)))) (ifb (inb x1 x0.length) (ifb (decide (x3.length < (1000000000 : Nat)) && decide ((0 : Int) ≤ Qigq x3 (x0.getD x1.toNat (Qj19.C.dflt Ty.str)))) (ifb (Qlxz (Cell.mk (x3.getD (Qigq x3 (x0.getD (IntKind.i64.wrap (x1 - (1 : Int))).toNat (Qj19.C.dflt Ty.str))).toNat default).x (x3.getD (Qigq x3 (x0.getD (IntKind.i64.wrap (x1 - (1 : Int))).toNat (Qj19.C.dflt Ty.str))).toNat default).y) && Qlxz (Cell.mk (x3.getD (Qigq x3 (x0.getD x1.toNat (Qj19.C.dflt Ty.str))).toNat default).x (x3.getD (Qigq x3 (x0.getD x1.toNat (Qj19.C.dflt Ty.str))).toNat default).y)) (ifb (decide ((0 : Int) ≤ (1 : Int)) && (decide ((1 : Int) ≤ (↑(Qppc (Cell.mk (x3.getD (Qigq x3 (x0.getD (IntKind.i64.wrap (x1 - (1 : Int))).toNat (Qj19.C.dflt Ty.str))).toNat default).x (x3.getD (Qigq x3 (x0.getD (IntKind.i64.wrap (x1 - (1 : Int))).toNat (Qj19.C.dflt Ty.str))).toNat default).y) (Cell.mk (x3.getD (Qigq x3 (x0.getD x1.toNat (Qj19.C.dflt Ty.str))).toNat default).x (x3.getD (Qigq x3 (x0.getD x1.toNat (Qj19.C.dflt Ty.str))).toNat default).y)).length : Int)) && decide ((↑(Qppc (Cell.mk (x3.getD (Qigq x3 (x0.getD (IntKind.i64.wrap (x1 - (1 : Int))).toNat (Qj19.C.dflt Ty.str))).toNat default).x (x3.getD (Qigq x3 (x0.getD (IntKind.i64.wrap (x1 - (1 : Int))).toNat (Qj19.C.dflt Ty.str))).toNat default).y) (Cell.mk (x3.getD (Qigq x3 (x0.getD x1.toNat (Qj19.C.dflt Ty.str))).toNat default).x (x3.getD (Qigq x3 (x0.getD x1.toNat (Qj19.C.dflt Ty.str))).toNat default).y)).length : Int) ≤ (↑(Qppc (Cell.mk (x3.getD (Qigq x3 (x0.getD (IntKind.i64.wrap (x1 - (1 : Int))).toNat (Qj19.C.dflt Ty.str))).toNat default).x (x3.getD (Qigq x3 (x0.getD (IntKind.i64.wrap (x1 - (1 : Int))).toNat (Qj19.C.dflt Ty.str))).toNat default).y) (Cell.mk (x3.getD (Qigq x3 (x0.getD x1.toNat (Qj19.C.dflt Ty.str))).toNat default).x (x3.getD (Qigq x3 (x0.getD x1.toNat (Qj19.C.dflt Ty.str))).toNat default).y)).length : Int)))) (ifb (decide ((x4.length + (List.take ((↑(Qppc (Cell.mk (x3.getD (Qigq x3 (x0.getD (IntKind.i64.wrap (x1 - (1 : Int))).toNat (Qj19.C.dflt Ty.str))).toNat default).x (x3.getD (Qigq x3 (x0.getD (IntKind.i64.wrap (x1 - (1 : Int))).toNat (Qj19.C.dflt Ty.str))).toNat default).y) (Cell.mk (x3.getD (Qigq x3 (x0.getD x1.toNat (Qj19.C.dflt Ty.str))).toNat default).x (x3.getD (Qigq x3 (x0.getD x1.toNat (Qj19.C.dflt Ty.str))).toNat default).y)).length : Int).toNat - Int.toNat (1 : Int)) (List.drop (Int.toNat (1 : Int)) (Qppc (Cell.mk (x3.getD (Qigq x3 (x0.getD (IntKind.i64.wrap (x1 - (1 : Int))).toNat (Qj19.C.dflt Ty.str))).toNat default).x (x3.getD (Qigq x3 (x0.getD (IntKind.i64.wrap (x1 - (1 : Int))).toNat (Qj19.C.dflt Ty.str))).toNat default).y) (Cell.mk (x3.getD (Qigq x3 (x0.getD x1.toNat (Qj19.C.dflt Ty.str))).toNat default).x (x3.getD (Qigq x3 (x0.getD x1.toNat (Qj19.C.dflt Ty.str))).toNat default).y)))).length) * Qbhn Qj19.P (72 : Nat) ≤ (140737488355328 : Nat))) (some (.go (Qu6t Qj19.fn 6) [.sl .str x0, .ptr 0 0, .own 1 [] 0, .int .i64 (IntKind.i64.wrap (x1 + (1 : Int)))] [.box [.sl .kind x2, .sl .point x3], .row .cell (x4 ++ List.take ((↑(Qppc (Cell.mk (x3.getD (Qigq x3 (x0.getD (IntKind.i64.wrap (x1 - (1 : Int))).toNat (Qj19.C.dflt Ty.str))).toNat default).x (x3.getD (Qigq x3 (x0.getD (IntKind.i64.wrap (x1 - (1 : Int))).toNat (Qj19.C.dflt Ty.str))).toNat default).y) (Cell.mk (x3.getD (Qigq x3 (x0.getD x1.toNat (Qj19.C.dflt Ty.str))).toNat default).x (x3.getD (Qigq x3 (x0.getD x1.toNat (Qj19.C.dflt Ty.str))).toNat default).y)).length : Int).toNat - Int.toNat (1 : Int)) (List.drop (Int.toNat (1 : Int)) (Qppc (Cell.mk (x3.getD (Qigq x3 (x0.getD (IntKind.i64.wrap (x1 - (1 : Int))).toNat (Qj19.C.dflt Ty.str))).toNat default).x (x3.getD (Qigq x3 (x0.getD (IntKind.i64.wrap (x1 - (1 : Int))).toNat (Qj19.C.dflt Ty.str))).toNat default).y) (Cell.mk (x3.getD (Qigq x3 (x0.getD x1.toNat (Qj19.C.dflt Ty.str))).toNat default).x (x3.getD (Qigq x3 (x0.getD x1.toNat (Qj19.C.dflt Ty.str))).toNat default).y)))) 0 0 0 .no])) (none)) (none)) (none)) (none)) (none)) (none)) (none)) (ifb (decide ((↑x4.length : Int) > (40 : Int))) (some (.ret (.tup [.sl .cell [], .bool false]) [])) (some (.ret (.tup [.sl .cell x4, .bool true]) []))) := by kernel_rfl
theorem Qfvv (ks : List Kind) (ps : List Point) (w : List Str) (hb : Qib4 ks ps = true) (hr : Qyhl ps w = true) : ∀ (d i : Nat), i + d = w.length → 1 ≤ i → (Qya3 ps w (i - 1)).length ≤ 1 + 200 * i →
  Cut Qj19 Qy6j 6 [.sl .str w, .ptr 0 0, .own 1 [] 0, .int .i64 (i : Int)] [.box [.sl .kind ks, .sl .point ps], .row .cell (Qya3 ps w (i - 1)) 0 0 0 .no] (Qkcc (Qqfy ks ps w)) [] := by
 have hbs : Qbhn Qj19.P 72 = 16 := by kernel_rfl
 obtain ⟨hw2, hw8, hall⟩ := Quu2 hr
 have hp16 := (Qrzz hb).2
 intro d
 induction d with
 | zero =>
  intro i hi h1 hlen
  refine Cut.of Qi4t rfl (Q5gk w i ks ps _) ?_
  rw [decide_eq_false (by omega), Qk7y]
  have e : w.length - 1 = i - 1 := by omega
  by_cases h40 : (Qya3 ps w (i - 1)).length ≤ 40
  ·rw [decide_eq_false (by omega)]
   refine Sat.ret ?_ rfl
   rw [Qqfy, if_pos ⟨hb, hr, by rw [e]; exact h40⟩, e]; rfl
  ·rw [decide_eq_true (by omega)]
   refine Sat.ret ?_ rfl
   rw [Qqfy, if_neg (fun h => h40 (by rw [← e]; exact h.2.2))]; rfl
 | succ d ih =>
  intro i hi h1 hlen
  refine Cut.of Qi4t rfl (Q5gk w i ks ps _) ?_
  have hlt : i < w.length := by omega
  have hlt1 : i - 1 < w.length := by omega
  have hw : IntKind.wrap .i64 ((i : Int) + 1) = ((i + 1 : Nat) : Int) := by rw [Qbrg] <;> omega
  have hw1 : IntKind.wrap .i64 ((i : Int) - 1) = (i : Int) - 1 := by rw [Qbrg] <;> omega
  have hdf : Qj19.C.dflt Ty.str = ([] : Str) := rfl
  have e1 : ((i : Int) - 1).toNat = i - 1 := by omega
  have e2 : (i : Int).toNat = i := by omega
  have i0 : inb ((i : Int) - 1) w.length = true := by simp only [inb, Bool.and_eq_true, decide_eq_true_eq]; omega
  have i1 : inb (i : Int) w.length = true := by simp only [inb, Bool.and_eq_true, decide_eq_true_eq]; omega
  have m0 : w.getD (i - 1) [] ∈ w := by rw [List.getD_eq_getElem?_getD, List.getElem?_eq_getElem hlt1]; exact List.getElem_mem hlt1
  have m1 : w.getD i [] ∈ w := by rw [List.getD_eq_getElem?_getD, List.getElem?_eq_getElem hlt]; exact List.getElem_mem hlt
  have hc : ∀ n, Cell.mk (ps.getD (Qigq ps n).toNat default).x (ps.getD (Qigq ps n).toNat default).y = Qg2m ps n := fun n => rfl
  have hl := Qek1 (a := Qg2m ps (w.getD (i - 1) [])) (b := Qg2m ps (w.getD i []))
  have hln := Q1tq (Qgjr hb (hall _ m0)) (Qgjr hb (hall _ m1))
  have ht : (Qppc (Qg2m ps (w.getD (i - 1) [])) (Qg2m ps (w.getD i []))).drop 1 = tailC ps w (i - 1) := by
   unfold tailC
   rw [show i - 1 + 1 = i by omega]
  have htl : (tailC ps w (i - 1)).length ≤ 100 := by rw [← ht, List.length_drop]; omega
  have e3 : ∀ l : List Cell, l.take ((l.length : Int).toNat - Int.toNat 1) = l.take (l.length - 1) := fun l => by rfl
  rw [hw, hw1, hdf, e1, e2, i0, i1, hc, hc, Qgjr hb (hall _ m0), Qgjr hb (hall _ m1), hbs, decide_eq_true (hall _ m0), decide_eq_true (hall _ m1), decide_eq_true (by omega : (i : Int) < (w.length : Int)), decide_eq_true (by omega : ps.length < 1000000000)]
  have e4 : (((Qppc (Qg2m ps (w.getD (i - 1) [])) (Qg2m ps (w.getD i []))).drop (Int.toNat 1)).take (((Qppc (Qg2m ps (w.getD (i - 1) [])) (Qg2m ps (w.getD i []))).length : Int).toNat - Int.toNat 1)) = tailC ps w (i - 1) := by
   rw [show (Int.toNat 1) = 1 from rfl, ht]
   exact List.take_of_length_le (by rw [← ht, List.length_drop]; omega)
  rw [e4]
  have hroom : decide (((Qya3 ps w (i - 1)).length + (tailC ps w (i - 1)).length) * 16 ≤ 140737488355328) = true := decide_eq_true (by omega)
  rw [hroom, decide_eq_true (by omega : (1 : Int) ≤ ((Qppc (Qg2m ps (w.getD (i - 1) [])) (Qg2m ps (w.getD i []))).length : Int)), decide_eq_true (Int.le_refl ((Qppc (Qg2m ps (w.getD (i - 1) [])) (Qg2m ps (w.getD i []))).length : Int))]
  have := ih (i + 1) (by omega) (by omega) (by
   rw [show i + 1 - 1 = (i - 1) + 1 by omega, Q0oy, List.length_append]; omega)
  rw [show i + 1 - 1 = (i - 1) + 1 by omega, Q0oy] at this
  exact Sat.cut this
theorem Qccf (ks : List Kind) (ps : List Point) (w : List Str) (hg : decide (ps.length < 1000000000) = true) : Qewq Tryz.prog CP Qy6j [.agg [.sl .kind ks, .sl .point ps], .sl .str w] [] (Qkcc (Qqfy ks ps w)) [] := by
 refine Qewq.of Qi4t (by kernel_rfl) (Qidt ks ps w) ?_
 have no : Qqfy ks ps w = none → Sat Qj19 Qy6j (Qkcc (Qqfy ks ps w)) [] (some (.ret (.tup [.sl .cell [], .bool false]) [])) := fun h => by
  rw [h]; exact Sat.ret rfl rfl
 rw [hg]
 cases hb : Qib4 ks ps with
 | false => exact no (by rw [Qqfy, hb]; simp)
 | true =>
  cases hr : Qyhl ps w with
  | false => exact no (by rw [Qqfy, hr]; simp)
  | true =>
   obtain ⟨hw2, hw8, hall⟩ := Quu2 hr
   have hlt : 0 < w.length := by omega
   have m0 : w.getD 0 [] ∈ w := by rw [List.getD_eq_getElem?_getD, List.getElem?_eq_getElem hlt]; exact List.getElem_mem hlt
   have hdf : Qj19.C.dflt Ty.str = ([] : Str) := rfl
   have i0 : inb (0 : Int) w.length = true := by simp only [inb, Bool.and_eq_true, decide_eq_true_eq]; omega
   have := Qfvv ks ps w hb hr (w.length - 1) 1 (by omega) (Nat.le_refl _) (by simp [Qya3])
   rw [hdf, i0, show Int.toNat 0 = 0 from rfl, decide_eq_true (hall _ m0)]
   exact Sat.cut this
theorem Qler : EntOK Tryz.prog CP Qy6j Q49v := by
 refine ⟨⟨Tryz.f37, by kernel_rfl, by kernel_rfl, by kernel_rfl⟩, fun args H res H' h => ?_⟩
 simp only [Q49v] at h
 split at h
 ·simp only [Option.some.injEq, Prod.mk.injEq] at h
  obtain ⟨hg, rfl, rfl⟩ := h
  exact Qccf _ _ _ hg
 ·cases h
end Lx
/- Meanings: legs as the program makes them. -/
namespace Lx
open Go Go.Proofs
def Qfh3 : Ent Ty El := ⟨[.io], 0, fun a h => match a, h with
 | [.own 0 [] 0], [.row .pair xs 0 0 0 .no] => some (decide (xs.length ≤ 1000000), .tup [], [.row .pair xs.reverse 0 0 0 .no])
 | _, _ => none⟩
def Q4ps : Ent Ty El := ⟨[.ro, .ro, .ro, .ro], 0, fun a h => match a, h with
 | [.int .i64 ax, .int .i64 ay, .int .i64 bx, .int .i64 b_y], [] => some (Qlxz ⟨ax, ay⟩ && Qlxz ⟨bx, b_y⟩, .sl .pair (Qppc ⟨ax, ay⟩ ⟨bx, b_y⟩), [])
 | _, _ => none⟩
end Lx
/- Rows turned round. -/
namespace Lx
open Go Go.Proofs
noncomputable def Qcnr : RE Ty El := ⟨Tryz.prog, CP, [], Tryz.f194, 1, [], [(1, [(0, .any), (2, .any), (3, .any)])]⟩
theorem Qxwm : REOK Qcnr Q7g8 := ⟨CP_ok, Qye1, by kernel_rfl, by kernel_rfl⟩
theorem Q258 (xs : List Cell) : aRun Qcnr 600 false (body0 Qcnr.fn) (Q4gm Qcnr.fn [.own 0 [] 0] [.row .pair xs 0 0 0 .no]) =
 some (.go (Qu6t Qcnr.fn 1) [.own 0 [] 0, .int .i64 (0 : Int), .int .i64 (IntKind.i64.wrap ((↑xs.length : Int) - (1 : Int)))] [.row .pair xs 0 0 0 .no]) := by kernel_rfl
theorem Qb4z (x0 : Int) (x1 : Int) (x2 : List (El .pair)) : aRun Qcnr 600 true (Qu6t Qcnr.fn 1) (cutSt Qcnr.fn (Q1m4 Qcnr (Qu6t Qcnr.fn 1)) [.own 0 [] 0, .int .i64 x0, .int .i64 x1] [.row .pair x2 0 0 0 .no]) =
 ifb (decide (x0 < x1)) (ifb (inb x1 x2.length) (ifb (inb x0 x2.length) (ifb (inb x0 x2.length) (ifb (inb x1 (x2.set x0.toNat (x2.getD x1.toNat (Qcnr.C.dflt Ty.pair))).length) (some (.go (Qu6t Qcnr.fn 1) [.own 0 [] 0, .int .i64 (IntKind.i64.wrap (x0 + (1 : Int))), .int .i64 (IntKind.i64.wrap (x1 - (1 : Int)))] [.row .pair ((x2.set x0.toNat (x2.getD x1.toNat (Qcnr.C.dflt Ty.pair))).set x1.toNat (x2.getD x0.toNat (Qcnr.C.dflt Ty.pair))) 0 0 0 .no])) (none)) (none)) (none)) (none)) (some (.ret (.tup []) [.row .pair x2 0 0 0 .no])) := by kernel_rfl
theorem Q4dl (xs : List Cell) (hn : xs.length ≤ 1000000) : ∀ (d i : Nat) (ys : List Cell), 2 * (i + d) = xs.length ∨ 2 * (i + d) + 1 = xs.length → ys.length = xs.length →
  (∀ j, j < xs.length → ys[j]? = if j < i ∨ xs.length - i ≤ j then xs[xs.length - 1 - j]? else xs[j]?) →
  Cut Qcnr Q7g8 1 [.own 0 [] 0, .int .i64 (i : Int), .int .i64 ((xs.length : Int) - 1 - i)] [.row .pair ys 0 0 0 .no] (.tup []) [.row .pair xs.reverse 0 0 0 .no] := by
 intro d
 induction d with
 | zero =>
  intro i ys hi hl hinv
  refine Cut.of Qxwm rfl (Qb4z i _ ys) ?_
  rw [decide_eq_false (by omega)]
  have : ys = xs.reverse := by
   apply List.ext_getElem?
   intro j
   by_cases hj : j < xs.length
   ·rw [hinv j hj, List.getElem?_reverse hj]
    split
    ·rfl
    ·have : j = xs.length - 1 - j := by omega
     rw [← this]
   ·rw [List.getElem?_eq_none (by omega), List.getElem?_eq_none (by simp; omega)]
  rw [this]
  exact Sat.ret rfl rfl
 | succ d ih =>
  intro i ys hi hl hinv
  refine Cut.of Qxwm rfl (Qb4z i _ ys) ?_
  have hk : ((xs.length : Int) - 1 - i) = ((xs.length - 1 - i : Nat) : Int) := by omega
  rw [hk]
  have hi1 : i < ys.length := by omega
  have hi2 : xs.length - 1 - i < ys.length := by omega
  have w1 : IntKind.wrap .i64 ((i : Int) + 1) = ((i + 1 : Nat) : Int) := by rw [Qbrg] <;> omega
  have w2 : IntKind.wrap .i64 (((xs.length - 1 - i : Nat) : Int) - 1) = (xs.length : Int) - 1 - ((i + 1 : Nat) : Int) := by rw [Qbrg] <;> omega
  have i1 : inb (i : Int) ys.length = true := by simp only [inb, Bool.and_eq_true, decide_eq_true_eq]; omega
  have i2 : inb ((xs.length - 1 - i : Nat) : Int) ys.length = true := by simp only [inb, Bool.and_eq_true, decide_eq_true_eq]; omega
  rw [w1, w2, Int.toNat_natCast, Int.toNat_natCast, List.length_set, i1, i2, decide_eq_true (by omega : (i : Int) < ((xs.length - 1 - i : Nat) : Int))]
  simp only [Qd8q]
  refine Sat.cut (ih (i + 1) _ (by omega) (by simp [hl]) fun j hj => ?_)
  have e1 := hinv i (by omega)
  have e2 := hinv (xs.length - 1 - i) (by omega)
  rw [if_neg (by omega)] at e1 e2
  have g1 : ys.getD i (Qcnr.C.dflt .pair) = xs[i] := by
   rw [List.getD_eq_getElem?_getD, e1, List.getElem?_eq_getElem (by omega)]; rfl
  have g2 : ys.getD (xs.length - 1 - i) (Qcnr.C.dflt .pair) = xs[xs.length - 1 - i] := by
   rw [List.getD_eq_getElem?_getD, e2, List.getElem?_eq_getElem (by omega)]; rfl
  rw [g1, g2, List.getElem?_set, List.length_set]
  by_cases h1 : xs.length - 1 - i = j
  ·rw [if_pos h1, if_pos (by omega), if_pos (by omega)]
   have : xs.length - 1 - j = i := by omega
   rw [this, List.getElem?_eq_getElem (by omega)]
  ·rw [if_neg h1, List.getElem?_set]
   by_cases h2 : i = j
   ·rw [if_pos h2, if_pos (by omega), if_pos (by omega)]
    subst h2
    rw [List.getElem?_eq_getElem (by omega)]
   ·rw [if_neg h2, hinv j hj]
    by_cases h3 : j < i ∨ xs.length - i ≤ j
    ·rw [if_pos h3, if_pos (by omega)]
    ·rw [if_neg h3, if_neg (by omega)]
theorem Qeby (xs : List Cell) (hg : decide (xs.length ≤ 1000000) = true) : Qewq Tryz.prog CP Q7g8 [.own 0 [] 0] [.row .pair xs 0 0 0 .no] (.tup []) [.row .pair xs.reverse 0 0 0 .no] := by
 refine Qewq.of Qxwm (by kernel_rfl) (Q258 xs) ?_
 have hn := of_decide_eq_true hg
 have hw : IntKind.wrap .i64 ((xs.length : Int) - 1) = (xs.length : Int) - 1 - ((0 : Nat) : Int) := by rw [Qbrg] <;> omega
 rw [hw]
 exact Sat.cut (Q4dl xs hn (xs.length / 2) 0 xs (by omega) rfl fun j hj => by rw [if_neg (by omega)])
theorem Qfqf : EntOK Tryz.prog CP Q7g8 Qfh3 := by
 refine ⟨⟨Tryz.f194, by kernel_rfl, by kernel_rfl, by kernel_rfl⟩, fun args H res H' h => ?_⟩
 simp only [Qfh3] at h
 split at h
 ·simp only [Option.some.injEq, Prod.mk.injEq] at h
  obtain ⟨hg, rfl, rfl⟩ := h
  exact Qeby _ hg
 ·cases h
end Lx
/- Legs, as the program makes them. -/
namespace Lx
open Go Go.Proofs
noncomputable def Qypi : RE Ty El := ⟨Tryz.prog, CP, [(Qsnv, Q0fp), (Quuj, Qcry), (Q7g8, Qfh3)], Tryz.f122, 0, [.ro .pair], [(7, [(0, .any), (1, .any), (2, .any), (3, .any), (9, .any), (10, .any), (11, .any), (12, .any)])]⟩
theorem Q3u7 : REOK Qypi Qdu7 := ⟨CP_ok, (TabOK.cons Qslm (TabOK.cons Qu8a (TabOK.cons Qfqf Qye1))), by kernel_rfl, by kernel_rfl⟩
theorem Qu1n (ax ay bx b_y : Int) : aRun Qypi 600 false (body0 Qypi.fn) (Q4gm Qypi.fn [.int .i64 ax, .int .i64 ay, .int .i64 bx, .int .i64 b_y] []) =
 ifb (decide (ax > bx)) (ifb (Q0d5 bx && Q0d5 ax) (ifb (Q0d5 b_y && Q0d5 ay) (some (.go (Qu6t Qypi.fn 7) [.int .i64 bx, .int .i64 b_y, .int .i64 ax, .int .i64 ay, .bool true, .int .i64 (max2A (↑(bx - ax).natAbs : Int) (↑(b_y - ay).natAbs : Int)), .own 0 [] 0, .int .i64 (0 : Int)] [.row .pair [] 0 0 0 .no])) (none)) (none)) (ifb (ax == bx) (ifb (decide (ay > b_y)) (ifb (Q0d5 bx && Q0d5 ax) (ifb (Q0d5 b_y && Q0d5 ay) (some (.go (Qu6t Qypi.fn 7) [.int .i64 bx, .int .i64 b_y, .int .i64 ax, .int .i64 ay, .bool (decide (ay > b_y)), .int .i64 (max2A (↑(bx - ax).natAbs : Int) (↑(b_y - ay).natAbs : Int)), .own 0 [] 0, .int .i64 (0 : Int)] [.row .pair [] 0 0 0 .no])) (none)) (none)) (ifb (Q0d5 ax && Q0d5 bx) (ifb (Q0d5 ay && Q0d5 b_y) (some (.go (Qu6t Qypi.fn 7) [.int .i64 ax, .int .i64 ay, .int .i64 bx, .int .i64 b_y, .bool (decide (ay > b_y)), .int .i64 (max2A (↑(ax - bx).natAbs : Int) (↑(ay - b_y).natAbs : Int)), .own 0 [] 0, .int .i64 (0 : Int)] [.row .pair [] 0 0 0 .no])) (none)) (none))) (ifb (Q0d5 ax && Q0d5 bx) (ifb (Q0d5 ay && Q0d5 b_y) (some (.go (Qu6t Qypi.fn 7) [.int .i64 ax, .int .i64 ay, .int .i64 bx, .int .i64 b_y, .bool false, .int .i64 (max2A (↑(ax - bx).natAbs : Int) (↑(ay - b_y).natAbs : Int)), .own 0 [] 0, .int .i64 (0 : Int)] [.row .pair [] 0 0 0 .no])) (none)) (none))) := by kernel_rfl
theorem Qi6n (x0 : Int) (x1 : Int) (x2 : Int) (x3 : Int) (x4 : Bool) (x5 : Int) (x6 : Int) (x7 : List (El .pair)) : aRun Qypi 600 true (Qu6t Qypi.fn 7) (cutSt Qypi.fn (Q1m4 Qypi (Qu6t Qypi.fn 7)) [.int .i64 x0, .int .i64 x1, .int .i64 x2, .int .i64 x3, .bool x4, .int .i64 x5, .own 0 [] 0, .int .i64 x6] [.row .pair x7 0 0 0 .no]) =
 ifb (decide (x6 ≤ x5)) (ifb (x5 == (0 : Int)) (ifb (decide ((x7.length + [Cell.mk x0 x1].length) * Qbhn Qypi.P (170 : Nat) ≤ (140737488355328 : Nat))) (ifb x4 (ifb (decide ((x7 ++ [Cell.mk x0 x1]).length ≤ (1000000 : Nat))) (some (.ret (.sl .pair ((x7 ++ [Cell.mk x0 x1]).reverse)) [])) (none)) (some (.ret (.sl .pair (x7 ++ [Cell.mk x0 x1])) []))) (none)) (ifb (Q0d5 (IntKind.i64.wrap (IntKind.i64.wrap (IntKind.i64.wrap ((2 : Int) * x6) * IntKind.i64.wrap (x2 - x0)) + x5)) && (Q0d5 (IntKind.i64.wrap ((2 : Int) * x5)) && decide ((0 : Int) < IntKind.i64.wrap ((2 : Int) * x5)))) (ifb (Q0d5 (IntKind.i64.wrap (IntKind.i64.wrap (IntKind.i64.wrap ((2 : Int) * x6) * IntKind.i64.wrap (x3 - x1)) + x5)) && (Q0d5 (IntKind.i64.wrap ((2 : Int) * x5)) && decide ((0 : Int) < IntKind.i64.wrap ((2 : Int) * x5)))) (ifb (decide ((x7.length + [Cell.mk (IntKind.i64.wrap (x0 + IntKind.i64.wrap (IntKind.i64.wrap (IntKind.i64.wrap ((2 : Int) * x6) * IntKind.i64.wrap (x2 - x0)) + x5) / IntKind.i64.wrap ((2 : Int) * x5))) (IntKind.i64.wrap (x1 + IntKind.i64.wrap (IntKind.i64.wrap (IntKind.i64.wrap ((2 : Int) * x6) * IntKind.i64.wrap (x3 - x1)) + x5) / IntKind.i64.wrap ((2 : Int) * x5)))].length) * Qbhn Qypi.P (170 : Nat) ≤ (140737488355328 : Nat))) (some (.go (Qu6t Qypi.fn 7) [.int .i64 x0, .int .i64 x1, .int .i64 x2, .int .i64 x3, .bool x4, .int .i64 x5, .own 0 [] 0, .int .i64 (IntKind.i64.wrap (x6 + (1 : Int)))] [.row .pair (x7 ++ [Cell.mk (IntKind.i64.wrap (x0 + IntKind.i64.wrap (IntKind.i64.wrap (IntKind.i64.wrap ((2 : Int) * x6) * IntKind.i64.wrap (x2 - x0)) + x5) / IntKind.i64.wrap ((2 : Int) * x5))) (IntKind.i64.wrap (x1 + IntKind.i64.wrap (IntKind.i64.wrap (IntKind.i64.wrap ((2 : Int) * x6) * IntKind.i64.wrap (x3 - x1)) + x5) / IntKind.i64.wrap ((2 : Int) * x5)))]) 0 0 0 .no])) (none)) (none)) (none))) (ifb x4 (ifb (decide (x7.length ≤ (1000000 : Nat))) (some (.ret (.sl .pair x7.reverse) [])) (none)) (some (.ret (.sl .pair x7) []))) := by kernel_rfl
theorem Qefh (a b : Cell) (t : Bool) (ha : Qlxz a = true) (hb : Qlxz b = true) : ∀ (d k : Nat), k + d = legN a b + 1 →
  Cut Qypi Qdu7 7 [.int .i64 a.x, .int .i64 a.y, .int .i64 b.x, .int .i64 b.y, .bool t, .int .i64 (legN a b : Int), .own 0 [] 0, .int .i64 (k : Int)] [.row .pair ((List.range k).map (legAt a b)) 0 0 0 .no] (.sl .pair (if t then (legF a b).reverse else legF a b)) [] := by
 have hn := Q1tq ha hb
 have hbs : Qbhn Qypi.P 170 = 16 := by kernel_rfl
 simp only [Qlxz, Bool.and_eq_true, decide_eq_true_eq] at ha hb
 have fin : ∀ zs : List Cell, zs = legF a b → Sat Qypi Qdu7 (.sl .pair (if t then (legF a b).reverse else legF a b)) [] (ifb t (ifb (decide (zs.length ≤ (1000000 : Nat))) (some (.ret (.sl .pair zs.reverse) [])) (none)) (some (.ret (.sl .pair zs) []))) := fun zs hz => by
  subst hz
  cases t with
  | true =>
   rw [decide_eq_true (by rw [legF, List.length_map, List.length_range]; omega)]
   exact Sat.ret rfl rfl
  | false => exact Sat.ret rfl rfl
 intro d
 induction d with
 | zero =>
  intro k hk
  refine Cut.of Q3u7 rfl (Qi6n a.x a.y b.x b.y t (legN a b) k _) ?_
  rw [decide_eq_false (by omega), Qk7y]
  refine fin _ ?_
  rw [show k = legN a b + 1 by omega]; rfl
 | succ d ih =>
  intro k hk
  refine Cut.of Q3u7 rfl (Qi6n a.x a.y b.x b.y t (legN a b) k _) ?_
  rw [decide_eq_true (by omega : (k : Int) ≤ (legN a b : Int)), Qd8q, hbs]
  have hroom : ∀ x : Cell, decide ((((List.range k).map (legAt a b)).length + [x].length) * 16 ≤ 140737488355328) = true := fun x => decide_eq_true (by simp; omega)
  rw [hroom, hroom]
  by_cases hN : legN a b = 0
  ·have hk0 : k = 0 := by omega
   subst hk0
   rw [hN]
   refine fin _ ?_
   rw [legF, hN]
   show [(⟨a.x, a.y⟩ : Cell)] = [legAt a b 0]
   rw [Qse4]
  ·have e0 : (((legN a b : Nat) : Int) == 0) = false := beq_eq_false_iff_ne.2 (by omega)
   have hw : IntKind.wrap .i64 ((k : Int) + 1) = ((k + 1 : Nat) : Int) := by rw [Qbrg] <;> omega
   have wx : IntKind.wrap .i64 (b.x - a.x) = b.x - a.x := Qbrg (by omega) (by omega)
   have wy : IntKind.wrap .i64 (b.y - a.y) = b.y - a.y := Qbrg (by omega) (by omega)
   have w2 : IntKind.wrap .i64 (2 * (k : Int)) = 2 * (k : Int) := Qbrg (by omega) (by omega)
   have w3 : IntKind.wrap .i64 (2 * (legN a b : Int)) = 2 * (legN a b : Int) := Qbrg (by omega) (by omega)
   have prod : ∀ e : Int, e.natAbs ≤ 100 → (2 * (k : Int) * e).natAbs ≤ 202 * 100 := fun e he => by
    rw [Int.natAbs_mul]
    exact Nat.mul_le_mul (by omega) he
   have px := prod (b.x - a.x) (by omega)
   have py := prod (b.y - a.y) (by omega)
   have bx := Qjpf (d := b.x - a.x) (k := k) (n := (legN a b : Int)) (by omega) (M := 30000) (by omega)
   have by' := Qjpf (d := b.y - a.y) (k := k) (n := (legN a b : Int)) (by omega) (M := 30000) (by omega)
   have w4 : IntKind.wrap .i64 (2 * (k : Int) * (b.x - a.x)) = 2 * (k : Int) * (b.x - a.x) := Qbrg (by omega) (by omega)
   have w5 : IntKind.wrap .i64 (2 * (k : Int) * (b.y - a.y)) = 2 * (k : Int) * (b.y - a.y) := Qbrg (by omega) (by omega)
   have w6 : IntKind.wrap .i64 (2 * (k : Int) * (b.x - a.x) + (legN a b : Int)) = 2 * (k : Int) * (b.x - a.x) + (legN a b : Int) := Qbrg (by omega) (by omega)
   have w7 : IntKind.wrap .i64 (2 * (k : Int) * (b.y - a.y) + (legN a b : Int)) = 2 * (k : Int) * (b.y - a.y) + (legN a b : Int) := Qbrg (by omega) (by omega)
   have f1 : (2 * (k : Int) * (b.x - a.x) + (legN a b : Int)) / (2 * (legN a b : Int)) = partF (b.x - a.x) k (legN a b) := rfl
   have f2 : (2 * (k : Int) * (b.y - a.y) + (legN a b : Int)) / (2 * (legN a b : Int)) = partF (b.y - a.y) k (legN a b) := rfl
   have w8 : IntKind.wrap .i64 (a.x + partF (b.x - a.x) k (legN a b)) = a.x + partF (b.x - a.x) k (legN a b) := Qbrg (by omega) (by omega)
   have w9 : IntKind.wrap .i64 (a.y + partF (b.y - a.y) k (legN a b)) = a.y + partF (b.y - a.y) k (legN a b) := Qbrg (by omega) (by omega)
   have s1 : Q0d5 (2 * (k : Int) * (b.x - a.x) + (legN a b : Int)) = true := by simp only [Q0d5, Bool.and_eq_true, decide_eq_true_eq]; omega
   have s2 : Q0d5 (2 * (k : Int) * (b.y - a.y) + (legN a b : Int)) = true := by simp only [Q0d5, Bool.and_eq_true, decide_eq_true_eq]; omega
   have s3 : Q0d5 (2 * (legN a b : Int)) = true := by simp only [Q0d5, Bool.and_eq_true, decide_eq_true_eq]; omega
   rw [e0, Qk7y, wx, wy, w2, w3, w4, w5, w6, w7, s1, s2, s3, f1, f2, w8, w9, hw, decide_eq_true (by omega : (0 : Int) < 2 * (legN a b : Int))]
   simp only [Qd8q, Bool.and_self]
   have := ih (k + 1) (by omega)
   rw [List.range_succ, List.map_append] at this
   have e : legAt a b k = ⟨a.x + partF (b.x - a.x) k (legN a b), a.y + partF (b.y - a.y) k (legN a b)⟩ := by unfold legAt; rw [if_neg hN]
   rw [List.map_cons, List.map_nil, e] at this
   exact Sat.cut this
theorem Qndp (ax ay bx b_y : Int) (hg : (Qlxz ⟨ax, ay⟩ && Qlxz ⟨bx, b_y⟩) = true) : Qewq Tryz.prog CP Qdu7 [.int .i64 ax, .int .i64 ay, .int .i64 bx, .int .i64 b_y] [] (.sl .pair (Qppc ⟨ax, ay⟩ ⟨bx, b_y⟩)) [] := by
 refine Qewq.of Q3u7 (by kernel_rfl) (Qu1n ax ay bx b_y) ?_
 simp only [Bool.and_eq_true] at hg
 obtain ⟨ha, hb⟩ := hg
 have h1 := Qefh ⟨ax, ay⟩ ⟨bx, b_y⟩ false ha hb _ 0 (Nat.zero_add _)
 have h2 := Qefh ⟨bx, b_y⟩ ⟨ax, ay⟩ true hb ha _ 0 (Nat.zero_add _)
 simp only [Qlxz, Bool.and_eq_true, decide_eq_true_eq] at ha hb
 have m : ∀ x y : Int, 0 ≤ x → x ≤ 100 → 0 ≤ y → y ≤ 100 → (Q0d5 x && Q0d5 y) = true := fun x y _ _ _ _ => by simp only [Q0d5, Bool.and_eq_true, decide_eq_true_eq]; omega
 have n1 : max2A ((ax - bx).natAbs : Int) ((ay - b_y).natAbs : Int) = (legN ⟨ax, ay⟩ ⟨bx, b_y⟩ : Int) := by
  unfold max2A legN
  simp only
  split <;> omega
 have n2 : max2A ((bx - ax).natAbs : Int) ((b_y - ay).natAbs : Int) = (legN ⟨bx, b_y⟩ ⟨ax, ay⟩ : Int) := by
  unfold max2A legN
  simp only
  split <;> omega
 rw [m ax bx (by omega) (by omega) (by omega) (by omega), m ay b_y (by omega) (by omega) (by omega) (by omega), m bx ax (by omega) (by omega) (by omega) (by omega), m b_y ay (by omega) (by omega) (by omega) (by omega), n1, n2]
 simp only [Qd8q]
 by_cases c1 : ax > bx
 ·rw [decide_eq_true c1]
  rw [show Qppc ⟨ax, ay⟩ ⟨bx, b_y⟩ = (legF ⟨bx, b_y⟩ ⟨ax, ay⟩).reverse by rw [Qppc, if_pos (by simp [Qdow]; omega)]]
  exact Sat.cut h2
 ·rw [decide_eq_false c1]
  by_cases c2 : ax = bx
  ·rw [beq_iff_eq.2 c2]
   by_cases c3 : ay > b_y
   ·rw [decide_eq_true c3]
    rw [show Qppc ⟨ax, ay⟩ ⟨bx, b_y⟩ = (legF ⟨bx, b_y⟩ ⟨ax, ay⟩).reverse by rw [Qppc, if_pos (by simp [Qdow]; omega)]]
    exact Sat.cut h2
   ·rw [decide_eq_false c3]
    rw [show Qppc ⟨ax, ay⟩ ⟨bx, b_y⟩ = legF ⟨ax, ay⟩ ⟨bx, b_y⟩ by rw [Qppc, if_neg (by simp [Qdow]; omega)]]
    exact Sat.cut h1
  ·rw [beq_eq_false_iff_ne.2 c2]
   rw [show Qppc ⟨ax, ay⟩ ⟨bx, b_y⟩ = legF ⟨ax, ay⟩ ⟨bx, b_y⟩ by rw [Qppc, if_neg (by simp [Qdow]; omega)]]
   exact Sat.cut h1
theorem Q6da : EntOK Tryz.prog CP Qdu7 Q4ps := by
 refine ⟨⟨Tryz.f122, by kernel_rfl, by kernel_rfl, by kernel_rfl⟩, fun args H res H' h => ?_⟩
 simp only [Q4ps] at h
 split at h
 ·simp only [Option.some.injEq, Prod.mk.injEq] at h
  obtain ⟨hg, rfl, rfl⟩ := h
  exact Qndp _ _ _ _ hg
 ·cases h
end Lx
/- Cells of a route, as the program makes them. -/
namespace Lx
open Go Go.Proofs
noncomputable def Qtgh : RE Ty El := ⟨Tryz.prog, CP, [(Qdaf, Qzuu), (Qwtz, Qbsc), (Qdu7, Q4ps)], Tryz.f36, 0, [.ro .cell, .any], [(8, [(6, .any), (8, .any), (9, .any)]), (11, [(6, .any), (8, .any), (9, .any), (62, .any), (63, .any), (64, .any)])]⟩
theorem Qmle : REOK Qtgh Qlm4 := ⟨CP_ok, (TabOK.cons Qkfq (TabOK.cons Q09u (TabOK.cons Q6da Qye1))), by kernel_rfl, by kernel_rfl⟩
theorem Q0dz (ks : List Kind) (ps : List Point) (w : List Str) : aRun Qtgh 600 false (body0 Qtgh.fn) (Q4gm Qtgh.fn [.agg [.sl .kind ks, .sl .point ps], .sl .str w] []) =
 ifb (!Qib4 ks ps) (some (.ret (.tup [.sl .cell [], .bool false]) [])) (ifb (decide (ps.length < (1000000000 : Nat))) (ifb (!Qyhl ps w) (some (.ret (.tup [.sl .cell [], .bool false]) [])) (ifb (inb (0 : Int) (Q51t ps w).length) (ifb (inb (0 : Int) (Q51t ps w).length) (some (.go (Qu6t Qtgh.fn 8) [.sl .point (Q51t ps w), .own 0 [] 0, .int .i64 (1 : Int)] [.row .cell [Cell.mk ((Q51t ps w).getD (Int.toNat (0 : Int)) (Qtgh.C.dflt Ty.point)).x ((Q51t ps w).getD (Int.toNat (0 : Int)) (Qtgh.C.dflt Ty.point)).y] 0 0 0 .no])) (none)) (none))) (none)) := by kernel_rfl
theorem Qsx8 (x0 : List (El .point)) (x1 : Int) (x2 : List (El .cell)) : aRun Qtgh 600 true (Qu6t Qtgh.fn 8) (cutSt Qtgh.fn (Q1m4 Qtgh (Qu6t Qtgh.fn 8)) [.sl .point x0, .own 0 [] 0, .int .i64 x1] [.row .cell x2 0 0 0 .no]) =
 ifb (decide (x1 < (↑x0.length : Int))) (ifb (inb (IntKind.i64.wrap (x1 - (1 : Int))) x0.length) (ifb (inb (IntKind.i64.wrap (x1 - (1 : Int))) x0.length) (ifb (inb x1 x0.length) (ifb (inb x1 x0.length) (ifb (Qlxz (Cell.mk (x0.getD (IntKind.i64.wrap (x1 - (1 : Int))).toNat (Qtgh.C.dflt Ty.point)).x (x0.getD (IntKind.i64.wrap (x1 - (1 : Int))).toNat (Qtgh.C.dflt Ty.point)).y) && Qlxz (Cell.mk (x0.getD x1.toNat (Qtgh.C.dflt Ty.point)).x (x0.getD x1.toNat (Qtgh.C.dflt Ty.point)).y)) (ifb (decide ((0 : Int) ≤ (1 : Int)) && (decide ((1 : Int) ≤ (↑(Qppc (Cell.mk (x0.getD (IntKind.i64.wrap (x1 - (1 : Int))).toNat (Qtgh.C.dflt Ty.point)).x (x0.getD (IntKind.i64.wrap (x1 - (1 : Int))).toNat (Qtgh.C.dflt Ty.point)).y) (Cell.mk (x0.getD x1.toNat (Qtgh.C.dflt Ty.point)).x (x0.getD x1.toNat (Qtgh.C.dflt Ty.point)).y)).length : Int)) && decide ((↑(Qppc (Cell.mk (x0.getD (IntKind.i64.wrap (x1 - (1 : Int))).toNat (Qtgh.C.dflt Ty.point)).x (x0.getD (IntKind.i64.wrap (x1 - (1 : Int))).toNat (Qtgh.C.dflt Ty.point)).y) (Cell.mk (x0.getD x1.toNat (Qtgh.C.dflt Ty.point)).x (x0.getD x1.toNat (Qtgh.C.dflt Ty.point)).y)).length : Int) ≤ (↑(Qppc (Cell.mk (x0.getD (IntKind.i64.wrap (x1 - (1 : Int))).toNat (Qtgh.C.dflt Ty.point)).x (x0.getD (IntKind.i64.wrap (x1 - (1 : Int))).toNat (Qtgh.C.dflt Ty.point)).y) (Cell.mk (x0.getD x1.toNat (Qtgh.C.dflt Ty.point)).x (x0.getD x1.toNat (Qtgh.C.dflt Ty.point)).y)).length : Int)))) (some (.go (Qu6t Qtgh.fn 11) [.sl .point x0, .own 0 [] 0, .int .i64 x1, .sl .pair (List.take ((↑(Qppc (Cell.mk (x0.getD (IntKind.i64.wrap (x1 - (1 : Int))).toNat (Qtgh.C.dflt Ty.point)).x (x0.getD (IntKind.i64.wrap (x1 - (1 : Int))).toNat (Qtgh.C.dflt Ty.point)).y) (Cell.mk (x0.getD x1.toNat (Qtgh.C.dflt Ty.point)).x (x0.getD x1.toNat (Qtgh.C.dflt Ty.point)).y)).length : Int).toNat - Int.toNat (1 : Int)) (List.drop (Int.toNat (1 : Int)) (Qppc (Cell.mk (x0.getD (IntKind.i64.wrap (x1 - (1 : Int))).toNat (Qtgh.C.dflt Ty.point)).x (x0.getD (IntKind.i64.wrap (x1 - (1 : Int))).toNat (Qtgh.C.dflt Ty.point)).y) (Cell.mk (x0.getD x1.toNat (Qtgh.C.dflt Ty.point)).x (x0.getD x1.toNat (Qtgh.C.dflt Ty.point)).y)))), .int .i64 ((↑(List.take ((↑(Qppc (Cell.mk (x0.getD (IntKind.i64.wrap (x1 - (1 : Int))).toNat (Qtgh.C.dflt Ty.point)).x (x0.getD (IntKind.i64.wrap (x1 - (1 : Int))).toNat (Qtgh.C.dflt Ty.point)).y) (Cell.mk (x0.getD x1.toNat (Qtgh.C.dflt Ty.point)).x (x0.getD x1.toNat (Qtgh.C.dflt Ty.point)).y)).length : Int).toNat - Int.toNat (1 : Int)) (List.drop (Int.toNat (1 : Int)) (Qppc (Cell.mk (x0.getD (IntKind.i64.wrap (x1 - (1 : Int))).toNat (Qtgh.C.dflt Ty.point)).x (x0.getD (IntKind.i64.wrap (x1 - (1 : Int))).toNat (Qtgh.C.dflt Ty.point)).y) (Cell.mk (x0.getD x1.toNat (Qtgh.C.dflt Ty.point)).x (x0.getD x1.toNat (Qtgh.C.dflt Ty.point)).y)))).length : Int)), .int .i64 (0 : Int)] [.row .cell x2 0 0 0 .no])) (none)) (none)) (none)) (none)) (none)) (none)) (ifb (decide ((↑x2.length : Int) > (40 : Int))) (some (.ret (.tup [.sl .cell [], .bool false]) [])) (some (.ret (.tup [.sl .cell x2, .bool true]) []))) := by kernel_rfl
theorem Q7lp (x0 : List (El .point)) (x1 : Int) (x2 : List (El .pair)) (x3 : Int) (x4 : Int) (x5 : List (El .cell)) : aRun Qtgh 600 true (Qu6t Qtgh.fn 11) (cutSt Qtgh.fn (Q1m4 Qtgh (Qu6t Qtgh.fn 11)) [.sl .point x0, .own 0 [] 0, .int .i64 x1, .sl .pair x2, .int .i64 x3, .int .i64 x4] [.row .cell x5 0 0 0 .no]) =
 ifb (decide (x4 < x3)) (ifb (inb x4 x2.length) (ifb (decide ((x5.length + [x2.getD x4.toNat (Qtgh.C.dflt Ty.pair)].length) * Qbhn Qtgh.P (72 : Nat) ≤ (140737488355328 : Nat))) (some (.go (Qu6t Qtgh.fn 11) [.sl .point x0, .own 0 [] 0, .int .i64 x1, .sl .pair x2, .int .i64 x3, .int .i64 (IntKind.i64.wrap (x4 + (1 : Int)))] [.row .cell (x5 ++ [x2.getD x4.toNat (Qtgh.C.dflt Ty.pair)]) 0 0 0 .no])) (none)) (none)) (some (.go (Qu6t Qtgh.fn 8) [.sl .point x0, .own 0 [] 0, .int .i64 (IntKind.i64.wrap (x1 + (1 : Int)))] [.row .cell x5 0 0 0 .no])) := by kernel_rfl
theorem Q7ss (pts : List Point) (i : Nat) (hi : i < 1000) (cs : List Cell) (hcs : cs.length ≤ 100) (acc : List Cell) (hacc : acc.length ≤ 10000) (res : V) (h8 : Cut Qtgh Qlm4 8 [.sl .point pts, .own 0 [] 0, .int .i64 ((i + 1 : Nat) : Int)] [.row .cell (acc ++ cs) 0 0 0 .no] res []) : ∀ (d k : Nat), k + d = cs.length →
  Cut Qtgh Qlm4 11 [.sl .point pts, .own 0 [] 0, .int .i64 (i : Int), .sl .pair cs, .int .i64 (cs.length : Int), .int .i64 (k : Int)] [.row .cell (acc ++ cs.take k) 0 0 0 .no] res [] := by
 have hbs : Qbhn Qtgh.P 72 = 16 := by kernel_rfl
 have hwi : IntKind.wrap .i64 ((i : Int) + 1) = ((i + 1 : Nat) : Int) := by rw [Qbrg] <;> omega
 intro d
 induction d with
 | zero =>
  intro k hk
  refine Cut.of Qmle rfl (Q7lp pts i cs cs.length k _) ?_
  rw [decide_eq_false (by omega), hwi, List.take_of_length_le (by omega)]
  exact Sat.cut h8
 | succ d ih =>
  intro k hk
  refine Cut.of Qmle rfl (Q7lp pts i cs cs.length k _) ?_
  have hlt : k < cs.length := by omega
  have hw : IntKind.wrap .i64 ((k : Int) + 1) = ((k + 1 : Nat) : Int) := by rw [Qbrg] <;> omega
  have hw1 : IntKind.wrap .i64 ((k : Int) - 1) = (k : Int) - 1 := by rw [Qbrg] <;> omega
  have hd : cs.drop k = cs[k] :: cs.drop (k + 1) := List.drop_eq_getElem_cons hlt
  have hx : cs.getD (k : Int).toNat (Qtgh.C.dflt .pair) = cs[k] := by simp [hlt]
  have hin : inb (k : Int) cs.length = true := by simp only [inb, Bool.and_eq_true, decide_eq_true_eq]; omega
  have hlo : decide ((k : Int) < (cs.length : Int)) = true := decide_eq_true (by omega)
  have htk := List.take_succ_eq_append_getElem hlt
  have hl : (cs.take (k + 1)).getLast? = some cs[k] := by rw [List.take_succ_eq_append_getElem hlt, List.getLast?_concat]
  have hroom : decide (((acc ++ cs.take k).length + [cs[k]].length) * 16 ≤ 140737488355328) = true := decide_eq_true (by simp; omega)
  rw [hlo, hin, hx, hw, hbs, hroom]
  have := ih (k + 1) (by omega)
  rw [htk, ← List.append_assoc] at this
  exact Sat.cut this
theorem Qhoq (ks : List Kind) (ps : List Point) (w : List Str) (hb : Qib4 ks ps = true) (hr : Qyhl ps w = true) : ∀ (d i : Nat), i + d = w.length → 1 ≤ i → (Qya3 ps w (i - 1)).length ≤ 1 + 200 * i →
  Cut Qtgh Qlm4 8 [.sl .point (w.map (ptOf ps)), .own 0 [] 0, .int .i64 (i : Int)] [.row .cell (Qya3 ps w (i - 1)) 0 0 0 .no] (Qkcc (Qqfy ks ps w)) [] := by
 obtain ⟨hw2, hw8, hall⟩ := Quu2 hr
 intro d
 induction d with
 | zero =>
  intro i hi h1 hlen
  refine Cut.of Qmle rfl (Qsx8 (w.map (ptOf ps)) i _) ?_
  rw [List.length_map, decide_eq_false (by omega), Qk7y]
  have e : w.length - 1 = i - 1 := by omega
  by_cases h40 : (Qya3 ps w (i - 1)).length ≤ 40
  ·rw [decide_eq_false (by omega)]
   refine Sat.ret ?_ rfl
   rw [Qqfy, if_pos ⟨hb, hr, by rw [e]; exact h40⟩, e]; rfl
  ·rw [decide_eq_true (by omega)]
   refine Sat.ret ?_ rfl
   rw [Qqfy, if_neg (fun h => h40 (by rw [← e]; exact h.2.2))]; rfl
 | succ d ih =>
  intro i hi h1 hlen
  refine Cut.of Qmle rfl (Qsx8 (w.map (ptOf ps)) i _) ?_
  have hlt : i < w.length := by omega
  have hlt1 : i - 1 < w.length := by omega
  have hw1 : IntKind.wrap .i64 ((i : Int) - 1) = (i : Int) - 1 := by rw [Qbrg] <;> omega
  have e1 : ((i : Int) - 1).toNat = i - 1 := by omega
  have e2 : (i : Int).toNat = i := by omega
  have i0 : inb ((i : Int) - 1) w.length = true := by simp only [inb, Bool.and_eq_true, decide_eq_true_eq]; omega
  have i1 : inb (i : Int) w.length = true := by simp only [inb, Bool.and_eq_true, decide_eq_true_eq]; omega
  have m0 : w.getD (i - 1) [] ∈ w := by rw [List.getD_eq_getElem?_getD, List.getElem?_eq_getElem hlt1]; exact List.getElem_mem hlt1
  have m1 : w.getD i [] ∈ w := by rw [List.getD_eq_getElem?_getD, List.getElem?_eq_getElem hlt]; exact List.getElem_mem hlt
  have hp : ∀ j, j < w.length → (w.map (ptOf ps)).getD j (Qtgh.C.dflt Ty.point) = ptOf ps (w.getD j []) := fun j hj => by simp [hj]
  have hc : ∀ n, Cell.mk (ptOf ps n).x (ptOf ps n).y = Qg2m ps n := fun n => rfl
  have hl := Qek1 (a := Qg2m ps (w.getD (i - 1) [])) (b := Qg2m ps (w.getD i []))
  have hln := Q1tq (Qgjr hb (hall _ m0)) (Qgjr hb (hall _ m1))
  have ht : (Qppc (Qg2m ps (w.getD (i - 1) [])) (Qg2m ps (w.getD i []))).drop 1 = tailC ps w (i - 1) := by
   unfold tailC
   rw [show i - 1 + 1 = i by omega]
  have htl : (tailC ps w (i - 1)).length ≤ 100 := by rw [← ht, List.length_drop]; omega
  have e4 : (((Qppc (Qg2m ps (w.getD (i - 1) [])) (Qg2m ps (w.getD i []))).drop (Int.toNat 1)).take (((Qppc (Qg2m ps (w.getD (i - 1) [])) (Qg2m ps (w.getD i []))).length : Int).toNat - Int.toNat 1)) = tailC ps w (i - 1) := by
   rw [show (Int.toNat 1) = 1 from rfl, ht]
   exact List.take_of_length_le (by rw [← ht, List.length_drop]; omega)
  rw [List.length_map, hw1, e1, e2, i0, i1, hp _ hlt1, hp _ hlt, hc, hc, Qgjr hb (hall _ m0), Qgjr hb (hall _ m1), decide_eq_true (by omega : (i : Int) < (w.length : Int)), e4, decide_eq_true (by omega : (1 : Int) ≤ ((Qppc (Qg2m ps (w.getD (i - 1) [])) (Qg2m ps (w.getD i []))).length : Int)), decide_eq_true (Int.le_refl ((Qppc (Qg2m ps (w.getD (i - 1) [])) (Qg2m ps (w.getD i []))).length : Int))]
  have h8 := ih (i + 1) (by omega) (by omega) (by
   rw [show i + 1 - 1 = (i - 1) + 1 by omega, Q0oy, List.length_append]; omega)
  rw [show i + 1 - 1 = (i - 1) + 1 by omega, Q0oy] at h8
  have := Q7ss (w.map (ptOf ps)) i (by omega) (tailC ps w (i - 1)) htl (Qya3 ps w (i - 1)) (by omega) _ h8 _ 0 (Nat.zero_add _)
  rw [List.take_zero, List.append_nil] at this
  exact Sat.cut this
theorem Qcku (ks : List Kind) (ps : List Point) (w : List Str) (hg : decide (ps.length < 1000000000) = true) : Qewq Tryz.prog CP Qlm4 [.agg [.sl .kind ks, .sl .point ps], .sl .str w] [] (Qkcc (Qqfy ks ps w)) [] := by
 refine Qewq.of Qmle (by kernel_rfl) (Q0dz ks ps w) ?_
 have no : Qqfy ks ps w = none → Sat Qtgh Qlm4 (Qkcc (Qqfy ks ps w)) [] (some (.ret (.tup [.sl .cell [], .bool false]) [])) := fun h => by
  rw [h]; exact Sat.ret rfl rfl
 rw [hg]
 cases hb : Qib4 ks ps with
 | false => exact no (by rw [Qqfy, hb]; simp)
 | true =>
  cases hr : Qyhl ps w with
  | false => exact no (by rw [Qqfy, hr]; simp)
  | true =>
   obtain ⟨hw2, hw8, hall⟩ := Quu2 hr
   have hrp : Q51t ps w = w.map (ptOf ps) := by rw [Q51t, if_pos hr]
   have i0 : inb (0 : Int) w.length = true := by simp only [inb, Bool.and_eq_true, decide_eq_true_eq]; omega
   have hlt : 0 < w.length := by omega
   have hp : (w.map (ptOf ps)).getD (Int.toNat 0) (Qtgh.C.dflt Ty.point) = ptOf ps (w.getD 0 []) := by
    show (w.map (ptOf ps)).getD 0 _ = _
    simp [hlt]
   have := Qhoq ks ps w hb hr (w.length - 1) 1 (by omega) (Nat.le_refl _) (by simp [Qya3])
   rw [hrp, List.length_map, i0, hp]
   exact Sat.cut this
theorem Qh42 : EntOK Tryz.prog CP Qlm4 Qp5x := by
 refine ⟨⟨Tryz.f36, by kernel_rfl, by kernel_rfl, by kernel_rfl⟩, fun args H res H' h => ?_⟩
 simp only [Qp5x, Q49v] at h
 split at h
 ·simp only [Option.some.injEq, Prod.mk.injEq] at h
  obtain ⟨hg, rfl, rfl⟩ := h
  exact Qcku _ _ _ hg
 ·cases h
end Lx
/- Meanings: paths. -/
namespace Lx
open Go Go.Proofs
def lvl (f : Flight) (n : Nat) (k : Nat) : Int := (Qc07 n f.level).getD k 0
def Q9ns (f : Flight) (cs : List Cell) (k : Nat) : Stp :=
 ⟨(cs.getD k ⟨0, 0⟩).x, (cs.getD k ⟨0, 0⟩).y, min (lvl f cs.length (k - 1)) (lvl f cs.length k), max (lvl f cs.length (k - 1)) (lvl f cs.length k), f.frm + k * f.kind.quick, f.by_ + k * f.kind.slow⟩
theorem Q5vz {n : Nat} {l : Int} (h1 : 1 ≤ n) (h40 : n ≤ 40) (h : inR l 1 6 = true) : (Qc07 n l).length = n := by
 have hn : inR (n : Int) 1 40 = true := by simp only [inR, Bool.and_eq_true, decide_eq_true_eq]; omega
 unfold Qc07
 rw [if_pos ⟨hn, h⟩]
 simp
theorem fl_ok {ks : List Kind} {ps : List Point} {es : List Entry} {n : Str} {f : Flight} (h : stB ks ps es n = some f) : 0 ≤ f.frm ∧ f.frm ≤ f.by_ ∧ f.by_ ≤ 10000 ∧ 1 ≤ f.kind.quick ∧ f.kind.quick ≤ f.kind.slow ∧ f.kind.slow ≤ 50 ∧ inR f.level 1 6 = true := by
 unfold stB at h
 split at h
 ·rename_i hc
  obtain ⟨hb, h0⟩ := hc
  obtain ⟨hbase, _, hall⟩ := Qg6k hb
  have hok := hall _ (Qhwx h0)
  generalize es.getD (entIx es n).toNat (dfltP .entry) = e at *
  unfold stE at h
  split at h
  ·cases h
  ·rename_i hv
   split at h
   ·cases h
   ·simp only [Option.some.injEq] at h
    subst h
    have h1 := Q256 hok (w := 1) (fun e => hv (.inl e))
    have h2 := Q256 hok (w := 2) (fun e => hv (.inr (.inl e)))
    have h3 := Q256 hok (w := 3) (fun e => hv (.inr (.inr (.inl e))))
    have ht := fits2 h2
    have hk := fits1 h1
    have hlev : inR (numF (valF e.fields 3)) 1 6 = true := by simpa [fitsV] using h3
    have hin := Qus2 hk
    simp only [inb, Bool.and_eq_true, decide_eq_true_eq] at hin
    have hlt : (Qh2z ks (valF e.fields 1)).toNat < ks.length := by omega
    have hm : ks.getD (Qh2z ks (valF e.fields 1)).toNat (dfltP .kind) ∈ ks := by
     rw [List.getD_eq_getElem?_getD, List.getElem?_eq_getElem hlt]; exact List.getElem_mem hlt
    simp only [Qib4, Bool.and_eq_true] at hbase
    have hko := Q315 hbase.2.2.1 _ hm
    simp only [Kind.ok, Bool.and_eq_true, decide_eq_true_eq] at hko
    have htm : 0 ≤ numF ((cutS 32 (valF e.fields 2)).getD 0 []) ∧ numF ((cutS 32 (valF e.fields 2)).getD 0 []) ≤ numF ((cutS 32 (valF e.fields 2)).getD 1 []) ∧ numF ((cutS 32 (valF e.fields 2)).getD 1 []) ≤ 10000 := by
     match hw : cutS 32 (valF e.fields 2), ht with
     | [a, b], ht =>
      simp only [Q2es, inR, Bool.and_eq_true, decide_eq_true_eq] at ht
      exact ⟨ht.1, ht.2.1, ht.2.2⟩
    exact ⟨htm.1, htm.2.1, htm.2.2, hko.2.1, hko.2.2.1, hko.2.2.2, hlev⟩
 ·cases h
structure PathR where
 steps : List Stp
 frm : Int
 by_ : Int
 code : Int
def pathF (ks : List Kind) (ps : List Point) (es : List Entry) (n : Str) : PathR :=
 if Qn0o ks ps es = true then match stB ks ps es n with
  | none => ⟨[], 0, 0, 2⟩
  | some f => match Qqfy ks ps f.route with
   | none => ⟨[], 0, 0, 3⟩
   | some cs => if f.by_ + cs.length * f.kind.slow > 10000 then ⟨[], 0, 0, 4⟩ else ⟨(List.range cs.length).map (Q9ns f cs), f.frm + cs.length * f.kind.quick, f.by_ + cs.length * f.kind.slow, 0⟩
 else ⟨[], 0, 0, 1⟩
def pathV (r : PathR) : V := .tup [.agg [.sl .step r.steps, .int .i64 r.frm, .int .i64 r.by_], .int .i64 r.code]
def Q4vh : Ent Ty El := ⟨[.ro, .ro], 0, fun a h => match a, h with
 | [.agg [.sl .kind ks, .sl .point ps, .sl .entry es], .str n], [] => some (szB es && decide (es.length < 1000000000), pathV (pathF ks ps es n), [])
 | _, _ => none⟩
def Qrhz : Ent Ty El := Q4vh
end Lx
/- Paths. -/
namespace Lx
open Go Go.Proofs
noncomputable def Q6yw : RE Ty El := ⟨Tryz.prog, CP, [(Qdfk, Q124), (Qhfm, Q4sg), (Qy6j, Q49v), (Qfuz, Q4pp), (Qikw, Q0bo), (Q89f, Qhoa)], Tryz.f18, 0, [.agg [.ro .step, .any, .any], .any], [(15, [(4, .box [.own .step]), (6, .box [.own .step]), (8, .box [.own .step]), (10, .box [.own .step]), (11, .box [.own .step]), (12, .box [.own .step]), (13, .box [.own .step])])]⟩
theorem Qzpr : REOK Q6yw Q2jn := ⟨CP_ok, (TabOK.cons Q8cq (TabOK.cons Qavb (TabOK.cons Qler (TabOK.cons Qapa (TabOK.cons Qbge (TabOK.cons Qdco Qye1)))))), by kernel_rfl, by kernel_rfl⟩
theorem Qc8d (ks : List Kind) (ps : List Point) (es : List Entry) (n : Str) : aRun Q6yw 600 false (body0 Q6yw.fn) (Q4gm Q6yw.fn [.agg [.sl .kind ks, .sl .point ps, .sl .entry es], .str n] []) =
 ifb (szB es) (ifb (!Qn0o ks ps es) (some (.ret (.tup [.agg [.sl .step [], .int .i64 (0 : Int), .int .i64 (0 : Int)], .int .i64 (1 : Int)]) [])) (ifb (szB es && decide (es.length < (1000000000 : Nat))) (ifb (!(stB ks ps es n).isSome) (some (.ret (.tup [.agg [.sl .step [], .int .i64 (0 : Int), .int .i64 (0 : Int)], .int .i64 (2 : Int)]) [])) (ifb (decide (ps.length < (1000000000 : Nat))) (ifb (!(Qqfy ks ps ((stB ks ps es n).getD fl0).route).isSome) (some (.ret (.tup [.agg [.sl .step [], .int .i64 (0 : Int), .int .i64 (0 : Int)], .int .i64 (3 : Int)]) [])) (ifb (decide (IntKind.i64.wrap (((stB ks ps es n).getD fl0).by_ + IntKind.i64.wrap ((↑((Qqfy ks ps ((stB ks ps es n).getD fl0).route).getD []).length : Int) * ((stB ks ps es n).getD fl0).kind.slow)) > (10000 : Int))) (some (.ret (.tup [.agg [.sl .step [], .int .i64 (0 : Int), .int .i64 (0 : Int)], .int .i64 (4 : Int)]) [])) (some (.go (Qu6t Q6yw.fn 15) [.ptr 0 0, .ptr 2 0, .sl .cell ((Qqfy ks ps ((stB ks ps es n).getD fl0).route).getD []), .int .i64 ((↑((Qqfy ks ps ((stB ks ps es n).getD fl0).route).getD []).length : Int)), .sl .int (Qc07 (↑((Qqfy ks ps ((stB ks ps es n).getD fl0).route).getD []).length : Int) ((stB ks ps es n).getD fl0).level), .ptr 3 0, .int .i64 (0 : Int)] [.box [.own 1 [] 0, .int .i64 (0 : Int), .int .i64 (0 : Int)], .row .step [] 0 0 0 .no, .box [.str (((stB ks ps es n).getD fl0).name), .str (((stB ks ps es n).getD fl0).kind.name), .int .i64 (((stB ks ps es n).getD fl0).kind.quick), .int .i64 (((stB ks ps es n).getD fl0).kind.slow), .int .i64 (((stB ks ps es n).getD fl0).frm), .int .i64 (((stB ks ps es n).getD fl0).by_), .int .i64 (((stB ks ps es n).getD fl0).level), .sl .str (((stB ks ps es n).getD fl0).route)], .box [.own 4 [] 0, .int .i64 (IntKind.i64.wrap (((stB ks ps es n).getD fl0).frm + IntKind.i64.wrap ((↑((Qqfy ks ps ((stB ks ps es n).getD fl0).route).getD []).length : Int) * ((stB ks ps es n).getD fl0).kind.quick))), .int .i64 (IntKind.i64.wrap (((stB ks ps es n).getD fl0).by_ + IntKind.i64.wrap ((↑((Qqfy ks ps ((stB ks ps es n).getD fl0).route).getD []).length : Int) * ((stB ks ps es n).getD fl0).kind.slow)))], .row .step [] 0 0 0 .no])))) (none))) (none))) (none) := by kernel_rfl
theorem Qxwz (x0 : List (El .cell)) (x1 : Int) (x2 : List (El .int)) (x3 : Int) (x4 : Int) (x5 : Int) (x6 : List (El .step)) (x7 : Str) (x8 : Str) (x9 : Int) (x10 : Int) (x11 : Int) (x12 : Int) (x13 : Int) (x14 : List (El .str)) (x15 : Int) (x16 : Int) (x17 : List (El .step)) : aRun Q6yw 600 true (Qu6t Q6yw.fn 15) (cutSt Q6yw.fn (Q1m4 Q6yw (Qu6t Q6yw.fn 15)) [.ptr 0 0, .ptr 2 0, .sl .cell x0, .int .i64 x1, .sl .int x2, .ptr 3 0, .int .i64 x3] [.box [.own 1 [] 0, .int .i64 x4, .int .i64 x5], .row .step x6 0 0 0 .no, .box [.str x7, .str x8, .int .i64 x9, .int .i64 x10, .int .i64 x11, .int .i64 x12, .int .i64 x13, .sl .str x14], .box [.own 4 [] 0, .int .i64 x15, .int .i64 x16], .row .step x17 0 0 0 .no]) =
 ifb (decide (x3 < x1)) (ifb (inb x3 x0.length) (ifb (inb x3 x0.length) (ifb (inb x3 x2.length) (ifb (inb x3 x2.length) (ifb (decide (x3 > (0 : Int))) (ifb (inb (IntKind.i64.wrap (x3 - (1 : Int))) x2.length) (ifb (inb x3 x2.length) (ifb (inb (IntKind.i64.wrap (x3 - (1 : Int))) x2.length) (ifb (inb x3 x2.length) (ifb (decide ((x17.length + [Stp.mk (x0.getD x3.toNat (Q6yw.C.dflt Ty.cell)).x (x0.getD x3.toNat (Q6yw.C.dflt Ty.cell)).y (min (x2.getD (IntKind.i64.wrap (x3 - (1 : Int))).toNat (Q6yw.C.dflt Ty.int)) (x2.getD x3.toNat (Q6yw.C.dflt Ty.int))) (max (x2.getD (IntKind.i64.wrap (x3 - (1 : Int))).toNat (Q6yw.C.dflt Ty.int)) (x2.getD x3.toNat (Q6yw.C.dflt Ty.int))) (IntKind.i64.wrap (x11 + IntKind.i64.wrap (x3 * x9))) (IntKind.i64.wrap (x12 + IntKind.i64.wrap (x3 * x10)))].length) * Qbhn Q6yw.P (47 : Nat) ≤ (140737488355328 : Nat))) (some (.go (Qu6t Q6yw.fn 15) [.ptr 0 0, .ptr 2 0, .sl .cell x0, .int .i64 x1, .sl .int x2, .ptr 3 0, .int .i64 (IntKind.i64.wrap (x3 + (1 : Int)))] [.box [.own 1 [] 0, .int .i64 x4, .int .i64 x5], .row .step x6 0 0 0 .no, .box [.str x7, .str x8, .int .i64 x9, .int .i64 x10, .int .i64 x11, .int .i64 x12, .int .i64 x13, .sl .str x14], .box [.own 4 [] 0, .int .i64 x15, .int .i64 x16], .row .step (x17 ++ [Stp.mk (x0.getD x3.toNat (Q6yw.C.dflt Ty.cell)).x (x0.getD x3.toNat (Q6yw.C.dflt Ty.cell)).y (min (x2.getD (IntKind.i64.wrap (x3 - (1 : Int))).toNat (Q6yw.C.dflt Ty.int)) (x2.getD x3.toNat (Q6yw.C.dflt Ty.int))) (max (x2.getD (IntKind.i64.wrap (x3 - (1 : Int))).toNat (Q6yw.C.dflt Ty.int)) (x2.getD x3.toNat (Q6yw.C.dflt Ty.int))) (IntKind.i64.wrap (x11 + IntKind.i64.wrap (x3 * x9))) (IntKind.i64.wrap (x12 + IntKind.i64.wrap (x3 * x10)))]) 0 0 0 .no])) (none)) (none)) (none)) (none)) (none)) (ifb (decide ((x17.length + [Stp.mk (x0.getD x3.toNat (Q6yw.C.dflt Ty.cell)).x (x0.getD x3.toNat (Q6yw.C.dflt Ty.cell)).y (x2.getD x3.toNat (Q6yw.C.dflt Ty.int)) (x2.getD x3.toNat (Q6yw.C.dflt Ty.int)) (IntKind.i64.wrap (x11 + IntKind.i64.wrap (x3 * x9))) (IntKind.i64.wrap (x12 + IntKind.i64.wrap (x3 * x10)))].length) * Qbhn Q6yw.P (47 : Nat) ≤ (140737488355328 : Nat))) (some (.go (Qu6t Q6yw.fn 15) [.ptr 0 0, .ptr 2 0, .sl .cell x0, .int .i64 x1, .sl .int x2, .ptr 3 0, .int .i64 (IntKind.i64.wrap (x3 + (1 : Int)))] [.box [.own 1 [] 0, .int .i64 x4, .int .i64 x5], .row .step x6 0 0 0 .no, .box [.str x7, .str x8, .int .i64 x9, .int .i64 x10, .int .i64 x11, .int .i64 x12, .int .i64 x13, .sl .str x14], .box [.own 4 [] 0, .int .i64 x15, .int .i64 x16], .row .step (x17 ++ [Stp.mk (x0.getD x3.toNat (Q6yw.C.dflt Ty.cell)).x (x0.getD x3.toNat (Q6yw.C.dflt Ty.cell)).y (x2.getD x3.toNat (Q6yw.C.dflt Ty.int)) (x2.getD x3.toNat (Q6yw.C.dflt Ty.int)) (IntKind.i64.wrap (x11 + IntKind.i64.wrap (x3 * x9))) (IntKind.i64.wrap (x12 + IntKind.i64.wrap (x3 * x10)))]) 0 0 0 .no])) (none))) (none)) (none)) (none)) (none)) (some (.ret (.tup [.agg [.sl .step x17, .int .i64 x15, .int .i64 x16], .int .i64 (0 : Int)]) [])) := by kernel_rfl
theorem Qgn6 (f : Flight) (cs : List Cell) (F B : Int) (h40 : cs.length ≤ 40) (h0 : 0 ≤ f.frm) (h1 : f.frm ≤ f.by_) (h2 : f.by_ ≤ 10000) (h3 : 1 ≤ f.kind.quick) (h4 : f.kind.quick ≤ f.kind.slow) (h5 : f.kind.slow ≤ 50) (h6 : inR f.level 1 6 = true) : ∀ (d k : Nat), k + d = cs.length →
  Cut Q6yw Q2jn 15 [.ptr 0 0, .ptr 2 0, .sl .cell cs, .int .i64 (cs.length : Int), .sl .int (Qc07 cs.length f.level), .ptr 3 0, .int .i64 (k : Int)] [.box [.own 1 [] 0, .int .i64 0, .int .i64 0], .row .step [] 0 0 0 .no, .box [.str f.name, .str f.kind.name, .int .i64 f.kind.quick, .int .i64 f.kind.slow, .int .i64 f.frm, .int .i64 f.by_, .int .i64 f.level, .sl .str f.route], .box [.own 4 [] 0, .int .i64 F, .int .i64 B], .row .step ((List.range k).map (Q9ns f cs)) 0 0 0 .no] (.tup [.agg [.sl .step ((List.range cs.length).map (Q9ns f cs)), .int .i64 F, .int .i64 B], .int .i64 0]) [] := by
 have hbs : Qbhn Q6yw.P 47 = 48 := by kernel_rfl
 intro d
 induction d with
 | zero =>
  intro k hk
  refine Cut.of Qzpr rfl (Qxwz cs cs.length _ k 0 0 [] f.name f.kind.name f.kind.quick f.kind.slow f.frm f.by_ f.level f.route F B _) ?_
  rw [decide_eq_false (by omega), Qk7y]
  refine Sat.ret ?_ rfl
  rw [show k = cs.length by omega]
 | succ d ih =>
  intro k hk
  refine Cut.of Qzpr rfl (Qxwz cs cs.length _ k 0 0 [] f.name f.kind.name f.kind.quick f.kind.slow f.frm f.by_ f.level f.route F B _) ?_
  have hlt : k < cs.length := by omega
  have hL : (Qc07 cs.length f.level).length = cs.length := Q5vz (by omega) h40 h6
  have hw : IntKind.wrap .i64 ((k : Int) + 1) = ((k + 1 : Nat) : Int) := by rw [Qbrg] <;> omega
  have hw1 : IntKind.wrap .i64 ((k : Int) - 1) = (k : Int) - 1 := by rw [Qbrg] <;> omega
  have hx : cs.getD (k : Int).toNat (Q6yw.C.dflt .cell) = cs.getD k ⟨0, 0⟩ := by simp [hlt]
  have hdi : Q6yw.C.dflt Ty.int = (0 : Int) := rfl
  have ek : (k : Int).toNat = k := by omega
  have i1 : inb (k : Int) cs.length = true := by simp only [inb, Bool.and_eq_true, decide_eq_true_eq]; omega
  have pq : (k : Int) * f.kind.quick ≤ 40 * 50 ∧ 0 ≤ (k : Int) * f.kind.quick := ⟨Int.mul_le_mul (by omega) (by omega) (by omega) (by omega), Int.mul_nonneg (by omega) (by omega)⟩
  have ps : (k : Int) * f.kind.slow ≤ 40 * 50 ∧ 0 ≤ (k : Int) * f.kind.slow := ⟨Int.mul_le_mul (by omega) (by omega) (by omega) (by omega), Int.mul_nonneg (by omega) (by omega)⟩
  have w1 : IntKind.wrap .i64 ((k : Int) * f.kind.quick) = (k : Int) * f.kind.quick := Qbrg (by omega) (by omega)
  have w2 : IntKind.wrap .i64 ((k : Int) * f.kind.slow) = (k : Int) * f.kind.slow := Qbrg (by omega) (by omega)
  have w3 : IntKind.wrap .i64 (f.frm + (k : Int) * f.kind.quick) = f.frm + (k : Int) * f.kind.quick := Qbrg (by omega) (by omega)
  have w4 : IntKind.wrap .i64 (f.by_ + (k : Int) * f.kind.slow) = f.by_ + (k : Int) * f.kind.slow := Qbrg (by omega) (by omega)
  have hroom : ∀ z : Stp, decide ((((List.range k).map (Q9ns f cs)).length + [z].length) * 48 ≤ 140737488355328) = true := fun z => decide_eq_true (by simp; omega)
  have nxt := ih (k + 1) (by omega)
  rw [List.range_succ, List.map_append, List.map_cons, List.map_nil] at nxt
  rw [hx, hdi, ek, hw, hw1, hL, i1, w1, w2, w3, w4, hbs, decide_eq_true (by omega : (k : Int) < (cs.length : Int))]
  simp only [Qd8q, hroom]
  by_cases hk0 : (k : Int) > 0
  ·have i2 : inb ((k : Int) - 1) cs.length = true := by simp only [inb, Bool.and_eq_true, decide_eq_true_eq]; omega
   rw [decide_eq_true hk0, i2, show ((k : Int) - 1).toNat = k - 1 by omega]
   exact Sat.cut nxt
  ·rw [decide_eq_false hk0]
   have : k = 0 := by omega
   subst this
   have e : Q9ns f cs 0 = ⟨(cs.getD 0 ⟨0, 0⟩).x, (cs.getD 0 ⟨0, 0⟩).y, lvl f cs.length 0, lvl f cs.length 0, f.frm + (0 : Nat) * f.kind.quick, f.by_ + (0 : Nat) * f.kind.slow⟩ := by simp [Q9ns]
   rw [e] at nxt
   exact Sat.cut nxt
theorem Q3js (ks : List Kind) (ps : List Point) (es : List Entry) (n : Str) (hg : (szB es && decide (es.length < 1000000000)) = true) : Qewq Tryz.prog CP Q2jn [.agg [.sl .kind ks, .sl .point ps, .sl .entry es], .str n] [] (pathV (pathF ks ps es n)) [] := by
 refine Qewq.of Qzpr (by kernel_rfl) (Qc8d ks ps es n) ?_
 have hg2 := hg
 simp only [Bool.and_eq_true, decide_eq_true_eq] at hg
 have hz := hg.1
 have no : ∀ c : Int, pathF ks ps es n = ⟨[], 0, 0, c⟩ → Sat Q6yw Q2jn (pathV (pathF ks ps es n)) [] (some (.ret (.tup [.agg [.sl .step [], .int .i64 (0 : Int), .int .i64 (0 : Int)], .int .i64 c]) [])) := fun c h => by
  rw [h]; exact Sat.ret rfl rfl
 rw [hg2, hz]
 cases hb : Qn0o ks ps es with
 | false => exact no 1 (by simp [pathF, hb])
 | true =>
  cases hst : stB ks ps es n with
  | none => exact no 2 (by simp [pathF, hb, hst])
  | some f =>
   obtain ⟨h0, h1, h2, h3, h4, h5, h6⟩ := fl_ok hst
   have hp16 := (Qrzz (Qg6k hb).1).2
   simp only [Option.getD_some, Option.isSome_some]
   rw [decide_eq_true (by omega : ps.length < 1000000000)]
   have hcase : Qqfy ks ps f.route = none ∨ ∃ cs, Qqfy ks ps f.route = some cs := by cases Qqfy ks ps f.route <;> simp
   rcases hcase with hc | ⟨cs, hc⟩
   ·simp only [hc, Option.isSome_none]
    exact no 3 (by simp [pathF, hb, hst, hc])
   ·simp only [hc]
    have h40 : cs.length ≤ 40 := by
     unfold Qqfy at hc
     split at hc
     ·rename_i hx
      simp only [Option.some.injEq] at hc
      subst hc; exact hx.2.2
     ·cases hc
    simp only [Option.getD_some, Option.isSome_some]
    have pq : (cs.length : Int) * f.kind.quick ≤ 40 * 50 ∧ 0 ≤ (cs.length : Int) * f.kind.quick := ⟨Int.mul_le_mul (by omega) (by omega) (by omega) (by omega), Int.mul_nonneg (by omega) (by omega)⟩
    have ps2 : (cs.length : Int) * f.kind.slow ≤ 40 * 50 ∧ 0 ≤ (cs.length : Int) * f.kind.slow := ⟨Int.mul_le_mul (by omega) (by omega) (by omega) (by omega), Int.mul_nonneg (by omega) (by omega)⟩
    have w1 : IntKind.wrap .i64 ((cs.length : Int) * f.kind.quick) = (cs.length : Int) * f.kind.quick := Qbrg (by omega) (by omega)
    have w2 : IntKind.wrap .i64 ((cs.length : Int) * f.kind.slow) = (cs.length : Int) * f.kind.slow := Qbrg (by omega) (by omega)
    have w3 : IntKind.wrap .i64 (f.frm + (cs.length : Int) * f.kind.quick) = f.frm + (cs.length : Int) * f.kind.quick := Qbrg (by omega) (by omega)
    have w4 : IntKind.wrap .i64 (f.by_ + (cs.length : Int) * f.kind.slow) = f.by_ + (cs.length : Int) * f.kind.slow := Qbrg (by omega) (by omega)
    simp only [w1, w2, w3, w4]
    by_cases hl : f.by_ + (cs.length : Int) * f.kind.slow > 10000
    ·rw [decide_eq_true hl]
     exact no 4 (by simp only [pathF, hb, hst, hc, if_true]; rw [if_pos hl])
    ·rw [decide_eq_false hl]
     rw [show pathF ks ps es n = ⟨(List.range cs.length).map (Q9ns f cs), f.frm + cs.length * f.kind.quick, f.by_ + cs.length * f.kind.slow, 0⟩ by simp only [pathF, hb, hst, hc, if_true]; rw [if_neg hl]]
     exact Sat.cut (Qgn6 f cs _ _ h40 h0 h1 h2 h3 h4 h5 h6 cs.length 0 (Nat.zero_add _))
theorem Q9yb : EntOK Tryz.prog CP Q2jn Q4vh := by
 refine ⟨⟨Tryz.f18, by kernel_rfl, by kernel_rfl, by kernel_rfl⟩, fun args H res H' h => ?_⟩
 simp only [Q4vh] at h
 split at h
 ·simp only [Option.some.injEq, Prod.mk.injEq] at h
  obtain ⟨hg, rfl, rfl⟩ := h
  exact Q3js _ _ _ _ hg
 ·cases h
end Lx
/- Paths, as the program makes them. -/
namespace Lx
open Go Go.Proofs
noncomputable def Q8e3 : RE Ty El := ⟨Tryz.prog, CP, [(Qaev, Qjv4), (Qcq6, Qnor), (Qlm4, Qp5x), (Qqwa, Q7vp)], Tryz.f17, 0, [.agg [.ro .step, .any, .any], .any], [(15, [(4, .box [.own .step]), (6, .box [.own .step]), (11, .box [.own .step]), (12, .box [.own .step]), (67, .box [.own .step]), (68, .box [.own .step]), (69, .box [.own .step])])]⟩
theorem Qqun : REOK Q8e3 Qwuz := ⟨CP_ok, (TabOK.cons Qwza (TabOK.cons Qyj8 (TabOK.cons Qh42 (TabOK.cons Qgno Qye1)))), by kernel_rfl, by kernel_rfl⟩
theorem Qzjm (ks : List Kind) (ps : List Point) (es : List Entry) (n : Str) : aRun Q8e3 600 false (body0 Q8e3.fn) (Q4gm Q8e3.fn [.agg [.sl .kind ks, .sl .point ps, .sl .entry es], .str n] []) =
 ifb (szB es) (ifb (!Qn0o ks ps es) (some (.ret (.tup [.agg [.sl .step [], .int .i64 (0 : Int), .int .i64 (0 : Int)], .int .i64 (1 : Int)]) [])) (ifb (szB es && Qn0o ks ps es) (ifb (!(stB ks ps es n).isSome) (some (.ret (.tup [.agg [.sl .step [], .int .i64 (0 : Int), .int .i64 (0 : Int)], .int .i64 (2 : Int)]) [])) (ifb (decide (ps.length < (1000000000 : Nat))) (ifb (!(Qqfy ks ps ((stB ks ps es n).getD fl0).route).isSome) (some (.ret (.tup [.agg [.sl .step [], .int .i64 (0 : Int), .int .i64 (0 : Int)], .int .i64 (3 : Int)]) [])) (ifb (decide (IntKind.i64.wrap (((stB ks ps es n).getD fl0).by_ + IntKind.i64.wrap ((↑((Qqfy ks ps ((stB ks ps es n).getD fl0).route).getD []).length : Int) * ((stB ks ps es n).getD fl0).kind.slow)) > (10000 : Int))) (some (.ret (.tup [.agg [.sl .step [], .int .i64 (0 : Int), .int .i64 (0 : Int)], .int .i64 (4 : Int)]) [])) (some (.go (Qu6t Q8e3.fn 15) [.ptr 0 0, .ptr 2 0, .ptr 3 0, .sl .int (Qc07 (↑((Qqfy ks ps ((stB ks ps es n).getD fl0).route).getD []).length : Int) ((stB ks ps es n).getD fl0).level), .sl .cell ((Qqfy ks ps ((stB ks ps es n).getD fl0).route).getD []), .int .i64 ((↑((Qqfy ks ps ((stB ks ps es n).getD fl0).route).getD []).length : Int)), .int .i64 (0 : Int)] [.box [.own 1 [] 0, .int .i64 (0 : Int), .int .i64 (0 : Int)], .row .step [] 0 0 0 .no, .box [.str (((stB ks ps es n).getD fl0).name), .str (((stB ks ps es n).getD fl0).kind.name), .int .i64 (((stB ks ps es n).getD fl0).kind.quick), .int .i64 (((stB ks ps es n).getD fl0).kind.slow), .int .i64 (((stB ks ps es n).getD fl0).frm), .int .i64 (((stB ks ps es n).getD fl0).by_), .int .i64 (((stB ks ps es n).getD fl0).level), .sl .str (((stB ks ps es n).getD fl0).route)], .box [.own 4 [] 0, .int .i64 (IntKind.i64.wrap (((stB ks ps es n).getD fl0).frm + IntKind.i64.wrap ((↑((Qqfy ks ps ((stB ks ps es n).getD fl0).route).getD []).length : Int) * ((stB ks ps es n).getD fl0).kind.quick))), .int .i64 (IntKind.i64.wrap (((stB ks ps es n).getD fl0).by_ + IntKind.i64.wrap ((↑((Qqfy ks ps ((stB ks ps es n).getD fl0).route).getD []).length : Int) * ((stB ks ps es n).getD fl0).kind.slow)))], .row .step [] 0 0 0 .no])))) (none))) (none))) (none) := by kernel_rfl
theorem Q1gs (x0 : List (El .int)) (x1 : List (El .cell)) (x2 : Int) (x3 : Int) (x4 : Int) (x5 : Int) (x6 : List (El .step)) (x7 : Str) (x8 : Str) (x9 : Int) (x10 : Int) (x11 : Int) (x12 : Int) (x13 : Int) (x14 : List (El .str)) (x15 : Int) (x16 : Int) (x17 : List (El .step)) : aRun Q8e3 600 true (Qu6t Q8e3.fn 15) (cutSt Q8e3.fn (Q1m4 Q8e3 (Qu6t Q8e3.fn 15)) [.ptr 0 0, .ptr 2 0, .ptr 3 0, .sl .int x0, .sl .cell x1, .int .i64 x2, .int .i64 x3] [.box [.own 1 [] 0, .int .i64 x4, .int .i64 x5], .row .step x6 0 0 0 .no, .box [.str x7, .str x8, .int .i64 x9, .int .i64 x10, .int .i64 x11, .int .i64 x12, .int .i64 x13, .sl .str x14], .box [.own 4 [] 0, .int .i64 x15, .int .i64 x16], .row .step x17 0 0 0 .no]) =
 ifb (decide (x3 < x2)) (ifb (inb x3 x1.length) (ifb (inb (max2A (IntKind.i64.wrap (x3 - (1 : Int))) (0 : Int)) x0.length) (ifb (inb x3 x0.length) (ifb (inb x3 x0.length) (ifb (decide ((x17.length + [Stp.mk (x1.getD x3.toNat (Q8e3.C.dflt Ty.cell)).x (x1.getD x3.toNat (Q8e3.C.dflt Ty.cell)).y (min2A (x0.getD (max2A (IntKind.i64.wrap (x3 - (1 : Int))) (0 : Int)).toNat (Q8e3.C.dflt Ty.int)) (x0.getD x3.toNat (Q8e3.C.dflt Ty.int))) (max2A (x0.getD (max2A (IntKind.i64.wrap (x3 - (1 : Int))) (0 : Int)).toNat (Q8e3.C.dflt Ty.int)) (x0.getD x3.toNat (Q8e3.C.dflt Ty.int))) (IntKind.i64.wrap (x11 + IntKind.i64.wrap (x3 * x9))) (IntKind.i64.wrap (x12 + IntKind.i64.wrap (x3 * x10)))].length) * Qbhn Q8e3.P (47 : Nat) ≤ (140737488355328 : Nat))) (some (.go (Qu6t Q8e3.fn 15) [.ptr 0 0, .ptr 2 0, .ptr 3 0, .sl .int x0, .sl .cell x1, .int .i64 x2, .int .i64 (IntKind.i64.wrap (x3 + (1 : Int)))] [.box [.own 1 [] 0, .int .i64 x4, .int .i64 x5], .row .step x6 0 0 0 .no, .box [.str x7, .str x8, .int .i64 x9, .int .i64 x10, .int .i64 x11, .int .i64 x12, .int .i64 x13, .sl .str x14], .box [.own 4 [] 0, .int .i64 x15, .int .i64 x16], .row .step (x17 ++ [Stp.mk (x1.getD x3.toNat (Q8e3.C.dflt Ty.cell)).x (x1.getD x3.toNat (Q8e3.C.dflt Ty.cell)).y (min2A (x0.getD (max2A (IntKind.i64.wrap (x3 - (1 : Int))) (0 : Int)).toNat (Q8e3.C.dflt Ty.int)) (x0.getD x3.toNat (Q8e3.C.dflt Ty.int))) (max2A (x0.getD (max2A (IntKind.i64.wrap (x3 - (1 : Int))) (0 : Int)).toNat (Q8e3.C.dflt Ty.int)) (x0.getD x3.toNat (Q8e3.C.dflt Ty.int))) (IntKind.i64.wrap (x11 + IntKind.i64.wrap (x3 * x9))) (IntKind.i64.wrap (x12 + IntKind.i64.wrap (x3 * x10)))]) 0 0 0 .no])) (none)) (none)) (none)) (none)) (none)) (some (.ret (.tup [.agg [.sl .step x17, .int .i64 x15, .int .i64 x16], .int .i64 (0 : Int)]) [])) := by kernel_rfl
theorem Qtic (f : Flight) (cs : List Cell) (F B : Int) (h40 : cs.length ≤ 40) (h0 : 0 ≤ f.frm) (h1 : f.frm ≤ f.by_) (h2 : f.by_ ≤ 10000) (h3 : 1 ≤ f.kind.quick) (h4 : f.kind.quick ≤ f.kind.slow) (h5 : f.kind.slow ≤ 50) (h6 : inR f.level 1 6 = true) : ∀ (d k : Nat), k + d = cs.length →
  Cut Q8e3 Qwuz 15 [.ptr 0 0, .ptr 2 0, .ptr 3 0, .sl .int (Qc07 cs.length f.level), .sl .cell cs, .int .i64 (cs.length : Int), .int .i64 (k : Int)] [.box [.own 1 [] 0, .int .i64 0, .int .i64 0], .row .step [] 0 0 0 .no, .box [.str f.name, .str f.kind.name, .int .i64 f.kind.quick, .int .i64 f.kind.slow, .int .i64 f.frm, .int .i64 f.by_, .int .i64 f.level, .sl .str f.route], .box [.own 4 [] 0, .int .i64 F, .int .i64 B], .row .step ((List.range k).map (Q9ns f cs)) 0 0 0 .no] (.tup [.agg [.sl .step ((List.range cs.length).map (Q9ns f cs)), .int .i64 F, .int .i64 B], .int .i64 0]) [] := by
 have hbs : Qbhn Q8e3.P 47 = 48 := by kernel_rfl
 intro d
 induction d with
 | zero =>
  intro k hk
  refine Cut.of Qqun rfl (Q1gs _ cs cs.length k 0 0 [] f.name f.kind.name f.kind.quick f.kind.slow f.frm f.by_ f.level f.route F B _) ?_
  rw [decide_eq_false (by omega), Qk7y]
  refine Sat.ret ?_ rfl
  rw [show k = cs.length by omega]
 | succ d ih =>
  intro k hk
  refine Cut.of Qqun rfl (Q1gs _ cs cs.length k 0 0 [] f.name f.kind.name f.kind.quick f.kind.slow f.frm f.by_ f.level f.route F B _) ?_
  have hlt : k < cs.length := by omega
  have hL : (Qc07 cs.length f.level).length = cs.length := Q5vz (by omega) h40 h6
  have hw : IntKind.wrap .i64 ((k : Int) + 1) = ((k + 1 : Nat) : Int) := by rw [Qbrg] <;> omega
  have hw1 : IntKind.wrap .i64 ((k : Int) - 1) = (k : Int) - 1 := by rw [Qbrg] <;> omega
  have hx : cs.getD (k : Int).toNat (Q8e3.C.dflt .cell) = cs.getD k ⟨0, 0⟩ := by simp [hlt]
  have hdi : Q8e3.C.dflt Ty.int = (0 : Int) := rfl
  have ek : (k : Int).toNat = k := by omega
  have i1 : inb (k : Int) cs.length = true := by simp only [inb, Bool.and_eq_true, decide_eq_true_eq]; omega
  have pq : (k : Int) * f.kind.quick ≤ 40 * 50 ∧ 0 ≤ (k : Int) * f.kind.quick := ⟨Int.mul_le_mul (by omega) (by omega) (by omega) (by omega), Int.mul_nonneg (by omega) (by omega)⟩
  have ps : (k : Int) * f.kind.slow ≤ 40 * 50 ∧ 0 ≤ (k : Int) * f.kind.slow := ⟨Int.mul_le_mul (by omega) (by omega) (by omega) (by omega), Int.mul_nonneg (by omega) (by omega)⟩
  have w1 : IntKind.wrap .i64 ((k : Int) * f.kind.quick) = (k : Int) * f.kind.quick := Qbrg (by omega) (by omega)
  have w2 : IntKind.wrap .i64 ((k : Int) * f.kind.slow) = (k : Int) * f.kind.slow := Qbrg (by omega) (by omega)
  have w3 : IntKind.wrap .i64 (f.frm + (k : Int) * f.kind.quick) = f.frm + (k : Int) * f.kind.quick := Qbrg (by omega) (by omega)
  have w4 : IntKind.wrap .i64 (f.by_ + (k : Int) * f.kind.slow) = f.by_ + (k : Int) * f.kind.slow := Qbrg (by omega) (by omega)
  have hroom : ∀ z : Stp, decide ((((List.range k).map (Q9ns f cs)).length + [z].length) * 48 ≤ 140737488355328) = true := fun z => decide_eq_true (by simp; omega)
  have nxt := ih (k + 1) (by omega)
  rw [List.range_succ, List.map_append, List.map_cons, List.map_nil] at nxt
  have hm : max2A ((k : Int) - 1) 0 = ((k - 1 : Nat) : Int) := by unfold max2A; split <;> omega
  have i2 : inb ((k - 1 : Nat) : Int) cs.length = true := by simp only [inb, Bool.and_eq_true, decide_eq_true_eq]; omega
  have mn : ∀ x y : Int, min2A x y = min x y := fun x y => by unfold min2A; split <;> omega
  have mx : ∀ x y : Int, max2A x y = max x y := fun x y => by unfold max2A; split <;> omega
  rw [hx, hdi, ek, hw, hw1, hm, hL, i1, i2, Int.toNat_natCast, mn, mx, w1, w2, w3, w4, hbs, hroom, decide_eq_true (by omega : (k : Int) < (cs.length : Int))]
  exact Sat.cut nxt
theorem Qc7q (ks : List Kind) (ps : List Point) (es : List Entry) (n : Str) (hg : (szB es && decide (es.length < 1000000000)) = true) : Qewq Tryz.prog CP Qwuz [.agg [.sl .kind ks, .sl .point ps, .sl .entry es], .str n] [] (pathV (pathF ks ps es n)) [] := by
 refine Qewq.of Qqun (by kernel_rfl) (Qzjm ks ps es n) ?_
 have hg2 := hg
 simp only [Bool.and_eq_true, decide_eq_true_eq] at hg
 have hz := hg.1
 have no : ∀ c : Int, pathF ks ps es n = ⟨[], 0, 0, c⟩ → Sat Q8e3 Qwuz (pathV (pathF ks ps es n)) [] (some (.ret (.tup [.agg [.sl .step [], .int .i64 (0 : Int), .int .i64 (0 : Int)], .int .i64 c]) [])) := fun c h => by
  rw [h]; exact Sat.ret rfl rfl
 rw [hz]
 cases hb : Qn0o ks ps es with
 | false => exact no 1 (by simp [pathF, hb])
 | true =>
  cases hst : stB ks ps es n with
  | none => exact no 2 (by simp [pathF, hb, hst])
  | some f =>
   obtain ⟨h0, h1, h2, h3, h4, h5, h6⟩ := fl_ok hst
   have hp16 := (Qrzz (Qg6k hb).1).2
   simp only [Option.getD_some, Option.isSome_some]
   rw [decide_eq_true (by omega : ps.length < 1000000000)]
   have hcase : Qqfy ks ps f.route = none ∨ ∃ cs, Qqfy ks ps f.route = some cs := by cases Qqfy ks ps f.route <;> simp
   rcases hcase with hc | ⟨cs, hc⟩
   ·simp only [hc, Option.isSome_none]
    exact no 3 (by simp [pathF, hb, hst, hc])
   ·simp only [hc]
    have h40 : cs.length ≤ 40 := by
     unfold Qqfy at hc
     split at hc
     ·rename_i hx
      simp only [Option.some.injEq] at hc
      subst hc; exact hx.2.2
     ·cases hc
    simp only [Option.getD_some, Option.isSome_some]
    have pq : (cs.length : Int) * f.kind.quick ≤ 40 * 50 ∧ 0 ≤ (cs.length : Int) * f.kind.quick := ⟨Int.mul_le_mul (by omega) (by omega) (by omega) (by omega), Int.mul_nonneg (by omega) (by omega)⟩
    have ps2 : (cs.length : Int) * f.kind.slow ≤ 40 * 50 ∧ 0 ≤ (cs.length : Int) * f.kind.slow := ⟨Int.mul_le_mul (by omega) (by omega) (by omega) (by omega), Int.mul_nonneg (by omega) (by omega)⟩
    have w1 : IntKind.wrap .i64 ((cs.length : Int) * f.kind.quick) = (cs.length : Int) * f.kind.quick := Qbrg (by omega) (by omega)
    have w2 : IntKind.wrap .i64 ((cs.length : Int) * f.kind.slow) = (cs.length : Int) * f.kind.slow := Qbrg (by omega) (by omega)
    have w3 : IntKind.wrap .i64 (f.frm + (cs.length : Int) * f.kind.quick) = f.frm + (cs.length : Int) * f.kind.quick := Qbrg (by omega) (by omega)
    have w4 : IntKind.wrap .i64 (f.by_ + (cs.length : Int) * f.kind.slow) = f.by_ + (cs.length : Int) * f.kind.slow := Qbrg (by omega) (by omega)
    simp only [w1, w2, w3, w4]
    by_cases hl : f.by_ + (cs.length : Int) * f.kind.slow > 10000
    ·rw [decide_eq_true hl]
     exact no 4 (by simp only [pathF, hb, hst, hc, if_true]; rw [if_pos hl])
    ·rw [decide_eq_false hl]
     rw [show pathF ks ps es n = ⟨(List.range cs.length).map (Q9ns f cs), f.frm + cs.length * f.kind.quick, f.by_ + cs.length * f.kind.slow, 0⟩ by simp only [pathF, hb, hst, hc, if_true]; rw [if_neg hl]]
     exact Sat.cut (Qtic f cs _ _ h40 h0 h1 h2 h3 h4 h5 h6 cs.length 0 (Nat.zero_add _))
theorem Q5y3 : EntOK Tryz.prog CP Qwuz Qrhz := by
 refine ⟨⟨Tryz.f17, by kernel_rfl, by kernel_rfl, by kernel_rfl⟩, fun args H res H' h => ?_⟩
 simp only [Qrhz, Q4vh] at h
 split at h
 ·simp only [Option.some.injEq, Prod.mk.injEq] at h
  obtain ⟨hg, rfl, rfl⟩ := h
  exact Qc7q _ _ _ _ hg
 ·cases h
end Lx
/- A contract that tells a row that stayed as a new one. -/
namespace Lx
open Go
section
variable {Ty : Type} {El : Ty → Type} {C : Cod Ty El} {P : Program}
theorem Qewq.args {g : FuncId} {args args' : List (AV Ty El)} {H : List (AObj Ty El)} {res : AV Ty El} {H' : List (AObj Ty El)} (h : Qewq P C g args H res H') (hl : args'.length = args.length)
  (hw : ∀ (j : Nat) x x', args[j]? = some x → args'[j]? = some x' → ∀ (N : Nm) (w : World) (v : Value), RepA C N w v x' → RepA C N w v x) : Qewq P C g args' H res H' := by
 intro w N vs hN hsz hrep
 refine h w N vs hN (hsz.trans hl) (fun j v x hv hx => ?_)
 have hj : j < args'.length := by rw [hl]; exact (List.getElem?_eq_some_iff.1 hx).1
 exact hw j x _ hx (List.getElem?_eq_getElem hj) N w v (hrep j v _ hv (List.getElem?_eq_getElem hj))
end
end Lx
/- Meanings: the law of paths' helpers. -/
namespace Lx
open Go Go.Proofs
end Lx
/- The law of paths: helpers. -/
namespace Lx
open Go Go.Proofs
end Lx
/- Meanings: the law of paths. -/
namespace Lx
open Go Go.Proofs
end Lx
/- Meanings: over a point. -/
namespace Lx
open Go Go.Proofs
def Qu7i (x y last : Int) : List Stp → Option (Int × Int)
 | [] => none
 | s :: l => if s.x = x ∧ s.y = y then some (s.frm, IntKind.wrap .i64 ((match l with | [] => last | t :: _ => t.by_) - 1)) else Qu7i x y last l
def Q61o (last : Int) : List Stp → Int
 | [] => last
 | t :: _ => t.by_
theorem Qa4v (x y last : Int) (s : Stp) (l : List Stp) : Qu7i x y last (s :: l) = if s.x = x ∧ s.y = y then some (s.frm, IntKind.wrap .i64 (Q61o last l - 1)) else Qu7i x y last l := by
 cases l <;> simp [Qu7i, Q61o]
def overF (ks : List Kind) (ps : List Point) (es : List Entry) (n p : Str) : Option (Int × Int) :=
 if (pathF ks ps es n).code = 0 ∧ 0 ≤ Qigq ps p then Qu7i (ptOf ps p).x (ptOf ps p).y (pathF ks ps es n).by_ (pathF ks ps es n).steps else none
theorem Qjls {ks : List Kind} {ps : List Point} {es : List Entry} {n : Str} : (pathF ks ps es n).steps.length ≤ 40 := by
 unfold pathF
 split
 ·split
  ·simp
  ·rename_i f hf
   split
   ·simp
   ·rename_i cs hc
    split
    ·simp
    ·unfold Qqfy at hc
     split at hc
     ·rename_i hx
      simp only [Option.some.injEq] at hc
      subst hc
      simpa using hx.2.2
     ·cases hc
 ·simp
def overV (o : Option (Int × Int)) : V := .tup [.int .i64 (o.getD (0, 0)).1, .int .i64 (o.getD (0, 0)).2, .bool o.isSome]
def Qgsc : Ent Ty El := ⟨[.ro, .ro, .ro], 0, fun a h => match a, h with
 | [.agg [.sl .kind ks, .sl .point ps, .sl .entry es], .str n, .str p], [] => some ((szB es && decide (es.length < 1000000000)) && decide (ps.length < 1000000000), overV (overF ks ps es n p), [])
 | _, _ => none⟩
def Qcyu : Ent Ty El := Qgsc
end Lx
/- Over a point. -/
namespace Lx
open Go Go.Proofs
noncomputable def Qw0a : RE Ty El := ⟨Tryz.prog, CP, [(Q2jn, Q4vh), (Qne3, Q41f)], Tryz.f33, 0, [], [(6, [(3, .any), (9, .any), (11, .any), (12, .any)])]⟩
theorem Qfkr : REOK Qw0a Q92w := ⟨CP_ok, (TabOK.cons Q9yb (TabOK.cons Qcao Qye1)), by kernel_rfl, by kernel_rfl⟩
theorem Qsdt (ks : List Kind) (ps : List Point) (es : List Entry) (n p : Str) : aRun Qw0a 600 false (body0 Qw0a.fn) (Q4gm Qw0a.fn [.agg [.sl .kind ks, .sl .point ps, .sl .entry es], .str n, .str p] []) =
 ifb (szB es && decide (es.length < (1000000000 : Nat))) (ifb (decide (ps.length < (1000000000 : Nat))) (ifb ((pathF ks ps es n).code != (0 : Int)) (some (.ret (.tup [.int .i64 (0 : Int), .int .i64 (0 : Int), .bool false]) [])) (ifb (decide (idxF (fun p_1 => p_1.name == p) ps < (0 : Int))) (some (.ret (.tup [.int .i64 (0 : Int), .int .i64 (0 : Int), .bool false]) [])) (some (.go (Qu6t Qw0a.fn 6) [.ptr 0 0, .ptr 1 0, .int .i64 (idxF (fun p_1 => p_1.name == p) ps), .int .i64 (0 : Int)] [.box [.sl .kind ks, .sl .point ps, .sl .entry es], .box [.sl .step ((pathF ks ps es n).steps), .int .i64 ((pathF ks ps es n).frm), .int .i64 ((pathF ks ps es n).by_)]])))) (none)) (none) := by kernel_rfl
theorem Q3kt (x0 : Int) (x1 : Int) (x2 : List (El .kind)) (x3 : List (El .point)) (x4 : List (El .entry)) (x5 : List (El .step)) (x6 : Int) (x7 : Int) : aRun Qw0a 600 true (Qu6t Qw0a.fn 6) (cutSt Qw0a.fn (Q1m4 Qw0a (Qu6t Qw0a.fn 6)) [.ptr 0 0, .ptr 1 0, .int .i64 x0, .int .i64 x1] [.box [.sl .kind x2, .sl .point x3, .sl .entry x4], .box [.sl .step x5, .int .i64 x6, .int .i64 x7]]) =
 ifb (decide (x1 < (↑x5.length : Int))) (ifb (inb x1 x5.length) (ifb (inb x0 x3.length) (ifb ((x5.getD x1.toNat (Qw0a.C.dflt Ty.step)).x == (x3.getD x0.toNat (Qw0a.C.dflt Ty.point)).x) (ifb (inb x1 x5.length) (ifb (inb x0 x3.length) (ifb ((x5.getD x1.toNat (Qw0a.C.dflt Ty.step)).y == (x3.getD x0.toNat (Qw0a.C.dflt Ty.point)).y) (ifb (decide (IntKind.i64.wrap (x1 + (1 : Int)) < (↑x5.length : Int))) (ifb (inb x1 x5.length) (ifb (inb (IntKind.i64.wrap (x1 + (1 : Int))) x5.length) (some (.ret (.tup [.int .i64 ((x5.getD x1.toNat (Qw0a.C.dflt Ty.step)).frm), .int .i64 (IntKind.i64.wrap ((x5.getD (IntKind.i64.wrap (x1 + (1 : Int))).toNat (Qw0a.C.dflt Ty.step)).by_ - (1 : Int))), .bool true]) [])) (none)) (none)) (ifb (inb x1 x5.length) (some (.ret (.tup [.int .i64 ((x5.getD x1.toNat (Qw0a.C.dflt Ty.step)).frm), .int .i64 (IntKind.i64.wrap (x7 - (1 : Int))), .bool true]) [])) (none))) (some (.go (Qu6t Qw0a.fn 6) [.ptr 0 0, .ptr 1 0, .int .i64 x0, .int .i64 (IntKind.i64.wrap (x1 + (1 : Int)))] [.box [.sl .kind x2, .sl .point x3, .sl .entry x4], .box [.sl .step x5, .int .i64 x6, .int .i64 x7]]))) (none)) (none)) (some (.go (Qu6t Qw0a.fn 6) [.ptr 0 0, .ptr 1 0, .int .i64 x0, .int .i64 (IntKind.i64.wrap (x1 + (1 : Int)))] [.box [.sl .kind x2, .sl .point x3, .sl .entry x4], .box [.sl .step x5, .int .i64 x6, .int .i64 x7]]))) (none)) (none)) (some (.ret (.tup [.int .i64 (0 : Int), .int .i64 (0 : Int), .bool false]) [])) := by kernel_rfl
theorem Qn6i (ks : List Kind) (ps : List Point) (es : List Entry) (p : Str) (ss : List Stp) (F B : Int) (h40 : ss.length ≤ 40) (hk : 0 ≤ Qigq ps p) : ∀ (d i : Nat), i + d = ss.length →
  Cut Qw0a Q92w 6 [.ptr 0 0, .ptr 1 0, .int .i64 (Qigq ps p), .int .i64 (i : Int)] [.box [.sl .kind ks, .sl .point ps, .sl .entry es], .box [.sl .step ss, .int .i64 F, .int .i64 B]] (overV (Qu7i (ptOf ps p).x (ptOf ps p).y B (ss.drop i))) [] := by
 have h2 := Q1mf (p := fun q : Point => q.name == p) (l := ps)
 have h3 : Qigq ps p = idxF (fun q : Point => q.name == p) ps := rfl
 have hip : inb (Qigq ps p) ps.length = true := by simp only [inb, Bool.and_eq_true, decide_eq_true_eq]; omega
 have hpt : ps.getD (Qigq ps p).toNat (Qw0a.C.dflt .point) = ptOf ps p := rfl
 intro d
 induction d with
 | zero =>
  intro i hi
  refine Cut.of Qfkr rfl (Q3kt (Qigq ps p) i ks ps es ss F B) ?_
  rw [decide_eq_false (by omega), List.drop_of_length_le (by omega)]
  exact Sat.ret rfl rfl
 | succ d ih =>
  intro i hi
  refine Cut.of Qfkr rfl (Q3kt (Qigq ps p) i ks ps es ss F B) ?_
  have hlt : i < ss.length := by omega
  have hw : IntKind.wrap .i64 ((i : Int) + 1) = ((i + 1 : Nat) : Int) := by rw [Qbrg] <;> omega
  have hw1 : IntKind.wrap .i64 ((i : Int) - 1) = (i : Int) - 1 := by rw [Qbrg] <;> omega
  have hd : ss.drop i = ss[i] :: ss.drop (i + 1) := List.drop_eq_getElem_cons hlt
  have hx : ss.getD (i : Int).toNat (Qw0a.C.dflt .step) = ss[i] := by simp [hlt]
  have hin : inb (i : Int) ss.length = true := by simp only [inb, Bool.and_eq_true, decide_eq_true_eq]; omega
  have hlo : decide ((i : Int) < (ss.length : Int)) = true := decide_eq_true (by omega)
  have htk := List.take_succ_eq_append_getElem hlt
  have hl : (ss.take (i + 1)).getLast? = some ss[i] := by rw [List.take_succ_eq_append_getElem hlt, List.getLast?_concat]
  rw [hlo, hin, hx, hw, hip, hpt, hd, Qa4v]
  simp only [Qd8q]
  by_cases cx : ss[i].x = (ptOf ps p).x
  ·by_cases cy : ss[i].y = (ptOf ps p).y
   ·rw [if_pos ⟨cx, cy⟩]
    rw [beq_iff_eq.2 cx, beq_iff_eq.2 cy]
    simp only [Qd8q]
    by_cases hl1 : i + 1 < ss.length
    ·have i2 : inb ((i + 1 : Nat) : Int) ss.length = true := by simp only [inb, Bool.and_eq_true, decide_eq_true_eq]; omega
     have hd2 : ss.drop (i + 1) = ss[i + 1] :: ss.drop (i + 1 + 1) := List.drop_eq_getElem_cons hl1
     have hx2 : ss.getD ((i + 1 : Nat) : Int).toNat (Qw0a.C.dflt .step) = ss[i + 1] := by simp [hl1]
     rw [decide_eq_true (by omega : ((i + 1 : Nat) : Int) < (ss.length : Int)), i2, hx2, hd2]
     exact Sat.ret rfl rfl
    ·rw [decide_eq_false (by omega : ¬ ((i + 1 : Nat) : Int) < (ss.length : Int)), List.drop_of_length_le (by omega : ss.length ≤ i + 1)]
     exact Sat.ret rfl rfl
   ·rw [if_neg (fun h => cy h.2)]
    rw [beq_iff_eq.2 cx, beq_eq_false_iff_ne.2 cy]
    exact Sat.cut (ih (i + 1) (by omega))
  ·rw [if_neg (fun h => cx h.1)]
   rw [beq_eq_false_iff_ne.2 cx]
   exact Sat.cut (ih (i + 1) (by omega))
theorem Q3da (ks : List Kind) (ps : List Point) (es : List Entry) (n p : Str) (hg : ((szB es && decide (es.length < 1000000000)) && decide (ps.length < 1000000000)) = true) : Qewq Tryz.prog CP Q92w [.agg [.sl .kind ks, .sl .point ps, .sl .entry es], .str n, .str p] [] (overV (overF ks ps es n p)) [] := by
 refine Qewq.of Qfkr (by kernel_rfl) (Qsdt ks ps es n p) ?_
 simp only [Bool.and_eq_true, decide_eq_true_eq] at hg
 have hg1 : (szB es && decide (es.length < 1000000000)) = true := by rw [hg.1.1, decide_eq_true hg.1.2]; rfl
 have no : overF ks ps es n p = none → Sat Qw0a Q92w (overV (overF ks ps es n p)) [] (some (.ret (.tup [.int .i64 (0 : Int), .int .i64 (0 : Int), .bool false]) [])) := fun h => by
  rw [h]; exact Sat.ret rfl rfl
 have hp : idxF (fun q => q.name == p) ps = Qigq ps p := rfl
 rw [hg1, decide_eq_true hg.2, hp]
 simp only [Qd8q]
 by_cases hc : (pathF ks ps es n).code = 0
 ·rw [show ((pathF ks ps es n).code != 0) = false by simp [hc]]
  by_cases h0 : 0 ≤ Qigq ps p
  ·rw [decide_eq_false (by omega : ¬ Qigq ps p < 0)]
   rw [show overF ks ps es n p = Qu7i (ptOf ps p).x (ptOf ps p).y (pathF ks ps es n).by_ (pathF ks ps es n).steps by rw [overF, if_pos ⟨hc, h0⟩]]
   exact Sat.cut (Qn6i ks ps es p (pathF ks ps es n).steps _ _ Qjls h0 _ 0 (Nat.zero_add _))
  ·rw [decide_eq_true (by omega : Qigq ps p < 0)]
   exact no (by rw [overF, if_neg (fun h => h0 h.2)])
 ·rw [show ((pathF ks ps es n).code != 0) = true by simp [hc]]
  exact no (by rw [overF, if_neg (fun h => hc h.1)])
theorem Qzro : EntOK Tryz.prog CP Q92w Qgsc := by
 refine ⟨⟨Tryz.f33, by kernel_rfl, by kernel_rfl, by kernel_rfl⟩, fun args H res H' h => ?_⟩
 simp only [Qgsc] at h
 split at h
 ·simp only [Option.some.injEq, Prod.mk.injEq] at h
  obtain ⟨hg, rfl, rfl⟩ := h
  exact Q3da _ _ _ _ _ hg
 ·cases h

noncomputable def Qua0 : RE Ty El := ⟨Tryz.prog, CP, [(Qwuz, Qrhz), (Q8ie, Q4q8)], Tryz.f32, 0, [], [(6, [(3, .any), (9, .any), (11, .any), (32, .any), (33, .any), (34, .any)])]⟩
theorem Qi06 : REOK Qua0 Q1rj := ⟨CP_ok, (TabOK.cons Q5y3 (TabOK.cons Q5yh Qye1)), by kernel_rfl, by kernel_rfl⟩
theorem Qkh6 (ks : List Kind) (ps : List Point) (es : List Entry) (n p : Str) : aRun Qua0 600 false (body0 Qua0.fn) (Q4gm Qua0.fn [.agg [.sl .kind ks, .sl .point ps, .sl .entry es], .str n, .str p] []) =
 ifb (szB es && decide (es.length < (1000000000 : Nat))) (ifb (decide (ps.length < (1000000000 : Nat))) (ifb ((pathF ks ps es n).code != (0 : Int)) (some (.ret (.tup [.int .i64 (0 : Int), .int .i64 (0 : Int), .bool false]) [])) (ifb (decide (idxF (fun p_1 => p_1.name == p) ps < (0 : Int))) (some (.ret (.tup [.int .i64 (0 : Int), .int .i64 (0 : Int), .bool false]) [])) (some (.go (Qu6t Qua0.fn 6) [.ptr 0 0, .ptr 1 0, .int .i64 (idxF (fun p_1 => p_1.name == p) ps), .sl .step ((pathF ks ps es n).steps), .int .i64 ((↑(pathF ks ps es n).steps.length : Int)), .int .i64 (0 : Int)] [.box [.sl .kind ks, .sl .point ps, .sl .entry es], .box [.sl .step ((pathF ks ps es n).steps), .int .i64 ((pathF ks ps es n).frm), .int .i64 ((pathF ks ps es n).by_)]])))) (none)) (none) := by kernel_rfl
theorem Qvpj (x0 : Int) (x1 : List (El .step)) (x2 : Int) (x3 : Int) (x4 : List (El .kind)) (x5 : List (El .point)) (x6 : List (El .entry)) (x7 : List (El .step)) (x8 : Int) (x9 : Int) : aRun Qua0 600 true (Qu6t Qua0.fn 6) (cutSt Qua0.fn (Q1m4 Qua0 (Qu6t Qua0.fn 6)) [.ptr 0 0, .ptr 1 0, .int .i64 x0, .sl .step x1, .int .i64 x2, .int .i64 x3] [.box [.sl .kind x4, .sl .point x5, .sl .entry x6], .box [.sl .step x7, .int .i64 x8, .int .i64 x9]]) =
 ifb (decide (x3 < x2)) (ifb (inb x3 x1.length) (ifb (inb x0 x5.length) (ifb ((x1.getD x3.toNat (Qua0.C.dflt Ty.step)).x != (x5.getD x0.toNat (Qua0.C.dflt Ty.point)).x) (some (.go (Qu6t Qua0.fn 6) [.ptr 0 0, .ptr 1 0, .int .i64 x0, .sl .step x1, .int .i64 x2, .int .i64 (IntKind.i64.wrap (x3 + (1 : Int)))] [.box [.sl .kind x4, .sl .point x5, .sl .entry x6], .box [.sl .step x7, .int .i64 x8, .int .i64 x9]])) (ifb (inb x0 x5.length) (ifb ((x1.getD x3.toNat (Qua0.C.dflt Ty.step)).y != (x5.getD x0.toNat (Qua0.C.dflt Ty.point)).y) (some (.go (Qu6t Qua0.fn 6) [.ptr 0 0, .ptr 1 0, .int .i64 x0, .sl .step x1, .int .i64 x2, .int .i64 (IntKind.i64.wrap (x3 + (1 : Int)))] [.box [.sl .kind x4, .sl .point x5, .sl .entry x6], .box [.sl .step x7, .int .i64 x8, .int .i64 x9]])) (ifb (decide (IntKind.i64.wrap (x3 + (1 : Int)) < (↑x7.length : Int))) (ifb (inb (IntKind.i64.wrap (x3 + (1 : Int))) x7.length) (some (.ret (.tup [.int .i64 ((x1.getD x3.toNat (Qua0.C.dflt Ty.step)).frm), .int .i64 (IntKind.i64.wrap ((x7.getD (IntKind.i64.wrap (x3 + (1 : Int))).toNat (Qua0.C.dflt Ty.step)).by_ - (1 : Int))), .bool true]) [])) (none)) (some (.ret (.tup [.int .i64 ((x1.getD x3.toNat (Qua0.C.dflt Ty.step)).frm), .int .i64 (IntKind.i64.wrap (x9 - (1 : Int))), .bool true]) [])))) (none))) (none)) (none)) (some (.ret (.tup [.int .i64 (0 : Int), .int .i64 (0 : Int), .bool false]) [])) := by kernel_rfl
theorem Qfw2 (ks : List Kind) (ps : List Point) (es : List Entry) (p : Str) (ss : List Stp) (F B : Int) (h40 : ss.length ≤ 40) (hk : 0 ≤ Qigq ps p) : ∀ (d i : Nat), i + d = ss.length →
  Cut Qua0 Q1rj 6 [.ptr 0 0, .ptr 1 0, .int .i64 (Qigq ps p), .sl .step ss, .int .i64 (ss.length : Int), .int .i64 (i : Int)] [.box [.sl .kind ks, .sl .point ps, .sl .entry es], .box [.sl .step ss, .int .i64 F, .int .i64 B]] (overV (Qu7i (ptOf ps p).x (ptOf ps p).y B (ss.drop i))) [] := by
 have h2 := Q1mf (p := fun q : Point => q.name == p) (l := ps)
 have h3 : Qigq ps p = idxF (fun q : Point => q.name == p) ps := rfl
 have hip : inb (Qigq ps p) ps.length = true := by simp only [inb, Bool.and_eq_true, decide_eq_true_eq]; omega
 have hpt : ps.getD (Qigq ps p).toNat (Qua0.C.dflt .point) = ptOf ps p := rfl
 intro d
 induction d with
 | zero =>
  intro i hi
  refine Cut.of Qi06 rfl (Qvpj (Qigq ps p) ss ss.length i ks ps es ss F B) ?_
  rw [decide_eq_false (by omega), List.drop_of_length_le (by omega)]
  exact Sat.ret rfl rfl
 | succ d ih =>
  intro i hi
  refine Cut.of Qi06 rfl (Qvpj (Qigq ps p) ss ss.length i ks ps es ss F B) ?_
  have hlt : i < ss.length := by omega
  have hw : IntKind.wrap .i64 ((i : Int) + 1) = ((i + 1 : Nat) : Int) := by rw [Qbrg] <;> omega
  have hw1 : IntKind.wrap .i64 ((i : Int) - 1) = (i : Int) - 1 := by rw [Qbrg] <;> omega
  have hd : ss.drop i = ss[i] :: ss.drop (i + 1) := List.drop_eq_getElem_cons hlt
  have hx : ss.getD (i : Int).toNat (Qua0.C.dflt .step) = ss[i] := by simp [hlt]
  have hin : inb (i : Int) ss.length = true := by simp only [inb, Bool.and_eq_true, decide_eq_true_eq]; omega
  have hlo : decide ((i : Int) < (ss.length : Int)) = true := decide_eq_true (by omega)
  have htk := List.take_succ_eq_append_getElem hlt
  have hl : (ss.take (i + 1)).getLast? = some ss[i] := by rw [List.take_succ_eq_append_getElem hlt, List.getLast?_concat]
  rw [hlo, hin, hx, hw, hip, hpt, hd, Qa4v]
  simp only [Qd8q]
  by_cases cx : ss[i].x = (ptOf ps p).x
  ·by_cases cy : ss[i].y = (ptOf ps p).y
   ·rw [if_pos ⟨cx, cy⟩]
    rw [show (ss[i].x != (ptOf ps p).x) = false by simp [cx], show (ss[i].y != (ptOf ps p).y) = false by simp [cy]]
    simp only [Qk7y]
    by_cases hl1 : i + 1 < ss.length
    ·have i2 : inb ((i + 1 : Nat) : Int) ss.length = true := by simp only [inb, Bool.and_eq_true, decide_eq_true_eq]; omega
     have hd2 : ss.drop (i + 1) = ss[i + 1] :: ss.drop (i + 1 + 1) := List.drop_eq_getElem_cons hl1
     have hx2 : ss.getD ((i + 1 : Nat) : Int).toNat (Qua0.C.dflt .step) = ss[i + 1] := by simp [hl1]
     rw [decide_eq_true (by omega : ((i + 1 : Nat) : Int) < (ss.length : Int)), i2, hx2, hd2]
     exact Sat.ret rfl rfl
    ·rw [decide_eq_false (by omega : ¬ ((i + 1 : Nat) : Int) < (ss.length : Int)), List.drop_of_length_le (by omega : ss.length ≤ i + 1)]
     exact Sat.ret rfl rfl
   ·rw [if_neg (fun h => cy h.2)]
    rw [show (ss[i].x != (ptOf ps p).x) = false by simp [cx], show (ss[i].y != (ptOf ps p).y) = true by simp [cy]]
    exact Sat.cut (ih (i + 1) (by omega))
  ·rw [if_neg (fun h => cx h.1)]
   rw [show (ss[i].x != (ptOf ps p).x) = true by simp [cx]]
   exact Sat.cut (ih (i + 1) (by omega))
theorem Qz7b (ks : List Kind) (ps : List Point) (es : List Entry) (n p : Str) (hg : ((szB es && decide (es.length < 1000000000)) && decide (ps.length < 1000000000)) = true) : Qewq Tryz.prog CP Q1rj [.agg [.sl .kind ks, .sl .point ps, .sl .entry es], .str n, .str p] [] (overV (overF ks ps es n p)) [] := by
 refine Qewq.of Qi06 (by kernel_rfl) (Qkh6 ks ps es n p) ?_
 simp only [Bool.and_eq_true, decide_eq_true_eq] at hg
 have hg1 : (szB es && decide (es.length < 1000000000)) = true := by rw [hg.1.1, decide_eq_true hg.1.2]; rfl
 have no : overF ks ps es n p = none → Sat Qua0 Q1rj (overV (overF ks ps es n p)) [] (some (.ret (.tup [.int .i64 (0 : Int), .int .i64 (0 : Int), .bool false]) [])) := fun h => by
  rw [h]; exact Sat.ret rfl rfl
 have hp : idxF (fun q => q.name == p) ps = Qigq ps p := rfl
 rw [hg1, decide_eq_true hg.2, hp]
 simp only [Qd8q]
 by_cases hc : (pathF ks ps es n).code = 0
 ·rw [show ((pathF ks ps es n).code != 0) = false by simp [hc]]
  by_cases h0 : 0 ≤ Qigq ps p
  ·rw [decide_eq_false (by omega : ¬ Qigq ps p < 0)]
   rw [show overF ks ps es n p = Qu7i (ptOf ps p).x (ptOf ps p).y (pathF ks ps es n).by_ (pathF ks ps es n).steps by rw [overF, if_pos ⟨hc, h0⟩]]
   exact Sat.cut (Qfw2 ks ps es p (pathF ks ps es n).steps _ _ Qjls h0 _ 0 (Nat.zero_add _))
  ·rw [decide_eq_true (by omega : Qigq ps p < 0)]
   exact no (by rw [overF, if_neg (fun h => h0 h.2)])
 ·rw [show ((pathF ks ps es n).code != 0) = true by simp [hc]]
  exact no (by rw [overF, if_neg (fun h => hc h.1)])
theorem Qfxg : EntOK Tryz.prog CP Q1rj Qcyu := by
 refine ⟨⟨Tryz.f32, by kernel_rfl, by kernel_rfl, by kernel_rfl⟩, fun args H res H' h => ?_⟩
 simp only [Qcyu, Qgsc] at h
 split at h
 ·simp only [Option.some.injEq, Prod.mk.injEq] at h
  obtain ⟨hg, rfl, rfl⟩ := h
  exact Qz7b _ _ _ _ _ hg
 ·cases h
end Lx
/- Plain facts: a path goes cell by cell; a route turned round. -/
namespace Lx
open Go Go.Proofs
theorem Q2st {d k n : Int} (hn : 0 < n) (h1 : -n ≤ d) (h2 : d ≤ n) : partF d k n - 1 ≤ partF d (k + 1) n ∧ partF d (k + 1) n ≤ partF d k n + 1 := by
 unfold partF
 have e : 2 * (k + 1) * d + n = (2 * k * d + n) + 2 * d := by
  rw [Int.mul_add, Int.add_mul, Int.mul_one]; omega
 rw [e]
 generalize 2 * k * d + n = x
 have a1 : (x + 2 * d) / (2 * n) ≤ (x + 1 * (2 * n)) / (2 * n) := Int.ediv_le_ediv (by omega) (by omega)
 have a2 : (x + (-1) * (2 * n)) / (2 * n) ≤ (x + 2 * d) / (2 * n) := Int.ediv_le_ediv (by omega) (by omega)
 rw [Int.add_mul_ediv_right _ _ (by omega)] at a1 a2
 exact ⟨a2, a1⟩
theorem Qy26 {q n : Int} (hn : 0 < n) : (q * (2 * n) + n) / (2 * n) = q := by
 rw [Int.add_comm, Int.add_mul_ediv_right _ _ (by omega), Int.ediv_eq_zero_of_lt (by omega) (by omega)]; omega
theorem Qo4z {k n : Int} (hn : 0 < n) : partF n k n = k := by
 unfold partF
 rw [show 2 * k * n = k * (2 * n) by rw [Int.mul_comm 2 k, Int.mul_assoc], Qy26 hn]
theorem Qhr5 {k n : Int} (hn : 0 < n) : partF (-n) k n = -k := by
 unfold partF
 rw [show 2 * k * (-n) = (-k) * (2 * n) by rw [Int.mul_neg, Int.neg_mul, Int.mul_comm 2 k, Int.mul_assoc], Qy26 hn]
theorem Qkmm {d n : Int} (hn : 0 < n) : partF d n n = d := by
 unfold partF
 rw [show 2 * n * d = d * (2 * n) by rw [Int.mul_comm], Qy26 hn]
def adjC (a b : Cell) : Prop := (-1 ≤ a.x - b.x ∧ a.x - b.x ≤ 1 ∧ -1 ≤ a.y - b.y ∧ a.y - b.y ≤ 1) ∧ (a.x - b.x ≠ 0 ∨ a.y - b.y ≠ 0)
theorem adjC.symm {a b : Cell} (h : adjC a b) : adjC b a := by unfold adjC at *; omega
theorem Q1he {a b : Cell} {k : Nat} (h : legN a b ≠ 0) : adjC (legAt a b k) (legAt a b (k + 1)) := by
 unfold legAt
 rw [if_neg h, if_neg h]
 have hx : (a.x - b.x).natAbs ≤ legN a b := Nat.le_max_left _ _
 have hy : (a.y - b.y).natAbs ≤ legN a b := Nat.le_max_right _ _
 have hz : (a.x - b.x).natAbs = legN a b ∨ (a.y - b.y).natAbs = legN a b := by unfold legN; omega
 generalize legN a b = n at *
 have hn : (0 : Int) < (n : Int) := by omega
 have px := Q2st (d := b.x - a.x) (k := (k : Int)) hn (by omega) (by omega)
 have py := Q2st (d := b.y - a.y) (k := (k : Int)) hn (by omega) (by omega)
 have one : ∀ d : Int, d.natAbs = n → partF d ((k : Int) + 1) n ≠ partF d k n := fun d hd => by
  have : d = (n : Int) ∨ d = -(n : Int) := by omega
  rcases this with rfl | rfl
  ·rw [Qo4z hn, Qo4z hn]; omega
  ·rw [Qhr5 hn, Qhr5 hn]; omega
 have ox := one (b.x - a.x)
 have oy := one (b.y - a.y)
 rw [show ((k + 1 : Nat) : Int) = (k : Int) + 1 by omega]
 simp only [adjC]
 generalize partF (b.x - a.x) ((k : Int) + 1) n = p1 at *
 generalize partF (b.x - a.x) k n = p0 at *
 generalize partF (b.y - a.y) ((k : Int) + 1) n = q1 at *
 generalize partF (b.y - a.y) k n = q0 at *
 refine ⟨⟨by omega, by omega, by omega, by omega⟩, ?_⟩
 rcases hz with hz | hz
 ·have := ox (by omega); left; omega
 ·have := oy (by omega); right; omega
theorem Q54l (a b : Cell) : legAt a b (legN a b) = b := by
 unfold legAt
 split
 ·rename_i h
  have h1 : a.x = b.x := by unfold legN at h; omega
  have h2 : a.y = b.y := by unfold legN at h; omega
  obtain ⟨ax, ay⟩ := a
  obtain ⟨bx, b_y⟩ := b
  simp only at h1 h2
  rw [h1, h2]
 ·rename_i h
  have hn : (0 : Int) < (legN a b : Int) := by omega
  rw [Qkmm hn, Qkmm hn]
  obtain ⟨bx, b_y⟩ := b
  simp only [Cell.mk.injEq]
  omega
theorem Qpue (a b : Cell) : legN a b = legN b a := by unfold legN; omega
def legG (a b : Cell) (i : Nat) : Cell := if Qdow a b = true then legAt b a (legN a b - i) else legAt a b i
theorem Qydz (a b : Cell) : Qppc a b = (List.range (legN a b + 1)).map (legG a b) := by
 unfold Qppc
 by_cases ht : Qdow a b = true
 ·rw [if_pos ht]
  apply List.ext_getElem
  ·simp [legF, Qpue a b]
  ·intro i h1 h2
   simp only [legF, List.length_reverse, List.length_map, List.length_range] at h1
   simp only [legF, List.getElem_reverse, List.getElem_map, List.getElem_range, List.length_map, List.length_range, legG, if_pos ht]
   rw [Qpue a b]
   congr 1
 ·rw [if_neg ht, legF]
  apply List.map_congr_left
  intro i hi
  rw [legG, if_neg ht]
theorem Qbog (a b : Cell) : legG a b 0 = a := by
 unfold legG
 split
 ·rw [Qpue a b, Nat.sub_zero, Q54l]
 ·exact Qse4 a b
theorem Qlkt (a b : Cell) : legG a b (legN a b) = b := by
 unfold legG
 split
 ·rw [Nat.sub_self]; exact Qse4 b a
 ·exact Q54l a b
theorem Qdm4 {a b : Cell} {i : Nat} (hi : i < legN a b) : adjC (legG a b i) (legG a b (i + 1)) := by
 unfold legG
 split
 ·have : legN a b - i = (legN a b - (i + 1)) + 1 := by omega
  rw [this]
  exact (Q1he (by rw [← Qpue a b]; omega)).symm
 ·exact Q1he (by omega)
def adjP {α : Type} (R : α → α → Prop) : List α → Prop
 | [] => True
 | [_] => True
 | a :: b :: l => R a b ∧ adjP R (b :: l)
theorem Qd6a {α : Type} {R : α → α → Prop} : ∀ {l : List α} {a : α} {m : List α}, adjP R (l ++ [a]) → adjP R (a :: m) → adjP R (l ++ a :: m)
 | [], a, m, _, h => h
 | [x], a, m, h1, h2 => ⟨h1.1, h2⟩
 | x :: y :: l, a, m, h1, h2 => ⟨h1.1, Qd6a (l := y :: l) h1.2 h2⟩
theorem Qnjh {α : Type} {R : α → α → Prop} (hs : ∀ a b, R a b → R b a) : ∀ {l : List α}, adjP R l → adjP R l.reverse
 | [], _ => trivial
 | [x], _ => trivial
 | x :: y :: l, h => by
  have ih := Qnjh hs (l := y :: l) h.2
  rw [List.reverse_cons] at ih ⊢
  rw [List.reverse_cons, List.append_assoc]
  exact Qd6a ih ⟨hs _ _ h.1, trivial⟩
theorem Qkiy {α : Type} {R : α → α → Prop} : ∀ (n : Nat) (g : Nat → α), (∀ i, i + 1 < n → R (g i) (g (i + 1))) → adjP R ((List.range n).map g)
 | 0, g, h => trivial
 | 1, g, h => trivial
 | n + 2, g, h => by
  have ih := Qkiy (n + 1) (fun i => g (i + 1)) (fun i hi => h (i + 1) (by omega))
  rw [List.range_succ_eq_map, List.map_cons, List.map_map]
  rw [List.range_succ_eq_map, List.map_cons, List.map_map] at ih ⊢
  exact ⟨h 0 (by omega), ih⟩
theorem Qjxn (a b : Cell) : ∃ t, Qppc a b = a :: t := by
 rw [Qydz, List.range_succ_eq_map, List.map_cons, Qbog]
 exact ⟨_, rfl⟩
theorem Qgv9 (a b : Cell) : ∃ t, Qppc a b = t ++ [b] := by
 rw [Qydz, List.range_succ, List.map_append, List.map_singleton, Qlkt]
 exact ⟨_, rfl⟩
theorem Qhks (a b : Cell) : adjP adjC (Qppc a b) := by
 rw [Qydz]
 exact Qkiy _ _ (fun i hi => Qdm4 (by omega))
theorem Qol1 (a b : Cell) : (Qppc a b).reverse = Qppc b a := by
 unfold Qppc
 by_cases h1 : Qdow a b = true
 ·have h2 : Qdow b a = false := by
   simp only [Qdow, Bool.or_eq_true, Bool.and_eq_true, beq_iff_eq, decide_eq_true_eq] at h1
   simp only [Qdow, Bool.or_eq_false_iff, Bool.and_eq_false_iff, beq_eq_false_iff_ne, decide_eq_false_iff_not]
   omega
  rw [if_pos h1, if_neg (by rw [h2]; simp), List.reverse_reverse]
 ·rw [if_neg h1]
  by_cases h2 : Qdow b a = true
  ·rw [if_pos h2]
  ·rw [if_neg h2]
   have e : a = b := by
    simp only [Qdow, Bool.or_eq_true, Bool.and_eq_true, beq_iff_eq, decide_eq_true_eq] at h1 h2
    obtain ⟨ax, ay⟩ := a
    obtain ⟨bx, b_y⟩ := b
    simp only [Cell.mk.injEq]
    simp only at h1 h2
    omega
   subst e
   have : legN a a = 0 := by unfold legN; omega
   simp [legF, this]
def polyF : List Cell → List Cell
 | [] => []
 | [a] => [a]
 | a :: b :: l => (Qppc a b).dropLast ++ polyF (b :: l)
theorem Q8rv : ∀ (u : List Cell) (x y : Cell), polyF (u ++ [x, y]) = polyF (u ++ [x]) ++ (Qppc x y).drop 1
 | [], x, y => by
  obtain ⟨t, ht⟩ := Qgv9 x y
  obtain ⟨s, hs⟩ := Qjxn x y
  simp only [List.nil_append, polyF]
  rw [hs, List.drop_succ_cons, List.drop_zero]
  rw [← hs, ht, List.dropLast_concat, ← ht, hs]; rfl
 | [a], x, y => by
  have ih := Q8rv [] x y
  simp only [List.nil_append] at ih
  show (Qppc a x).dropLast ++ polyF [x, y] = (Qppc a x).dropLast ++ polyF [x] ++ (Qppc x y).drop 1
  rw [ih, List.append_assoc]
 | a :: b :: u, x, y => by
  have ih := Q8rv (b :: u) x y
  show (Qppc a b).dropLast ++ polyF (b :: u ++ [x, y]) = (Qppc a b).dropLast ++ polyF (b :: u ++ [x]) ++ (Qppc x y).drop 1
  rw [ih, List.append_assoc]
theorem Q7ck : ∀ l : List Cell, polyF l.reverse = (polyF l).reverse
 | [] => rfl
 | [a] => rfl
 | a :: b :: l => by
  have ih := Q7ck (b :: l)
  rw [List.reverse_cons] at ih ⊢
  rw [List.reverse_cons, List.append_assoc]
  show polyF (l.reverse ++ [b, a]) = ((Qppc a b).dropLast ++ polyF (b :: l)).reverse
  rw [Q8rv, ih, List.reverse_append]
  congr 1
  rw [← Qol1 a b]
  obtain ⟨t, ht⟩ := Qgv9 a b
  rw [ht, List.dropLast_concat, List.reverse_append]
  rfl
theorem Qjsv (ps : List Point) (w : List Str) : ∀ m, m < w.length → Qya3 ps w m = polyF ((w.take (m + 1)).map (Qg2m ps))
 | 0, h => by
  have : w.take 1 = [w.getD 0 []] := by
   cases w with
   | nil => simp at h
   | cons a w => rfl
  simp [Qya3, this, polyF]
 | m + 1, h => by
  have e : ∀ k, k < w.length → w.take (k + 1) = w.take k ++ [w.getD k []] := fun k hk => by
   rw [List.take_succ_eq_append_getElem hk]; simp [hk]
  rw [Q0oy, Qjsv ps w m (by omega), e (m + 1) h, e m (by omega)]
  simp only [List.map_append, List.map_cons, List.map_nil, List.append_assoc, List.cons_append, List.nil_append]
  exact (Q8rv _ _ _).symm
theorem Qzip {ps : List Point} {w : List Str} (h : 0 < w.length) : Qya3 ps w (w.length - 1) = polyF (w.map (Qg2m ps)) := by
 rw [Qjsv ps w _ (by omega), show w.length - 1 + 1 = w.length by omega, List.take_length]
theorem Qkoz : ∀ l : List Cell, adjP adjC (polyF l) ∧ ∀ a t, l = a :: t → ∃ s, polyF l = a :: s
 | [] => ⟨trivial, fun a t h => by cases h⟩
 | [a] => ⟨trivial, fun x t h => by cases h; exact ⟨[], rfl⟩⟩
 | a :: b :: l => by
  obtain ⟨ih, hd⟩ := Qkoz (b :: l)
  obtain ⟨s, hs⟩ := hd b l rfl
  obtain ⟨t, ht⟩ := Qgv9 a b
  have hl := Qhks a b
  have e : polyF (a :: b :: l) = t ++ b :: s := by
   show (Qppc a b).dropLast ++ polyF (b :: l) = _
   rw [ht, List.dropLast_concat, hs]
  refine ⟨?_, fun x u h => ?_⟩
  ·rw [e]
   rw [ht] at hl
   rw [hs] at ih
   exact Qd6a hl ih
  ·cases h
   rw [e]
   obtain ⟨r, hr⟩ := Qjxn a b
   rw [hr] at ht
   cases t with
   | nil => simp at ht; exact ⟨s, by rw [← ht.1]; rfl⟩
   | cons c t => simp only [List.cons_append, List.cons.injEq] at ht; exact ⟨t ++ b :: s, by rw [← ht.1]; rfl⟩
theorem Qpb7 : ∀ (l : List Cell) (c : Cell), c ∈ l → c ∈ polyF l
 | [], c, h => by cases h
 | [a], c, h => h
 | a :: b :: l, c, h => by
  obtain ⟨r, hr⟩ := Qjxn a b
  obtain ⟨t, ht⟩ := Qgv9 a b
  obtain ⟨s, hs⟩ := (Qkoz (b :: l)).2 b l rfl
  show c ∈ (Qppc a b).dropLast ++ polyF (b :: l)
  rcases List.mem_cons.1 h with rfl | h
  ·have e : (Qppc c b).dropLast ++ polyF (b :: l) = Qppc c b ++ s := by
    rw [hs, ht, List.dropLast_concat, List.append_assoc]; rfl
   rw [e, hr]; simp
  ·exact List.mem_append_right _ (Qpb7 (b :: l) c h)
theorem Qm2p {ps : List Point} : ∀ {w : List Str} {prev : Option Str}, Qyf3 ps prev w = true ↔ (∀ n ∈ w, 0 ≤ Qigq ps n) ∧ adjP (fun a b : Str => a ≠ b) w ∧ ∀ a t, w = a :: t → prev ≠ some a
 | [], prev => by simp [Qyf3, adjP]
 | [a], prev => by simp [Qyf3, adjP]
 | a :: b :: w, prev => by
  have ih := Qm2p (ps := ps) (w := b :: w) (prev := some a)
  rw [Qyf3, Bool.and_eq_true, Bool.and_eq_true, ih]
  simp only [Bool.not_eq_true', decide_eq_false_iff_not, beq_eq_false_iff_ne, ne_eq, List.mem_cons, adjP]
  constructor
  ·rintro ⟨h1, h2, h3, h4, h5⟩
   refine ⟨?_, ⟨fun e => h5 b w rfl (by rw [e]), h4⟩, fun x t e => by cases e; exact h2⟩
   rintro n (rfl | h)
   ·omega
   ·exact h3 n h
  ·rintro ⟨h1, ⟨h2, h3⟩, h4⟩
   refine ⟨by have := h1 a (.inl rfl); omega, h4 a _ rfl, fun n h => h1 n (.inr h), h3, fun x t e h => ?_⟩
   cases e; cases h; exact h2 rfl
theorem Q9ta (ps : List Point) (w : List Str) : Qyhl ps w.reverse = Qyhl ps w := by
 have go : ∀ u : List Str, Qyhl ps u = true → Qyhl ps u.reverse = true := fun u h => by
  simp only [Qyhl, Bool.and_eq_true, List.length_reverse] at h ⊢
  obtain ⟨h1, h2⟩ := h
  rw [Qm2p] at h2
  refine ⟨h1, Qm2p.2 ⟨fun n hn => h2.1 n (List.mem_reverse.1 hn), Qnjh (fun a b h => h.symm) h2.2.1, fun a t _ => by simp⟩⟩
 cases h : Qyhl ps w with
 | true => exact go w h
 | false =>
  cases h2 : Qyhl ps w.reverse with
  | false => rfl
  | true => have := go _ h2; rw [List.reverse_reverse, h] at this; cases this
theorem Q6cr (ks : List Kind) (ps : List Point) (w : List Str) : Qqfy ks ps w.reverse = (Qqfy ks ps w).map List.reverse := by
 unfold Qqfy
 by_cases hb : Qib4 ks ps = true ∧ Qyhl ps w = true
 ·have hw := (Quu2 hb.2).1
  have e : Qya3 ps w.reverse (w.reverse.length - 1) = (Qya3 ps w (w.length - 1)).reverse := by
   rw [Qzip (by rw [List.length_reverse]; omega), Qzip (by omega), List.map_reverse, Q7ck]
  rw [e, Q9ta, List.length_reverse]
  split <;> rfl
 ·rw [if_neg (fun h => hb ⟨h.1, by rw [← Q9ta]; exact h.2.1⟩), if_neg (fun h => hb ⟨h.1, h.2.1⟩)]; rfl
theorem Qv4v {ks : List Kind} {ps : List Point} {es : List Entry} {n : Str} (h : (pathF ks ps es n).code = 0) : ∃ f cs, stB ks ps es n = some f ∧ Qqfy ks ps f.route = some cs ∧ f.by_ + cs.length * f.kind.slow ≤ 10000 ∧ Qn0o ks ps es = true ∧
  pathF ks ps es n = ⟨(List.range cs.length).map (Q9ns f cs), f.frm + cs.length * f.kind.quick, f.by_ + cs.length * f.kind.slow, 0⟩ := by
 cases hb : Qn0o ks ps es with
 | false => simp [pathF, hb] at h
 | true =>
  cases hst : stB ks ps es n with
  | none => simp [pathF, hb, hst] at h
  | some f =>
   cases hc : Qqfy ks ps f.route with
   | none => simp [pathF, hb, hst, hc] at h
   | some cs =>
    by_cases hl : f.by_ + cs.length * f.kind.slow > 10000
    ·simp [pathF, hb, hst, hc, hl] at h
    ·exact ⟨f, cs, rfl, hc, by omega, rfl, by simp only [pathF, hb, hst, hc, if_true]; rw [if_neg hl]⟩
theorem Qugn {ks : List Kind} {ps : List Point} {w : List Str} {cs : List Cell} (h : Qqfy ks ps w = some cs) : Qib4 ks ps = true ∧ Qyhl ps w = true ∧ cs.length ≤ 40 ∧ 1 ≤ cs.length ∧ adjP adjC cs ∧ cs = polyF (w.map (Qg2m ps)) := by
 unfold Qqfy at h
 split at h
 ·rename_i hc
  simp only [Option.some.injEq] at h
  have hw := (Quu2 hc.2.1).1
  have e := Qzip (ps := ps) (w := w) (by omega)
  subst h
  refine ⟨hc.1, hc.2.1, hc.2.2, by simp [Qya3], ?_, e⟩
  rw [e]; exact (Qkoz _).1
 ·cases h
end Lx
/- Plain facts: what the law of paths asks of a path's steps. -/
namespace Lx
open Go Go.Proofs
theorem Q19o {k n : Nat} {q s : Int} (hk : k ≤ n) (h1 : 1 ≤ q) (h2 : q ≤ s) : 0 ≤ (k : Int) * q ∧ (k : Int) * q ≤ (k : Int) * s ∧ (k : Int) * s ≤ (n : Int) * s :=
 ⟨Int.mul_nonneg (by omega) (by omega), Int.mul_le_mul_of_nonneg_left h2 (by omega), Int.mul_le_mul_of_nonneg_right (by omega) (by omega)⟩
end Lx
/- Plain facts: what is flown over. -/
namespace Lx
open Go Go.Proofs
theorem Q2ii {f : Flight} {cs : List Cell} {k : Nat} (hk : k < cs.length) : Q61o (f.by_ + cs.length * f.kind.slow) (((List.range cs.length).map (Q9ns f cs)).drop (k + 1)) = f.by_ + ((k + 1 : Nat) : Int) * f.kind.slow := by
 have hL : ((List.range cs.length).map (Q9ns f cs)).length = cs.length := by simp
 by_cases h : k + 1 < cs.length
 ·rw [List.drop_eq_getElem_cons (by rw [hL]; exact h)]
  simp [Q61o, Q9ns]
 ·rw [List.drop_of_length_le (by rw [hL]; omega)]
  have : k + 1 = cs.length := by omega
  simp only [Q61o, this]
theorem Q7um {f : Flight} {cs : List Cell} (h40 : cs.length ≤ 40) (hfl : 0 ≤ f.frm ∧ f.frm ≤ f.by_ ∧ f.by_ ≤ 10000 ∧ 1 ≤ f.kind.quick ∧ f.kind.quick ≤ f.kind.slow ∧ f.kind.slow ≤ 50 ∧ inR f.level 1 6 = true) (x y : Int) : ∀ (d k : Nat), k + d = cs.length → ∀ r, Qu7i x y (f.by_ + cs.length * f.kind.slow) (((List.range cs.length).map (Q9ns f cs)).drop k) = some r → r.1 ≤ r.2
 | 0, k, hk, r, h => by
  rw [List.drop_of_length_le (by simp; omega)] at h
  cases h
 | d + 1, k, hk, r, h => by
  obtain ⟨h0, h1, h2, h3, h4, h5, h6⟩ := hfl
  have hlt : k < ((List.range cs.length).map (Q9ns f cs)).length := by simp; omega
  rw [List.drop_eq_getElem_cons hlt, Qa4v] at h
  split at h
  ·simp only [Option.some.injEq] at h
   subst h
   obtain ⟨m1, m2, m3⟩ := Q19o (q := f.kind.quick) (s := f.kind.slow) (show k ≤ cs.length by omega) h3 h4
   have e2 : ((k + 1 : Nat) : Int) * f.kind.slow = k * f.kind.slow + f.kind.slow := by rw [Int.natCast_add, Int.add_mul]; omega
   have m4 : (cs.length : Int) * f.kind.slow ≤ 40 * 50 := Int.mul_le_mul (by omega) (by omega) (by omega) (by omega)
   rw [Q2ii (by omega), e2, Qbrg (by omega) (by omega)]
   simp only [List.getElem_map, List.getElem_range, Q9ns]
   omega
  ·exact Q7um h40 ⟨h0, h1, h2, h3, h4, h5, h6⟩ x y d (k + 1) (by omega) r h
theorem Qq0p {ks : List Kind} {ps : List Point} {es : List Entry} {n q : Str} {r : Int × Int} (h : overF ks ps es n q = some r) : r.1 ≤ r.2 := by
 unfold overF at h
 split at h
 ·rename_i hc
  obtain ⟨f, cs, hst, hcs, hend, hb, hp⟩ := Qv4v hc.1
  obtain ⟨_, _, h40, _⟩ := Qugn hcs
  rw [hp] at h
  exact Q7um h40 (fl_ok hst) _ _ cs.length 0 (by omega) r (by simpa using h)
 ·cases h
theorem Qakj {x y last : Int} : ∀ {l : List Stp} {s : Stp}, s ∈ l → s.x = x → s.y = y → (Qu7i x y last l).isSome = true
 | a :: l, s, hs, hx, hy => by
  rw [Qa4v]
  split
  ·rfl
  ·rename_i hn
   rcases List.mem_cons.1 hs with rfl | hs
   ·exact absurd ⟨hx, hy⟩ hn
   ·exact Qakj hs hx hy
theorem Qibn {ks : List Kind} {ps : List Point} {es : List Entry} {n : Str} {f : Flight} (hst : stB ks ps es n = some f) (hc : (pathF ks ps es n).code = 0) (i : Nat) (hi : i < f.route.length) : (overF ks ps es n (f.route.getD i [])).isSome = true := by
 obtain ⟨f', cs, hst', hcs, hend, hb, hp⟩ := Qv4v hc
 rw [hst] at hst'
 simp only [Option.some.injEq] at hst'
 subst hst'
 obtain ⟨_, hr, h40, h1, _, he⟩ := Qugn hcs
 obtain ⟨_, _, hall⟩ := Quu2 hr
 have hq : f.route.getD i [] ∈ f.route := by
  rw [List.getD_eq_getElem?_getD, List.getElem?_eq_getElem hi]; exact List.getElem_mem hi
 generalize f.route.getD i [] = q at hq ⊢
 have h0 := hall q hq
 have hm : Qg2m ps q ∈ cs := by rw [he]; exact Qpb7 _ _ (List.mem_map_of_mem hq)
 obtain ⟨k, hk, hk2⟩ := List.mem_iff_getElem.1 hm
 unfold overF
 rw [if_pos ⟨hc, h0⟩, hp]
 refine Qakj (s := Q9ns f cs k) (List.mem_map.2 ⟨k, List.mem_range.2 hk, rfl⟩) ?_ ?_
 ·simp only [Q9ns, List.getD_eq_getElem?_getD, List.getElem?_eq_getElem hk, Option.getD_some, hk2]; rfl
 ·simp only [Q9ns, List.getD_eq_getElem?_getD, List.getElem?_eq_getElem hk, Option.getD_some, hk2]; rfl
theorem Qbrl {α : Type} (o : Option (List α)) : ((o.map List.reverse).getD []) = (o.getD []).reverse := by cases o <;> rfl
theorem Qf6d {ks : List Kind} {ps : List Point} {w : List Str} : ((Qqfy ks ps w).getD []).length ≤ 40 := by
 cases h : Qqfy ks ps w with
 | none => simp
 | some cs => exact (Qugn h).2.2.1
theorem Qomc {ks : List Kind} {ps : List Point} {es : List Entry} {n : Str} (hz : szB es = true) : ((stB ks ps es n).getD fl0).route.length ≤ 1000000001 := by
 cases h : stB ks ps es n with
 | none => simp [fl0]
 | some f =>
  unfold stB at h
  split at h
  ·rename_i hc
   obtain ⟨hb, h0⟩ := hc
   have hm := Qhwx h0
   simp only [szB, Bool.and_eq_true] at hz
   have hs := Q46g (List.all_eq_true.1 hz.2 _ hm) 4
   generalize es.getD (entIx es n).toNat (dfltP .entry) = e at h hs
   unfold stE at h
   split at h
   ·cases h
   ·split at h
    ·cases h
    ·simp only [Option.some.injEq] at h
     subst h
     have := Qtox 32 (valF e.fields 4)
     simp only [Option.getD_some]
     omega
  ·cases h
end Lx
