/- Legs (spec). -/
import Derived.Test.YtefjaihaocdpcaaGreatDoorLad
import Derived.Test.YtefjaihaocdpcaaGreatDoorLac
set_option linter.unusedVariables false
set_option linter.unusedSimpArgs false
set_option maxRecDepth 4000
namespace Lx
open Go Go.Proofs
/-- spec.l17Part -/
noncomputable def R_spec_l17Part : RE Ty El := ⟨Tryz.prog, CP, [], Tryz.f198, 0, [], []⟩
theorem R_spec_l17Part_ok : REOK R_spec_l17Part g_spec_l17Part := ⟨CP_ok, EOKnil, by kernel_rfl, by kernel_rfl⟩
theorem t_spec_l17Part (d k n : Int) : aRun R_spec_l17Part 600 false (body0 R_spec_l17Part.fn) (initSt R_spec_l17Part.fn [.int .i64 d, .int .i64 k, .int .i64 n] []) =
  ifb (!IntKind.i64.wrap ((2 : Int) * n) == (0 : Int)) (ifb (decide (IntKind.i64.wrap (IntKind.i64.wrap (IntKind.i64.wrap ((2 : Int) * k) * d) + n) < (0 : Int))) (ifb (IntKind.i64.wrap (IntKind.i64.wrap (IntKind.i64.wrap ((IntKind.i64.wrap (IntKind.i64.wrap (IntKind.i64.wrap ((2 : Int) * k) * d) + n)).tdiv (IntKind.i64.wrap ((2 : Int) * n))) * (2 : Int)) * n) != IntKind.i64.wrap (IntKind.i64.wrap (IntKind.i64.wrap ((2 : Int) * k) * d) + n)) (some (.ret (.int .i64 (IntKind.i64.wrap (IntKind.i64.wrap ((IntKind.i64.wrap (IntKind.i64.wrap (IntKind.i64.wrap ((2 : Int) * k) * d) + n)).tdiv (IntKind.i64.wrap ((2 : Int) * n))) - (1 : Int)))) [])) (some (.ret (.int .i64 (IntKind.i64.wrap ((IntKind.i64.wrap (IntKind.i64.wrap (IntKind.i64.wrap ((2 : Int) * k) * d) + n)).tdiv (IntKind.i64.wrap ((2 : Int) * n))))) []))) (some (.ret (.int .i64 (IntKind.i64.wrap ((IntKind.i64.wrap (IntKind.i64.wrap (IntKind.i64.wrap ((2 : Int) * k) * d) + n)).tdiv (IntKind.i64.wrap ((2 : Int) * n))))) []))) (none) := by kernel_rfl
theorem c_spec_l17Part (d k n : Int) (hg : partOk d k n = true) : CallOK Tryz.prog CP g_spec_l17Part [.int .i64 d, .int .i64 k, .int .i64 n] [] (.int .i64 (partF d k n)) [] := by
  refine CallOK.of R_spec_l17Part_ok (by kernel_rfl) (t_spec_l17Part d k n) ?_
  simp only [partOk, Bool.and_eq_true, decide_eq_true_eq] at hg
  obtain ⟨⟨d1, d2⟩, ⟨k1, k2⟩, n1, n2⟩ := hg
  have hkd : (2 * k * d).natAbs ≤ 2000 * 1000 := by
    rw [Int.natAbs_mul]
    exact Nat.mul_le_mul (by omega) (by omega)
  have w1 : IntKind.wrap .i64 (2 * k) = 2 * k := wrap_ok (by omega) (by omega)
  have w2 : IntKind.wrap .i64 (2 * k * d) = 2 * k * d := wrap_ok (by omega) (by omega)
  have w3 : IntKind.wrap .i64 (2 * k * d + n) = 2 * k * d + n := wrap_ok (by omega) (by omega)
  have w4 : IntKind.wrap .i64 (2 * n) = 2 * n := wrap_ok (by omega) (by omega)
  rw [w1, w2, w3, w4]
  have hfl := tdiv_floor (x := 2 * k * d + n) (y := 2 * n) (by omega)
  have hpf : partF d k n = (2 * k * d + n) / (2 * n) := rfl
  rw [← hpf] at hfl
  have hv : (2 * k * d + n).natAbs ≤ 2001000 := by omega
  generalize 2 * k * d + n = v at *
  have q1 : (v.tdiv (2 * n)).natAbs ≤ v.natAbs := Int.natAbs_tdiv_le_natAbs _ _
  have q2 := Int.mul_tdiv_add_tmod v (2 * n)
  have q3 := Int.tmod_lt_of_pos v (show (0 : Int) < 2 * n by omega)
  have q4 := Int.lt_tmod_of_pos v (show (0 : Int) < 2 * n by omega)
  have q5 : v.tdiv (2 * n) * 2 * n = 2 * n * v.tdiv (2 * n) := by rw [Int.mul_assoc, Int.mul_comm]
  have q6 : v.tdiv (2 * n) * (2 * n) = 2 * n * v.tdiv (2 * n) := Int.mul_comm _ _
  rw [q6] at hfl
  generalize hp : 2 * n * v.tdiv (2 * n) = p at *
  generalize hq : v.tdiv (2 * n) = q at *
  have w5 : IntKind.wrap .i64 q = q := wrap_ok (by omega) (by omega)
  have w6 : IntKind.wrap .i64 (q * 2) = q * 2 := wrap_ok (by omega) (by omega)
  have w7 : IntKind.wrap .i64 p = p := wrap_ok (by omega) (by omega)
  have w8 : IntKind.wrap .i64 (q - 1) = q - 1 := wrap_ok (by omega) (by omega)
  rw [w5, w6, q5, w7, w8]
  have hn0 : (!(2 * n == (0 : Int))) = true := by
    have : (2 * n == (0 : Int)) = false := beq_eq_false_iff_ne.2 (by omega)
    rw [this]; rfl
  rw [hn0]
  simp only [ifb_true]
  by_cases h0 : v < 0
  · rw [decide_eq_true h0]
    by_cases h1 : p = v
    · rw [show (p != v) = false by simp [h1]]
      refine Sat.retI ?_ rfl
      rw [hfl, if_neg (fun h => h.2 h1)]
    · rw [show (p != v) = true by simp [h1]]
      refine Sat.retI ?_ rfl
      rw [hfl, if_pos ⟨h0, h1⟩]
  · rw [decide_eq_false h0]
    refine Sat.retI ?_ rfl
    rw [hfl, if_neg (fun h => h0 h.1)]
theorem E_spec_l17Part_ok : EntOK Tryz.prog CP g_spec_l17Part E_spec_l17Part := by
  refine ⟨⟨Tryz.f198, by kernel_rfl, by kernel_rfl, by kernel_rfl⟩, fun args H res H' h => ?_⟩
  simp only [E_spec_l17Part] at h
  split at h
  · simp only [Option.some.injEq, Prod.mk.injEq] at h
    obtain ⟨hg, rfl, rfl⟩ := h
    exact c_spec_l17Part _ _ _ hg
  · cases h
end Lx
/- Legs: plain facts. -/
set_option linter.unusedVariables false
set_option linter.unusedSimpArgs false
namespace Lx
open Go Go.Proofs
theorem part_small {d k n : Int} (hn : 0 < n) {M : Nat} (h : (2 * k * d + n).natAbs ≤ M) : (partF d k n).natAbs ≤ M + 1 := by
  have hfl := tdiv_floor (x := 2 * k * d + n) (y := 2 * n) (by omega)
  have hpf : partF d k n = (2 * k * d + n) / (2 * n) := rfl
  rw [← hpf] at hfl
  have q1 : ((2 * k * d + n).tdiv (2 * n)).natAbs ≤ (2 * k * d + n).natAbs := Int.natAbs_tdiv_le_natAbs _ _
  rw [hfl]
  split <;> omega
theorem part_zero {d n : Int} (hn : 0 < n) : partF d 0 n = 0 := by
  have : partF d 0 n = n / (2 * n) := by simp [partF]
  rw [this]
  exact Int.ediv_eq_zero_of_lt (by omega) (by omega)
theorem legAt_zero (a b : Cell) : legAt a b 0 = a := by
  unfold legAt
  split
  · rfl
  · rename_i h
    have hn : (0 : Int) < (legN a b : Int) := by omega
    have e1 := part_zero (d := b.x - a.x) hn
    have e2 := part_zero (d := b.y - a.y) hn
    have : ((0 : Nat) : Int) = 0 := rfl
    rw [this, e1, e2]
    simp
theorem legN_le {a b : Cell} (ha : smallC a = true) (hb : smallC b = true) : legN a b ≤ 100 := by
  simp only [smallC, Bool.and_eq_true, decide_eq_true_eq] at ha hb
  unfold legN
  omega
end Lx
/- Legs (spec). -/
set_option linter.unusedVariables false
set_option linter.unusedSimpArgs false
set_option maxRecDepth 4000
namespace Lx
open Go Go.Proofs
/-- spec.l17Leg -/
noncomputable def R_spec_l17Leg0 : RE Ty El := ⟨Tryz.prog, CP, [(g_spec_l17Abs, E_spec_l17Abs), (g_spec_l17Max, E_spec_l17Max), (g_spec_l17Part, E_spec_l17Part)], Tryz.f126, 0, [.ro .cell], [(5, [(5, .any), (6, .any), (7, .any)]), (12, [(2, .any), (3, .any), (5, .any), (8, .any), (9, .any)])]⟩
theorem R_spec_l17Leg0_ok : REOK R_spec_l17Leg0 g_spec_l17Leg := ⟨CP_ok, (TabOK.cons E_spec_l17Abs_ok (TabOK.cons E_spec_l17Max_ok (TabOK.cons E_spec_l17Part_ok EOKnil))), by kernel_rfl, by kernel_rfl⟩
theorem t_spec_l17Leg0 (ax ay bx b_y : Int) : aRun R_spec_l17Leg0 600 false (body0 R_spec_l17Leg0.fn) (initSt R_spec_l17Leg0.fn [.agg [.int .i64 ax, .int .i64 ay], .agg [.int .i64 bx, .int .i64 b_y]] []) =
  ifb (decide (bx < ax)) (none) (ifb (bx == ax) (ifb (decide (b_y < ay)) (none) (ifb (smallI (IntKind.i64.wrap (ax - bx))) (ifb (smallI (IntKind.i64.wrap (ay - b_y))) (some (.go (todoAt R_spec_l17Leg0.fn 12) [.ptr 0 0, .ptr 1 0, .own 2 [] 0, .int .i64 (max (↑(IntKind.i64.wrap (ax - bx)).natAbs : Int) (↑(IntKind.i64.wrap (ay - b_y)).natAbs : Int)), .int .i64 (1 : Int)] [.box [.int .i64 ax, .int .i64 ay], .box [.int .i64 bx, .int .i64 b_y], .row .cell ([] ++ [Cell.mk ax ay]) 0 0 0 .no])) (none)) (none))) (ifb (smallI (IntKind.i64.wrap (ax - bx))) (ifb (smallI (IntKind.i64.wrap (ay - b_y))) (some (.go (todoAt R_spec_l17Leg0.fn 12) [.ptr 0 0, .ptr 1 0, .own 2 [] 0, .int .i64 (max (↑(IntKind.i64.wrap (ax - bx)).natAbs : Int) (↑(IntKind.i64.wrap (ay - b_y)).natAbs : Int)), .int .i64 (1 : Int)] [.box [.int .i64 ax, .int .i64 ay], .box [.int .i64 bx, .int .i64 b_y], .row .cell ([] ++ [Cell.mk ax ay]) 0 0 0 .no])) (none)) (none))) := by kernel_rfl
theorem t_spec_l17Leg0_12 (x0 : Int) (x1 : Int) (x2 : Int) (x3 : Int) (x4 : Int) (x5 : Int) (x6 : List (El .cell)) : aRun R_spec_l17Leg0 600 true (todoAt R_spec_l17Leg0.fn 12) (cutSt R_spec_l17Leg0.fn (liveOf R_spec_l17Leg0 (todoAt R_spec_l17Leg0.fn 12)) [.ptr 0 0, .ptr 1 0, .own 2 [] 0, .int .i64 x0, .int .i64 x1] [.box [.int .i64 x2, .int .i64 x3], .box [.int .i64 x4, .int .i64 x5], .row .cell x6 0 0 0 .no]) =
  ifb (decide (x1 ≤ x0)) (ifb (partOk (IntKind.i64.wrap (x4 - x2)) x1 x0) (ifb (partOk (IntKind.i64.wrap (x5 - x3)) x1 x0) (ifb (decide ((x6.length + [Cell.mk (IntKind.i64.wrap (x2 + partF (IntKind.i64.wrap (x4 - x2)) x1 x0)) (IntKind.i64.wrap (x3 + partF (IntKind.i64.wrap (x5 - x3)) x1 x0))].length) * bytesOf' R_spec_l17Leg0.P (72 : Nat) ≤ (140737488355328 : Nat))) (some (.go (todoAt R_spec_l17Leg0.fn 12) [.ptr 0 0, .ptr 1 0, .own 2 [] 0, .int .i64 x0, .int .i64 (IntKind.i64.wrap (x1 + (1 : Int)))] [.box [.int .i64 x2, .int .i64 x3], .box [.int .i64 x4, .int .i64 x5], .row .cell (x6 ++ [Cell.mk (IntKind.i64.wrap (x2 + partF (IntKind.i64.wrap (x4 - x2)) x1 x0)) (IntKind.i64.wrap (x3 + partF (IntKind.i64.wrap (x5 - x3)) x1 x0))]) 0 0 0 .no])) (none)) (none)) (none)) (some (.ret (.sl .cell x6) [])) := by kernel_rfl
theorem l_spec_l17Leg0 (a b : Cell) (ha : smallC a = true) (hb : smallC b = true) : ∀ (d k : Nat), k + d = legN a b + 1 → 1 ≤ k →
    Cut R_spec_l17Leg0 g_spec_l17Leg 12 [.ptr 0 0, .ptr 1 0, .own 2 [] 0, .int .i64 (legN a b : Int), .int .i64 (k : Int)] [.box [.int .i64 a.x, .int .i64 a.y], .box [.int .i64 b.x, .int .i64 b.y], .row .cell ((List.range k).map (legAt a b)) 0 0 0 .no] (.sl .cell (legF a b)) [] := by
  have hn := legN_le ha hb
  have hbs : bytesOf' R_spec_l17Leg0.P 72 = 16 := by kernel_rfl
  simp only [smallC, Bool.and_eq_true, decide_eq_true_eq] at ha hb
  intro d
  induction d with
  | zero =>
    intro k hk h1
    refine Cut.of R_spec_l17Leg0_ok rfl (t_spec_l17Leg0_12 (legN a b) k a.x a.y b.x b.y _) ?_
    rw [decide_eq_false (by omega)]
    refine Sat.ret ?_ rfl
    have : k = legN a b + 1 := by omega
    rw [this]; rfl
  | succ d ih =>
    intro k hk h1
    refine Cut.of R_spec_l17Leg0_ok rfl (t_spec_l17Leg0_12 (legN a b) k a.x a.y b.x b.y _) ?_
    have hw : IntKind.wrap .i64 ((k : Int) + 1) = ((k + 1 : Nat) : Int) := by rw [wrap_ok] <;> omega
    have wx : IntKind.wrap .i64 (b.x - a.x) = b.x - a.x := wrap_ok (by omega) (by omega)
    have wy : IntKind.wrap .i64 (b.y - a.y) = b.y - a.y := wrap_ok (by omega) (by omega)
    have hN : ¬ legN a b = 0 := by omega
    have px : partOk (b.x - a.x) k (legN a b) = true := by simp only [partOk, Bool.and_eq_true, decide_eq_true_eq]; omega
    have py : partOk (b.y - a.y) k (legN a b) = true := by simp only [partOk, Bool.and_eq_true, decide_eq_true_eq]; omega
    have bnd : ∀ e : Int, e.natAbs ≤ 100 → (partF e k (legN a b)).natAbs ≤ 30001 := fun e he => part_small (by omega) (M := 30000) (by
      have : (2 * (k : Int) * e).natAbs ≤ 202 * 100 := by
        rw [Int.natAbs_mul]
        exact Nat.mul_le_mul (by omega) he
      omega)
    have bx := bnd (b.x - a.x) (by omega)
    have by' := bnd (b.y - a.y) (by omega)
    have w1 : IntKind.wrap .i64 (a.x + partF (b.x - a.x) k (legN a b)) = a.x + partF (b.x - a.x) k (legN a b) := wrap_ok (by omega) (by omega)
    have w2 : IntKind.wrap .i64 (a.y + partF (b.y - a.y) k (legN a b)) = a.y + partF (b.y - a.y) k (legN a b) := wrap_ok (by omega) (by omega)
    rw [wx, wy, px, py, w1, w2, hw, hbs, decide_eq_true (by omega : (k : Int) ≤ (legN a b : Int))]
    simp only [ifb_true]
    have hroom : ∀ x : Cell, decide ((((List.range k).map (legAt a b)).length + [x].length) * 16 ≤ 140737488355328) = true := fun x => decide_eq_true (by simp; omega)
    rw [hroom]
    have := ih (k + 1) (by omega) (by omega)
    rw [List.range_succ, List.map_append] at this
    have e : legAt a b k = ⟨a.x + partF (b.x - a.x) k (legN a b), a.y + partF (b.y - a.y) k (legN a b)⟩ := by unfold legAt; rw [if_neg hN]
    rw [List.map_cons, List.map_nil, e] at this
    exact Sat.cut this
theorem c_spec_l17Leg0 (ax ay bx b_y : Int) (hg : ((smallC ⟨ax, ay⟩ && smallC ⟨bx, b_y⟩) && !turnedB ⟨ax, ay⟩ ⟨bx, b_y⟩) = true) : CallOK Tryz.prog CP g_spec_l17Leg [.agg [.int .i64 ax, .int .i64 ay], .agg [.int .i64 bx, .int .i64 b_y]] [] (.sl .cell (legF ⟨ax, ay⟩ ⟨bx, b_y⟩)) [] := by
  refine CallOK.of R_spec_l17Leg0_ok (by kernel_rfl) (t_spec_l17Leg0 ax ay bx b_y) ?_
  simp only [Bool.and_eq_true, Bool.not_eq_true'] at hg
  obtain ⟨⟨ha, hb⟩, ht⟩ := hg
  have hs := l_spec_l17Leg0 ⟨ax, ay⟩ ⟨bx, b_y⟩ ha hb (legN ⟨ax, ay⟩ ⟨bx, b_y⟩) 1 (by omega) (Nat.le_refl _)
  have e1 : (List.range 1).map (legAt ⟨ax, ay⟩ ⟨bx, b_y⟩) = [] ++ [(⟨ax, ay⟩ : Cell)] := by
    show [legAt _ _ 0] = _
    rw [legAt_zero]; rfl
  rw [e1] at hs
  simp only [smallC, Bool.and_eq_true, decide_eq_true_eq] at ha hb
  have wx : IntKind.wrap .i64 (ax - bx) = ax - bx := wrap_ok (by omega) (by omega)
  have wy : IntKind.wrap .i64 (ay - b_y) = ay - b_y := wrap_ok (by omega) (by omega)
  have sx : smallI (ax - bx) = true := by simp only [smallI, Bool.and_eq_true, decide_eq_true_eq]; omega
  have sy : smallI (ay - b_y) = true := by simp only [smallI, Bool.and_eq_true, decide_eq_true_eq]; omega
  have hmax : max ((ax - bx).natAbs : Int) ((ay - b_y).natAbs : Int) = (legN ⟨ax, ay⟩ ⟨bx, b_y⟩ : Int) := by
    unfold legN
    simp only
    omega
  simp only [turnedB, Bool.or_eq_false_iff] at ht
  rw [wx, wy, sx, sy, hmax, ht.1]
  simp only [ifb_false, ifb_true]
  cases hq : (bx == ax) with
  | false => exact Sat.cut hs
  | true =>
    have := ht.2
    rw [hq, Bool.true_and] at this
    rw [this]
    exact Sat.cut hs
theorem E_spec_l17Leg0_ok : EntOK Tryz.prog CP g_spec_l17Leg E_spec_l17Leg0 := by
  refine ⟨⟨Tryz.f126, by kernel_rfl, by kernel_rfl, by kernel_rfl⟩, fun args H res H' h => ?_⟩
  simp only [E_spec_l17Leg0] at h
  split at h
  · simp only [Option.some.injEq, Prod.mk.injEq] at h
    obtain ⟨hg, rfl, rfl⟩ := h
    exact c_spec_l17Leg0 _ _ _ _ hg
  · cases h
end Lx
/- Legs (spec), both ways. -/
set_option linter.unusedVariables false
set_option linter.unusedSimpArgs false
set_option maxRecDepth 4000
namespace Lx
open Go Go.Proofs
/-- spec.l17Leg -/
noncomputable def R_spec_l17Leg : RE Ty El := ⟨Tryz.prog, CP, [(g_spec_l17Abs, E_spec_l17Abs), (g_spec_l17Max, E_spec_l17Max), (g_spec_l17Part, E_spec_l17Part), (g_spec_l17Leg, E_spec_l17Leg0)], Tryz.f126, 0, [.ro .cell], [(5, [(5, .any), (6, .any), (7, .any)]), (12, [(2, .any), (3, .any), (5, .any), (8, .any), (9, .any)])]⟩
theorem R_spec_l17Leg_ok : REOK R_spec_l17Leg g_spec_l17Leg := ⟨CP_ok, (TabOK.cons E_spec_l17Abs_ok (TabOK.cons E_spec_l17Max_ok (TabOK.cons E_spec_l17Part_ok (TabOK.cons E_spec_l17Leg0_ok EOKnil)))), by kernel_rfl, by kernel_rfl⟩
theorem t_spec_l17Leg (ax ay bx b_y : Int) : aRun R_spec_l17Leg 600 false (body0 R_spec_l17Leg.fn) (initSt R_spec_l17Leg.fn [.agg [.int .i64 ax, .int .i64 ay], .agg [.int .i64 bx, .int .i64 b_y]] []) =
  ifb (decide (bx < ax)) (ifb (smallC (Cell.mk bx b_y) && smallC (Cell.mk ax ay) && !turnedB (Cell.mk bx b_y) (Cell.mk ax ay)) (some (.go (todoAt R_spec_l17Leg.fn 5) [.own 0 [] 0, .sl .cell (legF (Cell.mk bx b_y) (Cell.mk ax ay)), .int .i64 (IntKind.i64.wrap ((↑(legF (Cell.mk bx b_y) (Cell.mk ax ay)).length : Int) - (1 : Int)))] [.row .cell [] 0 0 0 .no])) (none)) (ifb (bx == ax) (ifb (decide (b_y < ay)) (ifb (smallC (Cell.mk bx b_y) && smallC (Cell.mk ax ay) && !turnedB (Cell.mk bx b_y) (Cell.mk ax ay)) (some (.go (todoAt R_spec_l17Leg.fn 5) [.own 0 [] 0, .sl .cell (legF (Cell.mk bx b_y) (Cell.mk ax ay)), .int .i64 (IntKind.i64.wrap ((↑(legF (Cell.mk bx b_y) (Cell.mk ax ay)).length : Int) - (1 : Int)))] [.row .cell [] 0 0 0 .no])) (none)) (ifb (smallI (IntKind.i64.wrap (ax - bx))) (ifb (smallI (IntKind.i64.wrap (ay - b_y))) (some (.go (todoAt R_spec_l17Leg.fn 12) [.ptr 0 0, .ptr 1 0, .own 2 [] 0, .int .i64 (max (↑(IntKind.i64.wrap (ax - bx)).natAbs : Int) (↑(IntKind.i64.wrap (ay - b_y)).natAbs : Int)), .int .i64 (1 : Int)] [.box [.int .i64 ax, .int .i64 ay], .box [.int .i64 bx, .int .i64 b_y], .row .cell ([] ++ [Cell.mk ax ay]) 0 0 0 .no])) (none)) (none))) (ifb (smallI (IntKind.i64.wrap (ax - bx))) (ifb (smallI (IntKind.i64.wrap (ay - b_y))) (some (.go (todoAt R_spec_l17Leg.fn 12) [.ptr 0 0, .ptr 1 0, .own 2 [] 0, .int .i64 (max (↑(IntKind.i64.wrap (ax - bx)).natAbs : Int) (↑(IntKind.i64.wrap (ay - b_y)).natAbs : Int)), .int .i64 (1 : Int)] [.box [.int .i64 ax, .int .i64 ay], .box [.int .i64 bx, .int .i64 b_y], .row .cell ([] ++ [Cell.mk ax ay]) 0 0 0 .no])) (none)) (none))) := by kernel_rfl
theorem t_spec_l17Leg_5 (x0 : List (El .cell)) (x1 : Int) (x2 : List (El .cell)) : aRun R_spec_l17Leg 600 true (todoAt R_spec_l17Leg.fn 5) (cutSt R_spec_l17Leg.fn (liveOf R_spec_l17Leg (todoAt R_spec_l17Leg.fn 5)) [.own 0 [] 0, .sl .cell x0, .int .i64 x1] [.row .cell x2 0 0 0 .no]) =
  ifb (decide (x1 ≥ (0 : Int))) (ifb (inb x1 x0.length) (ifb (decide ((x2.length + [x0.getD x1.toNat (R_spec_l17Leg.C.dflt Ty.cell)].length) * bytesOf' R_spec_l17Leg.P (72 : Nat) ≤ (140737488355328 : Nat))) (some (.go (todoAt R_spec_l17Leg.fn 5) [.own 0 [] 0, .sl .cell x0, .int .i64 (IntKind.i64.wrap (x1 - (1 : Int)))] [.row .cell (x2 ++ [x0.getD x1.toNat (R_spec_l17Leg.C.dflt Ty.cell)]) 0 0 0 .no])) (none)) (none)) (some (.ret (.sl .cell x2) [])) := by kernel_rfl
theorem t_spec_l17Leg_12 (x0 : Int) (x1 : Int) (x2 : Int) (x3 : Int) (x4 : Int) (x5 : Int) (x6 : List (El .cell)) : aRun R_spec_l17Leg 600 true (todoAt R_spec_l17Leg.fn 12) (cutSt R_spec_l17Leg.fn (liveOf R_spec_l17Leg (todoAt R_spec_l17Leg.fn 12)) [.ptr 0 0, .ptr 1 0, .own 2 [] 0, .int .i64 x0, .int .i64 x1] [.box [.int .i64 x2, .int .i64 x3], .box [.int .i64 x4, .int .i64 x5], .row .cell x6 0 0 0 .no]) =
  ifb (decide (x1 ≤ x0)) (ifb (partOk (IntKind.i64.wrap (x4 - x2)) x1 x0) (ifb (partOk (IntKind.i64.wrap (x5 - x3)) x1 x0) (ifb (decide ((x6.length + [Cell.mk (IntKind.i64.wrap (x2 + partF (IntKind.i64.wrap (x4 - x2)) x1 x0)) (IntKind.i64.wrap (x3 + partF (IntKind.i64.wrap (x5 - x3)) x1 x0))].length) * bytesOf' R_spec_l17Leg.P (72 : Nat) ≤ (140737488355328 : Nat))) (some (.go (todoAt R_spec_l17Leg.fn 12) [.ptr 0 0, .ptr 1 0, .own 2 [] 0, .int .i64 x0, .int .i64 (IntKind.i64.wrap (x1 + (1 : Int)))] [.box [.int .i64 x2, .int .i64 x3], .box [.int .i64 x4, .int .i64 x5], .row .cell (x6 ++ [Cell.mk (IntKind.i64.wrap (x2 + partF (IntKind.i64.wrap (x4 - x2)) x1 x0)) (IntKind.i64.wrap (x3 + partF (IntKind.i64.wrap (x5 - x3)) x1 x0))]) 0 0 0 .no])) (none)) (none)) (none)) (some (.ret (.sl .cell x6) [])) := by kernel_rfl
theorem l_spec_l17Leg (xs : List Cell) (hx : xs.length ≤ 1000) : ∀ (j : Nat), j ≤ xs.length →
    Cut R_spec_l17Leg g_spec_l17Leg 5 [.own 0 [] 0, .sl .cell xs, .int .i64 ((j : Int) - 1)] [.row .cell ((xs.drop j).reverse) 0 0 0 .no] (.sl .cell xs.reverse) [] := by
  have hbs : bytesOf' R_spec_l17Leg.P 72 = 16 := by kernel_rfl
  intro j
  induction j with
  | zero =>
    intro hj
    refine Cut.of R_spec_l17Leg_ok rfl (t_spec_l17Leg_5 xs _ _) ?_
    rw [decide_eq_false (by omega)]
    exact Sat.ret (by rw [List.drop_zero]) rfl
  | succ j ih =>
    intro hj
    refine Cut.of R_spec_l17Leg_ok rfl (t_spec_l17Leg_5 xs _ _) ?_
    have hlt : j < xs.length := by omega
    have ej : ((j + 1 : Nat) : Int) - 1 = (j : Int) := by omega
    have hw : IntKind.wrap .i64 ((j : Int) - 1) = (j : Int) - 1 := wrap_ok (by omega) (by omega)
    have hxj : xs.getD (j : Int).toNat (R_spec_l17Leg.C.dflt .cell) = xs[j] := by simp [hlt]
    have hin : inb (j : Int) xs.length = true := by simp only [inb, Bool.and_eq_true, decide_eq_true_eq]; omega
    have hroom : decide ((((xs.drop (j + 1)).reverse).length + [xs[j]].length) * 16 ≤ 140737488355328) = true := decide_eq_true (by simp; omega)
    have hd : (xs.drop j).reverse = (xs.drop (j + 1)).reverse ++ [xs[j]] := by rw [List.drop_eq_getElem_cons hlt, List.reverse_cons]
    rw [ej, hw, hxj, hin, hbs, hroom, decide_eq_true (by omega : (j : Int) ≥ 0)]
    have := ih (by omega)
    rw [hd] at this
    exact Sat.cut this
theorem c_spec_l17Leg (ax ay bx b_y : Int) (hg : (smallC ⟨ax, ay⟩ && smallC ⟨bx, b_y⟩) = true) : CallOK Tryz.prog CP g_spec_l17Leg [.agg [.int .i64 ax, .int .i64 ay], .agg [.int .i64 bx, .int .i64 b_y]] [] (.sl .cell (legAll ⟨ax, ay⟩ ⟨bx, b_y⟩)) [] := by
  simp only [Bool.and_eq_true] at hg
  cases ht : turnedB ⟨ax, ay⟩ ⟨bx, b_y⟩ with
  | false =>
    have := c_spec_l17Leg0 ax ay bx b_y (by rw [hg.1, hg.2, ht]; rfl)
    rw [show legAll ⟨ax, ay⟩ ⟨bx, b_y⟩ = legF ⟨ax, ay⟩ ⟨bx, b_y⟩ by rw [legAll, ht]; rfl]
    exact this
  | true =>
    refine CallOK.of R_spec_l17Leg_ok (by kernel_rfl) (t_spec_l17Leg ax ay bx b_y) ?_
    have hn := legN_le hg.2 hg.1
    have hlen : (legF ⟨bx, b_y⟩ ⟨ax, ay⟩).length ≤ 1000 := by simp [legF]; omega
    have ht2 : turnedB ⟨bx, b_y⟩ ⟨ax, ay⟩ = false := by
      simp only [turnedB, Bool.or_eq_true, Bool.and_eq_true, decide_eq_true_eq, beq_iff_eq] at ht
      simp only [turnedB, Bool.or_eq_false_iff, Bool.and_eq_false_iff, decide_eq_false_iff_not, beq_eq_false_iff_ne]
      omega
    have hs := l_spec_l17Leg (legF ⟨bx, b_y⟩ ⟨ax, ay⟩) hlen _ (Nat.le_refl _)
    rw [List.drop_length] at hs
    rw [show legAll ⟨ax, ay⟩ ⟨bx, b_y⟩ = (legF ⟨bx, b_y⟩ ⟨ax, ay⟩).reverse by rw [legAll, ht]; rfl]
    have hwl : IntKind.wrap .i64 (((legF ⟨bx, b_y⟩ ⟨ax, ay⟩).length : Int) - 1) = ((legF ⟨bx, b_y⟩ ⟨ax, ay⟩).length : Int) - 1 := wrap_ok (by omega) (by omega)
    rw [hg.1, hg.2, ht2, hwl]
    simp only [turnedB, Bool.or_eq_true, Bool.and_eq_true, decide_eq_true_eq, beq_iff_eq] at ht
    by_cases h1 : bx < ax
    · rw [decide_eq_true h1]
      exact Sat.cut hs
    · rw [decide_eq_false h1]
      have h2 : bx = ax ∧ b_y < ay := ht.resolve_left h1
      rw [beq_iff_eq.2 h2.1, decide_eq_true h2.2]
      exact Sat.cut hs
theorem E_spec_l17Leg_ok : EntOK Tryz.prog CP g_spec_l17Leg E_spec_l17Leg := by
  refine ⟨⟨Tryz.f126, by kernel_rfl, by kernel_rfl, by kernel_rfl⟩, fun args H res H' h => ?_⟩
  simp only [E_spec_l17Leg] at h
  split at h
  · simp only [Option.some.injEq, Prod.mk.injEq] at h
    obtain ⟨hg, rfl, rfl⟩ := h
    exact c_spec_l17Leg _ _ _ _ hg
  · cases h
end Lx
/- Meanings: cells of a route. -/
set_option linter.unusedVariables false
set_option linter.unusedSimpArgs false
namespace Lx
open Go Go.Proofs
def cellOf (ps : List Point) (n : Str) : Cell := ⟨(ptOf ps n).x, (ptOf ps n).y⟩
def tailC (ps : List Point) (w : List Str) (i : Nat) : List Cell := (legAll (cellOf ps (w.getD i [])) (cellOf ps (w.getD (i + 1) []))).drop 1
def cellsAll (ps : List Point) (w : List Str) (m : Nat) : List Cell := cellOf ps (w.getD 0 []) :: (List.range m).flatMap (tailC ps w)
def cellsF (ks : List Kind) (ps : List Point) (w : List Str) : Option (List Cell) :=
  if baseOk ks ps = true ∧ routeOk ps w = true ∧ (cellsAll ps w (w.length - 1)).length ≤ 40 then some (cellsAll ps w (w.length - 1)) else none
def cellsV (o : Option (List Cell)) : V := .tup [.sl .cell (o.getD []), .bool o.isSome]
theorem route_all {ps : List Point} : ∀ {w : List Str} {prev : Option Str}, routeGo ps prev w = true → ∀ n ∈ w, 0 ≤ pointIx ps n
  | [], _, _, n, hn => by simp at hn
  | a :: w, prev, h, n, hn => by
    rw [routeGo] at h
    simp only [Bool.and_eq_true, Bool.not_eq_true', decide_eq_false_iff_not] at h
    simp only [List.mem_cons] at hn
    rcases hn with rfl | hn
    · omega
    · exact route_all h.2.2 n hn
theorem routeOk_inv {ps : List Point} {w : List Str} (h : routeOk ps w = true) : 2 ≤ w.length ∧ w.length ≤ 8 ∧ ∀ n ∈ w, 0 ≤ pointIx ps n := by
  simp only [routeOk, inR, Bool.and_eq_true, decide_eq_true_eq] at h
  exact ⟨by omega, by omega, route_all h.2⟩
theorem points_ok : ∀ {ps seen : List Point} {prev : Option Str}, pointsGo seen prev ps = true → ∀ p ∈ ps, p.ok = true
  | [], _, _, _, p, hp => by simp at hp
  | a :: ps, seen, prev, h, p, hp => by
    rw [pointsGo] at h
    simp only [Bool.and_eq_true] at h
    simp only [List.mem_cons] at hp
    rcases hp with rfl | hp
    · exact h.1
    · exact points_ok h.2.2.2 p hp
theorem cell_small {ks : List Kind} {ps : List Point} (hb : baseOk ks ps = true) {n : Str} (h0 : 0 ≤ pointIx ps n) : smallC (cellOf ps n) = true := by
  have h2 := idxF_lt (p := fun q : Point => q.name == n) (l := ps)
  have h3 : pointIx ps n = idxF (fun q : Point => q.name == n) ps := rfl
  have hlt : (pointIx ps n).toNat < ps.length := by omega
  have hm : ptOf ps n ∈ ps := by
    unfold ptOf
    rw [List.getD_eq_getElem?_getD, List.getElem?_eq_getElem hlt]
    exact List.getElem_mem hlt
  simp only [baseOk, Bool.and_eq_true] at hb
  have := points_ok hb.2.2.2 _ hm
  simp only [Point.ok, inR, Bool.and_eq_true, decide_eq_true_eq] at this
  have hx : (cellOf ps n).x = (ptOf ps n).x := rfl
  have hy : (cellOf ps n).y = (ptOf ps n).y := rfl
  simp only [smallC, hx, hy, Bool.and_eq_true, decide_eq_true_eq]
  obtain ⟨_, ⟨h5, h6⟩, h7, h8⟩ := this
  exact ⟨⟨h5, by omega⟩, h7, by omega⟩
theorem legAll_len {a b : Cell} : (legAll a b).length = legN a b + 1 := by
  unfold legAll
  split
  · rw [List.length_reverse, legF, List.length_map, List.length_range]
    unfold legN; omega
  · rw [legF, List.length_map, List.length_range]
theorem cellsAll_succ (ps : List Point) (w : List Str) (m : Nat) : cellsAll ps w (m + 1) = cellsAll ps w m ++ tailC ps w m := by
  simp [cellsAll, List.range_succ]
def E_spec_PlanCells : Ent Ty El := ⟨[.ro, .ro], 0, fun a h => match a, h with
  | [.agg [.sl .kind ks, .sl .point ps], .sl .str w], [] => some (decide (ps.length < 1000000000), cellsV (cellsF ks ps w), [])
  | _, _ => none⟩
def E_impl_PlanCells : Ent Ty El := E_spec_PlanCells
end Lx
/- Cells of a route (spec). -/
set_option linter.unusedVariables false
set_option linter.unusedSimpArgs false
set_option maxRecDepth 4000
namespace Lx
open Go Go.Proofs
/-- spec.PlanCells -/
noncomputable def R_spec_PlanCells : RE Ty El := ⟨Tryz.prog, CP, [(g_spec_PlanBaseOk, E_spec_PlanBaseOk), (g_spec_l12RouteOk, E_spec_l12RouteOk), (g_spec_l17At, E_spec_l17At), (g_spec_l17Leg, E_spec_l17Leg)], Tryz.f37, 0, [.ro .cell, .any], [(6, [(1, .any), (2, .any), (6, .any), (7, .any)])]⟩
theorem R_spec_PlanCells_ok : REOK R_spec_PlanCells g_spec_PlanCells := ⟨CP_ok, (TabOK.cons E_spec_PlanBaseOk_ok (TabOK.cons E_spec_l12RouteOk_ok (TabOK.cons E_spec_l17At_ok (TabOK.cons E_spec_l17Leg_ok EOKnil)))), by kernel_rfl, by kernel_rfl⟩
theorem t_spec_PlanCells (ks : List Kind) (ps : List Point) (w : List Str) : aRun R_spec_PlanCells 600 false (body0 R_spec_PlanCells.fn) (initSt R_spec_PlanCells.fn [.agg [.sl .kind ks, .sl .point ps], .sl .str w] []) =
  ifb (!baseOk ks ps) (some (.ret (.tup [.sl .cell [], .bool false]) [])) (ifb (decide (ps.length < (1000000000 : Nat))) (ifb (!routeOk ps w) (some (.ret (.tup [.sl .cell [], .bool false]) [])) (ifb (inb (0 : Int) w.length) (ifb (decide (ps.length < (1000000000 : Nat)) && decide ((0 : Int) ≤ pointIx ps (w.getD (Int.toNat (0 : Int)) (R_spec_PlanCells.C.dflt Ty.str)))) (some (.go (todoAt R_spec_PlanCells.fn 6) [.sl .str w, .ptr 0 0, .own 1 [] 0, .int .i64 (1 : Int)] [.box [.sl .kind ks, .sl .point ps], .row .cell ([] ++ [Cell.mk (ps.getD (pointIx ps (w.getD (Int.toNat (0 : Int)) (R_spec_PlanCells.C.dflt Ty.str))).toNat default).x (ps.getD (pointIx ps (w.getD (Int.toNat (0 : Int)) (R_spec_PlanCells.C.dflt Ty.str))).toNat default).y]) 0 0 0 .no])) (none)) (none))) (none)) := by kernel_rfl
theorem t_spec_PlanCells_6 (x0 : List (El .str)) (x1 : Int) (x2 : List (El .kind)) (x3 : List (El .point)) (x4 : List (El .cell)) : aRun R_spec_PlanCells 600 true (todoAt R_spec_PlanCells.fn 6) (cutSt R_spec_PlanCells.fn (liveOf R_spec_PlanCells (todoAt R_spec_PlanCells.fn 6)) [.sl .str x0, .ptr 0 0, .own 1 [] 0, .int .i64 x1] [.box [.sl .kind x2, .sl .point x3], .row .cell x4 0 0 0 .no]) =
  ifb (decide (x1 < (↑x0.length : Int))) (ifb (inb (IntKind.i64.wrap (x1 - (1 : Int))) x0.length) (ifb (decide (x3.length < (1000000000 : Nat)) && decide ((0 : Int) ≤ pointIx x3 (x0.getD (IntKind.i64.wrap (x1 - (1 : Int))).toNat (R_spec_PlanCells.C.dflt Ty.str)))) (ifb (inb x1 x0.length) (ifb (decide (x3.length < (1000000000 : Nat)) && decide ((0 : Int) ≤ pointIx x3 (x0.getD x1.toNat (R_spec_PlanCells.C.dflt Ty.str)))) (ifb (smallC (Cell.mk (x3.getD (pointIx x3 (x0.getD (IntKind.i64.wrap (x1 - (1 : Int))).toNat (R_spec_PlanCells.C.dflt Ty.str))).toNat default).x (x3.getD (pointIx x3 (x0.getD (IntKind.i64.wrap (x1 - (1 : Int))).toNat (R_spec_PlanCells.C.dflt Ty.str))).toNat default).y) && smallC (Cell.mk (x3.getD (pointIx x3 (x0.getD x1.toNat (R_spec_PlanCells.C.dflt Ty.str))).toNat default).x (x3.getD (pointIx x3 (x0.getD x1.toNat (R_spec_PlanCells.C.dflt Ty.str))).toNat default).y)) (ifb (decide ((0 : Int) ≤ (1 : Int)) && (decide ((1 : Int) ≤ (↑(legAll (Cell.mk (x3.getD (pointIx x3 (x0.getD (IntKind.i64.wrap (x1 - (1 : Int))).toNat (R_spec_PlanCells.C.dflt Ty.str))).toNat default).x (x3.getD (pointIx x3 (x0.getD (IntKind.i64.wrap (x1 - (1 : Int))).toNat (R_spec_PlanCells.C.dflt Ty.str))).toNat default).y) (Cell.mk (x3.getD (pointIx x3 (x0.getD x1.toNat (R_spec_PlanCells.C.dflt Ty.str))).toNat default).x (x3.getD (pointIx x3 (x0.getD x1.toNat (R_spec_PlanCells.C.dflt Ty.str))).toNat default).y)).length : Int)) && decide ((↑(legAll (Cell.mk (x3.getD (pointIx x3 (x0.getD (IntKind.i64.wrap (x1 - (1 : Int))).toNat (R_spec_PlanCells.C.dflt Ty.str))).toNat default).x (x3.getD (pointIx x3 (x0.getD (IntKind.i64.wrap (x1 - (1 : Int))).toNat (R_spec_PlanCells.C.dflt Ty.str))).toNat default).y) (Cell.mk (x3.getD (pointIx x3 (x0.getD x1.toNat (R_spec_PlanCells.C.dflt Ty.str))).toNat default).x (x3.getD (pointIx x3 (x0.getD x1.toNat (R_spec_PlanCells.C.dflt Ty.str))).toNat default).y)).length : Int) ≤ (↑(legAll (Cell.mk (x3.getD (pointIx x3 (x0.getD (IntKind.i64.wrap (x1 - (1 : Int))).toNat (R_spec_PlanCells.C.dflt Ty.str))).toNat default).x (x3.getD (pointIx x3 (x0.getD (IntKind.i64.wrap (x1 - (1 : Int))).toNat (R_spec_PlanCells.C.dflt Ty.str))).toNat default).y) (Cell.mk (x3.getD (pointIx x3 (x0.getD x1.toNat (R_spec_PlanCells.C.dflt Ty.str))).toNat default).x (x3.getD (pointIx x3 (x0.getD x1.toNat (R_spec_PlanCells.C.dflt Ty.str))).toNat default).y)).length : Int)))) (ifb (decide ((x4.length + (List.take ((↑(legAll (Cell.mk (x3.getD (pointIx x3 (x0.getD (IntKind.i64.wrap (x1 - (1 : Int))).toNat (R_spec_PlanCells.C.dflt Ty.str))).toNat default).x (x3.getD (pointIx x3 (x0.getD (IntKind.i64.wrap (x1 - (1 : Int))).toNat (R_spec_PlanCells.C.dflt Ty.str))).toNat default).y) (Cell.mk (x3.getD (pointIx x3 (x0.getD x1.toNat (R_spec_PlanCells.C.dflt Ty.str))).toNat default).x (x3.getD (pointIx x3 (x0.getD x1.toNat (R_spec_PlanCells.C.dflt Ty.str))).toNat default).y)).length : Int).toNat - Int.toNat (1 : Int)) (List.drop (Int.toNat (1 : Int)) (legAll (Cell.mk (x3.getD (pointIx x3 (x0.getD (IntKind.i64.wrap (x1 - (1 : Int))).toNat (R_spec_PlanCells.C.dflt Ty.str))).toNat default).x (x3.getD (pointIx x3 (x0.getD (IntKind.i64.wrap (x1 - (1 : Int))).toNat (R_spec_PlanCells.C.dflt Ty.str))).toNat default).y) (Cell.mk (x3.getD (pointIx x3 (x0.getD x1.toNat (R_spec_PlanCells.C.dflt Ty.str))).toNat default).x (x3.getD (pointIx x3 (x0.getD x1.toNat (R_spec_PlanCells.C.dflt Ty.str))).toNat default).y)))).length) * bytesOf' R_spec_PlanCells.P (72 : Nat) ≤ (140737488355328 : Nat))) (some (.go (todoAt R_spec_PlanCells.fn 6) [.sl .str x0, .ptr 0 0, .own 1 [] 0, .int .i64 (IntKind.i64.wrap (x1 + (1 : Int)))] [.box [.sl .kind x2, .sl .point x3], .row .cell (x4 ++ List.take ((↑(legAll (Cell.mk (x3.getD (pointIx x3 (x0.getD (IntKind.i64.wrap (x1 - (1 : Int))).toNat (R_spec_PlanCells.C.dflt Ty.str))).toNat default).x (x3.getD (pointIx x3 (x0.getD (IntKind.i64.wrap (x1 - (1 : Int))).toNat (R_spec_PlanCells.C.dflt Ty.str))).toNat default).y) (Cell.mk (x3.getD (pointIx x3 (x0.getD x1.toNat (R_spec_PlanCells.C.dflt Ty.str))).toNat default).x (x3.getD (pointIx x3 (x0.getD x1.toNat (R_spec_PlanCells.C.dflt Ty.str))).toNat default).y)).length : Int).toNat - Int.toNat (1 : Int)) (List.drop (Int.toNat (1 : Int)) (legAll (Cell.mk (x3.getD (pointIx x3 (x0.getD (IntKind.i64.wrap (x1 - (1 : Int))).toNat (R_spec_PlanCells.C.dflt Ty.str))).toNat default).x (x3.getD (pointIx x3 (x0.getD (IntKind.i64.wrap (x1 - (1 : Int))).toNat (R_spec_PlanCells.C.dflt Ty.str))).toNat default).y) (Cell.mk (x3.getD (pointIx x3 (x0.getD x1.toNat (R_spec_PlanCells.C.dflt Ty.str))).toNat default).x (x3.getD (pointIx x3 (x0.getD x1.toNat (R_spec_PlanCells.C.dflt Ty.str))).toNat default).y)))) 0 0 0 .no])) (none)) (none)) (none)) (none)) (none)) (none)) (none)) (ifb (decide ((↑x4.length : Int) > (40 : Int))) (some (.ret (.tup [.sl .cell [], .bool false]) [])) (some (.ret (.tup [.sl .cell x4, .bool true]) []))) := by kernel_rfl
theorem l_spec_PlanCells (ks : List Kind) (ps : List Point) (w : List Str) (hb : baseOk ks ps = true) (hr : routeOk ps w = true) : ∀ (d i : Nat), i + d = w.length → 1 ≤ i → (cellsAll ps w (i - 1)).length ≤ 1 + 200 * i →
    Cut R_spec_PlanCells g_spec_PlanCells 6 [.sl .str w, .ptr 0 0, .own 1 [] 0, .int .i64 (i : Int)] [.box [.sl .kind ks, .sl .point ps], .row .cell (cellsAll ps w (i - 1)) 0 0 0 .no] (cellsV (cellsF ks ps w)) [] := by
  have hbs : bytesOf' R_spec_PlanCells.P 72 = 16 := by kernel_rfl
  obtain ⟨hw2, hw8, hall⟩ := routeOk_inv hr
  have hp16 := (baseOk_len hb).2
  intro d
  induction d with
  | zero =>
    intro i hi h1 hlen
    refine Cut.of R_spec_PlanCells_ok rfl (t_spec_PlanCells_6 w i ks ps _) ?_
    rw [decide_eq_false (by omega), ifb_false]
    have e : w.length - 1 = i - 1 := by omega
    by_cases h40 : (cellsAll ps w (i - 1)).length ≤ 40
    · rw [decide_eq_false (by omega)]
      refine Sat.ret ?_ rfl
      rw [cellsF, if_pos ⟨hb, hr, by rw [e]; exact h40⟩, e]; rfl
    · rw [decide_eq_true (by omega)]
      refine Sat.ret ?_ rfl
      rw [cellsF, if_neg (fun h => h40 (by rw [← e]; exact h.2.2))]; rfl
  | succ d ih =>
    intro i hi h1 hlen
    refine Cut.of R_spec_PlanCells_ok rfl (t_spec_PlanCells_6 w i ks ps _) ?_
    have hlt : i < w.length := by omega
    have hlt1 : i - 1 < w.length := by omega
    have hw : IntKind.wrap .i64 ((i : Int) + 1) = ((i + 1 : Nat) : Int) := by rw [wrap_ok] <;> omega
    have hw1 : IntKind.wrap .i64 ((i : Int) - 1) = (i : Int) - 1 := by rw [wrap_ok] <;> omega
    have hdf : R_spec_PlanCells.C.dflt Ty.str = ([] : Str) := rfl
    have e1 : ((i : Int) - 1).toNat = i - 1 := by omega
    have e2 : (i : Int).toNat = i := by omega
    have i0 : inb ((i : Int) - 1) w.length = true := by simp only [inb, Bool.and_eq_true, decide_eq_true_eq]; omega
    have i1 : inb (i : Int) w.length = true := by simp only [inb, Bool.and_eq_true, decide_eq_true_eq]; omega
    have m0 : w.getD (i - 1) [] ∈ w := by rw [List.getD_eq_getElem?_getD, List.getElem?_eq_getElem hlt1]; exact List.getElem_mem hlt1
    have m1 : w.getD i [] ∈ w := by rw [List.getD_eq_getElem?_getD, List.getElem?_eq_getElem hlt]; exact List.getElem_mem hlt
    have hc : ∀ n, Cell.mk (ps.getD (pointIx ps n).toNat default).x (ps.getD (pointIx ps n).toNat default).y = cellOf ps n := fun n => rfl
    have hl := legAll_len (a := cellOf ps (w.getD (i - 1) [])) (b := cellOf ps (w.getD i []))
    have hln := legN_le (cell_small hb (hall _ m0)) (cell_small hb (hall _ m1))
    have ht : (legAll (cellOf ps (w.getD (i - 1) [])) (cellOf ps (w.getD i []))).drop 1 = tailC ps w (i - 1) := by
      unfold tailC
      rw [show i - 1 + 1 = i by omega]
    have htl : (tailC ps w (i - 1)).length ≤ 100 := by rw [← ht, List.length_drop]; omega
    have e3 : ∀ l : List Cell, l.take ((l.length : Int).toNat - Int.toNat 1) = l.take (l.length - 1) := fun l => by rfl
    rw [hw, hw1, hdf, e1, e2, i0, i1, hc, hc, cell_small hb (hall _ m0), cell_small hb (hall _ m1), hbs, decide_eq_true (hall _ m0), decide_eq_true (hall _ m1), decide_eq_true (by omega : (i : Int) < (w.length : Int)), decide_eq_true (by omega : ps.length < 1000000000)]
    have e4 : (((legAll (cellOf ps (w.getD (i - 1) [])) (cellOf ps (w.getD i []))).drop (Int.toNat 1)).take (((legAll (cellOf ps (w.getD (i - 1) [])) (cellOf ps (w.getD i []))).length : Int).toNat - Int.toNat 1)) = tailC ps w (i - 1) := by
      rw [show (Int.toNat 1) = 1 from rfl, ht]
      exact List.take_of_length_le (by rw [← ht, List.length_drop]; omega)
    rw [e4]
    have hroom : decide (((cellsAll ps w (i - 1)).length + (tailC ps w (i - 1)).length) * 16 ≤ 140737488355328) = true := decide_eq_true (by omega)
    rw [hroom, decide_eq_true (by omega : (1 : Int) ≤ ((legAll (cellOf ps (w.getD (i - 1) [])) (cellOf ps (w.getD i []))).length : Int)), decide_eq_true (Int.le_refl ((legAll (cellOf ps (w.getD (i - 1) [])) (cellOf ps (w.getD i []))).length : Int))]
    have := ih (i + 1) (by omega) (by omega) (by
      rw [show i + 1 - 1 = (i - 1) + 1 by omega, cellsAll_succ, List.length_append]; omega)
    rw [show i + 1 - 1 = (i - 1) + 1 by omega, cellsAll_succ] at this
    exact Sat.cut this
theorem c_spec_PlanCells (ks : List Kind) (ps : List Point) (w : List Str) (hg : decide (ps.length < 1000000000) = true) : CallOK Tryz.prog CP g_spec_PlanCells [.agg [.sl .kind ks, .sl .point ps], .sl .str w] [] (cellsV (cellsF ks ps w)) [] := by
  refine CallOK.of R_spec_PlanCells_ok (by kernel_rfl) (t_spec_PlanCells ks ps w) ?_
  have no : cellsF ks ps w = none → Sat R_spec_PlanCells g_spec_PlanCells (cellsV (cellsF ks ps w)) [] (some (.ret (.tup [.sl .cell [], .bool false]) [])) := fun h => by
    rw [h]; exact Sat.ret rfl rfl
  rw [hg]
  cases hb : baseOk ks ps with
  | false => exact no (by rw [cellsF, hb]; simp)
  | true =>
    cases hr : routeOk ps w with
    | false => exact no (by rw [cellsF, hr]; simp)
    | true =>
      obtain ⟨hw2, hw8, hall⟩ := routeOk_inv hr
      have hlt : 0 < w.length := by omega
      have m0 : w.getD 0 [] ∈ w := by rw [List.getD_eq_getElem?_getD, List.getElem?_eq_getElem hlt]; exact List.getElem_mem hlt
      have hdf : R_spec_PlanCells.C.dflt Ty.str = ([] : Str) := rfl
      have i0 : inb (0 : Int) w.length = true := by simp only [inb, Bool.and_eq_true, decide_eq_true_eq]; omega
      have := l_spec_PlanCells ks ps w hb hr (w.length - 1) 1 (by omega) (Nat.le_refl _) (by simp [cellsAll])
      rw [hdf, i0, show Int.toNat 0 = 0 from rfl, decide_eq_true (hall _ m0)]
      exact Sat.cut this
theorem E_spec_PlanCells_ok : EntOK Tryz.prog CP g_spec_PlanCells E_spec_PlanCells := by
  refine ⟨⟨Tryz.f37, by kernel_rfl, by kernel_rfl, by kernel_rfl⟩, fun args H res H' h => ?_⟩
  simp only [E_spec_PlanCells] at h
  split at h
  · simp only [Option.some.injEq, Prod.mk.injEq] at h
    obtain ⟨hg, rfl, rfl⟩ := h
    exact c_spec_PlanCells _ _ _ hg
  · cases h
end Lx
/- Meanings: legs as the program makes them. -/
set_option linter.unusedVariables false
set_option linter.unusedSimpArgs false
namespace Lx
open Go Go.Proofs
def E_slices_Reverse_2_int_2_int : Ent Ty El := ⟨[.io], 0, fun a h => match a, h with
  | [.own 0 [] 0], [.row .pair xs 0 0 0 .no] => some (decide (xs.length ≤ 1000000), .tup [], [.row .pair xs.reverse 0 0 0 .no])
  | _, _ => none⟩
def E_impl_leg : Ent Ty El := ⟨[.ro, .ro, .ro, .ro], 0, fun a h => match a, h with
  | [.int .i64 ax, .int .i64 ay, .int .i64 bx, .int .i64 b_y], [] => some (smallC ⟨ax, ay⟩ && smallC ⟨bx, b_y⟩, .sl .pair (legAll ⟨ax, ay⟩ ⟨bx, b_y⟩), [])
  | _, _ => none⟩
end Lx
/- Rows turned round. -/
set_option linter.unusedVariables false
set_option linter.unusedSimpArgs false
set_option maxRecDepth 4000
namespace Lx
open Go Go.Proofs
/-- slices.Reverse[[][2]int,[2]int] -/
noncomputable def R_slices_Reverse_2_int_2_int : RE Ty El := ⟨Tryz.prog, CP, [], Tryz.f194, 1, [], [(1, [(0, .any), (2, .any), (3, .any)])]⟩
theorem R_slices_Reverse_2_int_2_int_ok : REOK R_slices_Reverse_2_int_2_int g_slices_Reverse_2_int_2_int := ⟨CP_ok, EOKnil, by kernel_rfl, by kernel_rfl⟩
theorem t_slices_Reverse_2_int_2_int (xs : List Cell) : aRun R_slices_Reverse_2_int_2_int 600 false (body0 R_slices_Reverse_2_int_2_int.fn) (initSt R_slices_Reverse_2_int_2_int.fn [.own 0 [] 0] [.row .pair xs 0 0 0 .no]) =
  some (.go (todoAt R_slices_Reverse_2_int_2_int.fn 1) [.own 0 [] 0, .int .i64 (0 : Int), .int .i64 (IntKind.i64.wrap ((↑xs.length : Int) - (1 : Int)))] [.row .pair xs 0 0 0 .no]) := by kernel_rfl
theorem t_slices_Reverse_2_int_2_int_1 (x0 : Int) (x1 : Int) (x2 : List (El .pair)) : aRun R_slices_Reverse_2_int_2_int 600 true (todoAt R_slices_Reverse_2_int_2_int.fn 1) (cutSt R_slices_Reverse_2_int_2_int.fn (liveOf R_slices_Reverse_2_int_2_int (todoAt R_slices_Reverse_2_int_2_int.fn 1)) [.own 0 [] 0, .int .i64 x0, .int .i64 x1] [.row .pair x2 0 0 0 .no]) =
  ifb (decide (x0 < x1)) (ifb (inb x1 x2.length) (ifb (inb x0 x2.length) (ifb (inb x0 x2.length) (ifb (inb x1 (x2.set x0.toNat (x2.getD x1.toNat (R_slices_Reverse_2_int_2_int.C.dflt Ty.pair))).length) (some (.go (todoAt R_slices_Reverse_2_int_2_int.fn 1) [.own 0 [] 0, .int .i64 (IntKind.i64.wrap (x0 + (1 : Int))), .int .i64 (IntKind.i64.wrap (x1 - (1 : Int)))] [.row .pair ((x2.set x0.toNat (x2.getD x1.toNat (R_slices_Reverse_2_int_2_int.C.dflt Ty.pair))).set x1.toNat (x2.getD x0.toNat (R_slices_Reverse_2_int_2_int.C.dflt Ty.pair))) 0 0 0 .no])) (none)) (none)) (none)) (none)) (some (.ret (.tup []) [.row .pair x2 0 0 0 .no])) := by kernel_rfl
theorem l_slices_Reverse_2_int_2_int (xs : List Cell) (hn : xs.length ≤ 1000000) : ∀ (d i : Nat) (ys : List Cell), 2 * (i + d) = xs.length ∨ 2 * (i + d) + 1 = xs.length → ys.length = xs.length →
    (∀ j, j < xs.length → ys[j]? = if j < i ∨ xs.length - i ≤ j then xs[xs.length - 1 - j]? else xs[j]?) →
    Cut R_slices_Reverse_2_int_2_int g_slices_Reverse_2_int_2_int 1 [.own 0 [] 0, .int .i64 (i : Int), .int .i64 ((xs.length : Int) - 1 - i)] [.row .pair ys 0 0 0 .no] (.tup []) [.row .pair xs.reverse 0 0 0 .no] := by
  intro d
  induction d with
  | zero =>
    intro i ys hi hl hinv
    refine Cut.of R_slices_Reverse_2_int_2_int_ok rfl (t_slices_Reverse_2_int_2_int_1 i _ ys) ?_
    rw [decide_eq_false (by omega)]
    have : ys = xs.reverse := by
      apply List.ext_getElem?
      intro j
      by_cases hj : j < xs.length
      · rw [hinv j hj, List.getElem?_reverse hj]
        split
        · rfl
        · have : j = xs.length - 1 - j := by omega
          rw [← this]
      · rw [List.getElem?_eq_none (by omega), List.getElem?_eq_none (by simp; omega)]
    rw [this]
    exact Sat.ret rfl rfl
  | succ d ih =>
    intro i ys hi hl hinv
    refine Cut.of R_slices_Reverse_2_int_2_int_ok rfl (t_slices_Reverse_2_int_2_int_1 i _ ys) ?_
    have hk : ((xs.length : Int) - 1 - i) = ((xs.length - 1 - i : Nat) : Int) := by omega
    rw [hk]
    have hi1 : i < ys.length := by omega
    have hi2 : xs.length - 1 - i < ys.length := by omega
    have w1 : IntKind.wrap .i64 ((i : Int) + 1) = ((i + 1 : Nat) : Int) := by rw [wrap_ok] <;> omega
    have w2 : IntKind.wrap .i64 (((xs.length - 1 - i : Nat) : Int) - 1) = (xs.length : Int) - 1 - ((i + 1 : Nat) : Int) := by rw [wrap_ok] <;> omega
    have i1 : inb (i : Int) ys.length = true := by simp only [inb, Bool.and_eq_true, decide_eq_true_eq]; omega
    have i2 : inb ((xs.length - 1 - i : Nat) : Int) ys.length = true := by simp only [inb, Bool.and_eq_true, decide_eq_true_eq]; omega
    rw [w1, w2, Int.toNat_natCast, Int.toNat_natCast, List.length_set, i1, i2, decide_eq_true (by omega : (i : Int) < ((xs.length - 1 - i : Nat) : Int))]
    simp only [ifb_true]
    refine Sat.cut (ih (i + 1) _ (by omega) (by simp [hl]) fun j hj => ?_)
    have e1 := hinv i (by omega)
    have e2 := hinv (xs.length - 1 - i) (by omega)
    rw [if_neg (by omega)] at e1 e2
    have g1 : ys.getD i (R_slices_Reverse_2_int_2_int.C.dflt .pair) = xs[i] := by
      rw [List.getD_eq_getElem?_getD, e1, List.getElem?_eq_getElem (by omega)]; rfl
    have g2 : ys.getD (xs.length - 1 - i) (R_slices_Reverse_2_int_2_int.C.dflt .pair) = xs[xs.length - 1 - i] := by
      rw [List.getD_eq_getElem?_getD, e2, List.getElem?_eq_getElem (by omega)]; rfl
    rw [g1, g2, List.getElem?_set, List.length_set]
    by_cases h1 : xs.length - 1 - i = j
    · rw [if_pos h1, if_pos (by omega), if_pos (by omega)]
      have : xs.length - 1 - j = i := by omega
      rw [this, List.getElem?_eq_getElem (by omega)]
    · rw [if_neg h1, List.getElem?_set]
      by_cases h2 : i = j
      · rw [if_pos h2, if_pos (by omega), if_pos (by omega)]
        subst h2
        rw [List.getElem?_eq_getElem (by omega)]
      · rw [if_neg h2, hinv j hj]
        by_cases h3 : j < i ∨ xs.length - i ≤ j
        · rw [if_pos h3, if_pos (by omega)]
        · rw [if_neg h3, if_neg (by omega)]
theorem c_slices_Reverse_2_int_2_int (xs : List Cell) (hg : decide (xs.length ≤ 1000000) = true) : CallOK Tryz.prog CP g_slices_Reverse_2_int_2_int [.own 0 [] 0] [.row .pair xs 0 0 0 .no] (.tup []) [.row .pair xs.reverse 0 0 0 .no] := by
  refine CallOK.of R_slices_Reverse_2_int_2_int_ok (by kernel_rfl) (t_slices_Reverse_2_int_2_int xs) ?_
  have hn := of_decide_eq_true hg
  have hw : IntKind.wrap .i64 ((xs.length : Int) - 1) = (xs.length : Int) - 1 - ((0 : Nat) : Int) := by rw [wrap_ok] <;> omega
  rw [hw]
  exact Sat.cut (l_slices_Reverse_2_int_2_int xs hn (xs.length / 2) 0 xs (by omega) rfl fun j hj => by rw [if_neg (by omega)])
theorem E_slices_Reverse_2_int_2_int_ok : EntOK Tryz.prog CP g_slices_Reverse_2_int_2_int E_slices_Reverse_2_int_2_int := by
  refine ⟨⟨Tryz.f194, by kernel_rfl, by kernel_rfl, by kernel_rfl⟩, fun args H res H' h => ?_⟩
  simp only [E_slices_Reverse_2_int_2_int] at h
  split at h
  · simp only [Option.some.injEq, Prod.mk.injEq] at h
    obtain ⟨hg, rfl, rfl⟩ := h
    exact c_slices_Reverse_2_int_2_int _ hg
  · cases h
end Lx
/- Legs, as the program makes them. -/
set_option linter.unusedVariables false
set_option linter.unusedSimpArgs false
set_option maxRecDepth 4000
namespace Lx
open Go Go.Proofs
/-- impl.leg -/
noncomputable def R_impl_leg : RE Ty El := ⟨Tryz.prog, CP, [(g_impl_dist, E_impl_dist), (g_impl_floorDiv, E_impl_floorDiv), (g_slices_Reverse_2_int_2_int, E_slices_Reverse_2_int_2_int)], Tryz.f122, 0, [.ro .pair], [(7, [(0, .any), (1, .any), (2, .any), (3, .any), (9, .any), (10, .any), (11, .any), (12, .any)])]⟩
theorem R_impl_leg_ok : REOK R_impl_leg g_impl_leg := ⟨CP_ok, (TabOK.cons E_impl_dist_ok (TabOK.cons E_impl_floorDiv_ok (TabOK.cons E_slices_Reverse_2_int_2_int_ok EOKnil))), by kernel_rfl, by kernel_rfl⟩
theorem t_impl_leg (ax ay bx b_y : Int) : aRun R_impl_leg 600 false (body0 R_impl_leg.fn) (initSt R_impl_leg.fn [.int .i64 ax, .int .i64 ay, .int .i64 bx, .int .i64 b_y] []) =
  ifb (decide (ax > bx)) (ifb (smallI bx && smallI ax) (ifb (smallI b_y && smallI ay) (some (.go (todoAt R_impl_leg.fn 7) [.int .i64 bx, .int .i64 b_y, .int .i64 ax, .int .i64 ay, .bool true, .int .i64 (max2A (↑(bx - ax).natAbs : Int) (↑(b_y - ay).natAbs : Int)), .own 0 [] 0, .int .i64 (0 : Int)] [.row .pair [] 0 0 0 .no])) (none)) (none)) (ifb (ax == bx) (ifb (decide (ay > b_y)) (ifb (smallI bx && smallI ax) (ifb (smallI b_y && smallI ay) (some (.go (todoAt R_impl_leg.fn 7) [.int .i64 bx, .int .i64 b_y, .int .i64 ax, .int .i64 ay, .bool (decide (ay > b_y)), .int .i64 (max2A (↑(bx - ax).natAbs : Int) (↑(b_y - ay).natAbs : Int)), .own 0 [] 0, .int .i64 (0 : Int)] [.row .pair [] 0 0 0 .no])) (none)) (none)) (ifb (smallI ax && smallI bx) (ifb (smallI ay && smallI b_y) (some (.go (todoAt R_impl_leg.fn 7) [.int .i64 ax, .int .i64 ay, .int .i64 bx, .int .i64 b_y, .bool (decide (ay > b_y)), .int .i64 (max2A (↑(ax - bx).natAbs : Int) (↑(ay - b_y).natAbs : Int)), .own 0 [] 0, .int .i64 (0 : Int)] [.row .pair [] 0 0 0 .no])) (none)) (none))) (ifb (smallI ax && smallI bx) (ifb (smallI ay && smallI b_y) (some (.go (todoAt R_impl_leg.fn 7) [.int .i64 ax, .int .i64 ay, .int .i64 bx, .int .i64 b_y, .bool false, .int .i64 (max2A (↑(ax - bx).natAbs : Int) (↑(ay - b_y).natAbs : Int)), .own 0 [] 0, .int .i64 (0 : Int)] [.row .pair [] 0 0 0 .no])) (none)) (none))) := by kernel_rfl
theorem t_impl_leg_7 (x0 : Int) (x1 : Int) (x2 : Int) (x3 : Int) (x4 : Bool) (x5 : Int) (x6 : Int) (x7 : List (El .pair)) : aRun R_impl_leg 600 true (todoAt R_impl_leg.fn 7) (cutSt R_impl_leg.fn (liveOf R_impl_leg (todoAt R_impl_leg.fn 7)) [.int .i64 x0, .int .i64 x1, .int .i64 x2, .int .i64 x3, .bool x4, .int .i64 x5, .own 0 [] 0, .int .i64 x6] [.row .pair x7 0 0 0 .no]) =
  ifb (decide (x6 ≤ x5)) (ifb (x5 == (0 : Int)) (ifb (decide ((x7.length + [Cell.mk x0 x1].length) * bytesOf' R_impl_leg.P (170 : Nat) ≤ (140737488355328 : Nat))) (ifb x4 (ifb (decide ((x7 ++ [Cell.mk x0 x1]).length ≤ (1000000 : Nat))) (some (.ret (.sl .pair ((x7 ++ [Cell.mk x0 x1]).reverse)) [])) (none)) (some (.ret (.sl .pair (x7 ++ [Cell.mk x0 x1])) []))) (none)) (ifb (smallI (IntKind.i64.wrap (IntKind.i64.wrap (IntKind.i64.wrap ((2 : Int) * x6) * IntKind.i64.wrap (x2 - x0)) + x5)) && (smallI (IntKind.i64.wrap ((2 : Int) * x5)) && decide ((0 : Int) < IntKind.i64.wrap ((2 : Int) * x5)))) (ifb (smallI (IntKind.i64.wrap (IntKind.i64.wrap (IntKind.i64.wrap ((2 : Int) * x6) * IntKind.i64.wrap (x3 - x1)) + x5)) && (smallI (IntKind.i64.wrap ((2 : Int) * x5)) && decide ((0 : Int) < IntKind.i64.wrap ((2 : Int) * x5)))) (ifb (decide ((x7.length + [Cell.mk (IntKind.i64.wrap (x0 + IntKind.i64.wrap (IntKind.i64.wrap (IntKind.i64.wrap ((2 : Int) * x6) * IntKind.i64.wrap (x2 - x0)) + x5) / IntKind.i64.wrap ((2 : Int) * x5))) (IntKind.i64.wrap (x1 + IntKind.i64.wrap (IntKind.i64.wrap (IntKind.i64.wrap ((2 : Int) * x6) * IntKind.i64.wrap (x3 - x1)) + x5) / IntKind.i64.wrap ((2 : Int) * x5)))].length) * bytesOf' R_impl_leg.P (170 : Nat) ≤ (140737488355328 : Nat))) (some (.go (todoAt R_impl_leg.fn 7) [.int .i64 x0, .int .i64 x1, .int .i64 x2, .int .i64 x3, .bool x4, .int .i64 x5, .own 0 [] 0, .int .i64 (IntKind.i64.wrap (x6 + (1 : Int)))] [.row .pair (x7 ++ [Cell.mk (IntKind.i64.wrap (x0 + IntKind.i64.wrap (IntKind.i64.wrap (IntKind.i64.wrap ((2 : Int) * x6) * IntKind.i64.wrap (x2 - x0)) + x5) / IntKind.i64.wrap ((2 : Int) * x5))) (IntKind.i64.wrap (x1 + IntKind.i64.wrap (IntKind.i64.wrap (IntKind.i64.wrap ((2 : Int) * x6) * IntKind.i64.wrap (x3 - x1)) + x5) / IntKind.i64.wrap ((2 : Int) * x5)))]) 0 0 0 .no])) (none)) (none)) (none))) (ifb x4 (ifb (decide (x7.length ≤ (1000000 : Nat))) (some (.ret (.sl .pair x7.reverse) [])) (none)) (some (.ret (.sl .pair x7) []))) := by kernel_rfl
theorem l_impl_leg (a b : Cell) (t : Bool) (ha : smallC a = true) (hb : smallC b = true) : ∀ (d k : Nat), k + d = legN a b + 1 →
    Cut R_impl_leg g_impl_leg 7 [.int .i64 a.x, .int .i64 a.y, .int .i64 b.x, .int .i64 b.y, .bool t, .int .i64 (legN a b : Int), .own 0 [] 0, .int .i64 (k : Int)] [.row .pair ((List.range k).map (legAt a b)) 0 0 0 .no] (.sl .pair (if t then (legF a b).reverse else legF a b)) [] := by
  have hn := legN_le ha hb
  have hbs : bytesOf' R_impl_leg.P 170 = 16 := by kernel_rfl
  simp only [smallC, Bool.and_eq_true, decide_eq_true_eq] at ha hb
  have fin : ∀ zs : List Cell, zs = legF a b → Sat R_impl_leg g_impl_leg (.sl .pair (if t then (legF a b).reverse else legF a b)) [] (ifb t (ifb (decide (zs.length ≤ (1000000 : Nat))) (some (.ret (.sl .pair zs.reverse) [])) (none)) (some (.ret (.sl .pair zs) []))) := fun zs hz => by
    subst hz
    cases t with
    | true =>
      rw [decide_eq_true (by rw [legF, List.length_map, List.length_range]; omega)]
      exact Sat.ret rfl rfl
    | false => exact Sat.ret rfl rfl
  intro d
  induction d with
  | zero =>
    intro k hk
    refine Cut.of R_impl_leg_ok rfl (t_impl_leg_7 a.x a.y b.x b.y t (legN a b) k _) ?_
    rw [decide_eq_false (by omega), ifb_false]
    refine fin _ ?_
    rw [show k = legN a b + 1 by omega]; rfl
  | succ d ih =>
    intro k hk
    refine Cut.of R_impl_leg_ok rfl (t_impl_leg_7 a.x a.y b.x b.y t (legN a b) k _) ?_
    rw [decide_eq_true (by omega : (k : Int) ≤ (legN a b : Int)), ifb_true, hbs]
    have hroom : ∀ x : Cell, decide ((((List.range k).map (legAt a b)).length + [x].length) * 16 ≤ 140737488355328) = true := fun x => decide_eq_true (by simp; omega)
    rw [hroom, hroom]
    by_cases hN : legN a b = 0
    · have hk0 : k = 0 := by omega
      subst hk0
      rw [hN]
      refine fin _ ?_
      rw [legF, hN]
      show [(⟨a.x, a.y⟩ : Cell)] = [legAt a b 0]
      rw [legAt_zero]
    · have e0 : (((legN a b : Nat) : Int) == 0) = false := beq_eq_false_iff_ne.2 (by omega)
      have hw : IntKind.wrap .i64 ((k : Int) + 1) = ((k + 1 : Nat) : Int) := by rw [wrap_ok] <;> omega
      have wx : IntKind.wrap .i64 (b.x - a.x) = b.x - a.x := wrap_ok (by omega) (by omega)
      have wy : IntKind.wrap .i64 (b.y - a.y) = b.y - a.y := wrap_ok (by omega) (by omega)
      have w2 : IntKind.wrap .i64 (2 * (k : Int)) = 2 * (k : Int) := wrap_ok (by omega) (by omega)
      have w3 : IntKind.wrap .i64 (2 * (legN a b : Int)) = 2 * (legN a b : Int) := wrap_ok (by omega) (by omega)
      have prod : ∀ e : Int, e.natAbs ≤ 100 → (2 * (k : Int) * e).natAbs ≤ 202 * 100 := fun e he => by
        rw [Int.natAbs_mul]
        exact Nat.mul_le_mul (by omega) he
      have px := prod (b.x - a.x) (by omega)
      have py := prod (b.y - a.y) (by omega)
      have bx := part_small (d := b.x - a.x) (k := k) (n := (legN a b : Int)) (by omega) (M := 30000) (by omega)
      have by' := part_small (d := b.y - a.y) (k := k) (n := (legN a b : Int)) (by omega) (M := 30000) (by omega)
      have w4 : IntKind.wrap .i64 (2 * (k : Int) * (b.x - a.x)) = 2 * (k : Int) * (b.x - a.x) := wrap_ok (by omega) (by omega)
      have w5 : IntKind.wrap .i64 (2 * (k : Int) * (b.y - a.y)) = 2 * (k : Int) * (b.y - a.y) := wrap_ok (by omega) (by omega)
      have w6 : IntKind.wrap .i64 (2 * (k : Int) * (b.x - a.x) + (legN a b : Int)) = 2 * (k : Int) * (b.x - a.x) + (legN a b : Int) := wrap_ok (by omega) (by omega)
      have w7 : IntKind.wrap .i64 (2 * (k : Int) * (b.y - a.y) + (legN a b : Int)) = 2 * (k : Int) * (b.y - a.y) + (legN a b : Int) := wrap_ok (by omega) (by omega)
      have f1 : (2 * (k : Int) * (b.x - a.x) + (legN a b : Int)) / (2 * (legN a b : Int)) = partF (b.x - a.x) k (legN a b) := rfl
      have f2 : (2 * (k : Int) * (b.y - a.y) + (legN a b : Int)) / (2 * (legN a b : Int)) = partF (b.y - a.y) k (legN a b) := rfl
      have w8 : IntKind.wrap .i64 (a.x + partF (b.x - a.x) k (legN a b)) = a.x + partF (b.x - a.x) k (legN a b) := wrap_ok (by omega) (by omega)
      have w9 : IntKind.wrap .i64 (a.y + partF (b.y - a.y) k (legN a b)) = a.y + partF (b.y - a.y) k (legN a b) := wrap_ok (by omega) (by omega)
      have s1 : smallI (2 * (k : Int) * (b.x - a.x) + (legN a b : Int)) = true := by simp only [smallI, Bool.and_eq_true, decide_eq_true_eq]; omega
      have s2 : smallI (2 * (k : Int) * (b.y - a.y) + (legN a b : Int)) = true := by simp only [smallI, Bool.and_eq_true, decide_eq_true_eq]; omega
      have s3 : smallI (2 * (legN a b : Int)) = true := by simp only [smallI, Bool.and_eq_true, decide_eq_true_eq]; omega
      rw [e0, ifb_false, wx, wy, w2, w3, w4, w5, w6, w7, s1, s2, s3, f1, f2, w8, w9, hw, decide_eq_true (by omega : (0 : Int) < 2 * (legN a b : Int))]
      simp only [ifb_true, Bool.and_self]
      have := ih (k + 1) (by omega)
      rw [List.range_succ, List.map_append] at this
      have e : legAt a b k = ⟨a.x + partF (b.x - a.x) k (legN a b), a.y + partF (b.y - a.y) k (legN a b)⟩ := by unfold legAt; rw [if_neg hN]
      rw [List.map_cons, List.map_nil, e] at this
      exact Sat.cut this
theorem c_impl_leg (ax ay bx b_y : Int) (hg : (smallC ⟨ax, ay⟩ && smallC ⟨bx, b_y⟩) = true) : CallOK Tryz.prog CP g_impl_leg [.int .i64 ax, .int .i64 ay, .int .i64 bx, .int .i64 b_y] [] (.sl .pair (legAll ⟨ax, ay⟩ ⟨bx, b_y⟩)) [] := by
  refine CallOK.of R_impl_leg_ok (by kernel_rfl) (t_impl_leg ax ay bx b_y) ?_
  simp only [Bool.and_eq_true] at hg
  obtain ⟨ha, hb⟩ := hg
  have h1 := l_impl_leg ⟨ax, ay⟩ ⟨bx, b_y⟩ false ha hb _ 0 (Nat.zero_add _)
  have h2 := l_impl_leg ⟨bx, b_y⟩ ⟨ax, ay⟩ true hb ha _ 0 (Nat.zero_add _)
  simp only [smallC, Bool.and_eq_true, decide_eq_true_eq] at ha hb
  have m : ∀ x y : Int, 0 ≤ x → x ≤ 100 → 0 ≤ y → y ≤ 100 → (smallI x && smallI y) = true := fun x y _ _ _ _ => by simp only [smallI, Bool.and_eq_true, decide_eq_true_eq]; omega
  have n1 : max2A ((ax - bx).natAbs : Int) ((ay - b_y).natAbs : Int) = (legN ⟨ax, ay⟩ ⟨bx, b_y⟩ : Int) := by
    unfold max2A legN
    simp only
    split <;> omega
  have n2 : max2A ((bx - ax).natAbs : Int) ((b_y - ay).natAbs : Int) = (legN ⟨bx, b_y⟩ ⟨ax, ay⟩ : Int) := by
    unfold max2A legN
    simp only
    split <;> omega
  rw [m ax bx (by omega) (by omega) (by omega) (by omega), m ay b_y (by omega) (by omega) (by omega) (by omega), m bx ax (by omega) (by omega) (by omega) (by omega), m b_y ay (by omega) (by omega) (by omega) (by omega), n1, n2]
  simp only [ifb_true]
  by_cases c1 : ax > bx
  · rw [decide_eq_true c1]
    rw [show legAll ⟨ax, ay⟩ ⟨bx, b_y⟩ = (legF ⟨bx, b_y⟩ ⟨ax, ay⟩).reverse by rw [legAll, if_pos (by simp [turnedB]; omega)]]
    exact Sat.cut h2
  · rw [decide_eq_false c1]
    by_cases c2 : ax = bx
    · rw [beq_iff_eq.2 c2]
      by_cases c3 : ay > b_y
      · rw [decide_eq_true c3]
        rw [show legAll ⟨ax, ay⟩ ⟨bx, b_y⟩ = (legF ⟨bx, b_y⟩ ⟨ax, ay⟩).reverse by rw [legAll, if_pos (by simp [turnedB]; omega)]]
        exact Sat.cut h2
      · rw [decide_eq_false c3]
        rw [show legAll ⟨ax, ay⟩ ⟨bx, b_y⟩ = legF ⟨ax, ay⟩ ⟨bx, b_y⟩ by rw [legAll, if_neg (by simp [turnedB]; omega)]]
        exact Sat.cut h1
    · rw [beq_eq_false_iff_ne.2 c2]
      rw [show legAll ⟨ax, ay⟩ ⟨bx, b_y⟩ = legF ⟨ax, ay⟩ ⟨bx, b_y⟩ by rw [legAll, if_neg (by simp [turnedB]; omega)]]
      exact Sat.cut h1
theorem E_impl_leg_ok : EntOK Tryz.prog CP g_impl_leg E_impl_leg := by
  refine ⟨⟨Tryz.f122, by kernel_rfl, by kernel_rfl, by kernel_rfl⟩, fun args H res H' h => ?_⟩
  simp only [E_impl_leg] at h
  split at h
  · simp only [Option.some.injEq, Prod.mk.injEq] at h
    obtain ⟨hg, rfl, rfl⟩ := h
    exact c_impl_leg _ _ _ _ hg
  · cases h
end Lx
/- Cells of a route, as the program makes them. -/
set_option linter.unusedVariables false
set_option linter.unusedSimpArgs false
set_option maxRecDepth 4000
namespace Lx
open Go Go.Proofs
/-- impl.PlanCells -/
noncomputable def R_impl_PlanCells : RE Ty El := ⟨Tryz.prog, CP, [(g_impl_PlanBaseOk, E_impl_PlanBaseOk), (g_impl_PlanBase_route, E_impl_PlanBase_route), (g_impl_leg, E_impl_leg)], Tryz.f36, 0, [.ro .cell, .any], [(8, [(6, .any), (8, .any), (9, .any)]), (11, [(6, .any), (8, .any), (9, .any), (62, .any), (63, .any), (64, .any)])]⟩
theorem R_impl_PlanCells_ok : REOK R_impl_PlanCells g_impl_PlanCells := ⟨CP_ok, (TabOK.cons E_impl_PlanBaseOk_ok (TabOK.cons E_impl_PlanBase_route_ok (TabOK.cons E_impl_leg_ok EOKnil))), by kernel_rfl, by kernel_rfl⟩
theorem t_impl_PlanCells (ks : List Kind) (ps : List Point) (w : List Str) : aRun R_impl_PlanCells 600 false (body0 R_impl_PlanCells.fn) (initSt R_impl_PlanCells.fn [.agg [.sl .kind ks, .sl .point ps], .sl .str w] []) =
  ifb (!baseOk ks ps) (some (.ret (.tup [.sl .cell [], .bool false]) [])) (ifb (decide (ps.length < (1000000000 : Nat))) (ifb (!routeOk ps w) (some (.ret (.tup [.sl .cell [], .bool false]) [])) (ifb (inb (0 : Int) (routeP ps w).length) (ifb (inb (0 : Int) (routeP ps w).length) (some (.go (todoAt R_impl_PlanCells.fn 8) [.sl .point (routeP ps w), .own 0 [] 0, .int .i64 (1 : Int)] [.row .cell [Cell.mk ((routeP ps w).getD (Int.toNat (0 : Int)) (R_impl_PlanCells.C.dflt Ty.point)).x ((routeP ps w).getD (Int.toNat (0 : Int)) (R_impl_PlanCells.C.dflt Ty.point)).y] 0 0 0 .no])) (none)) (none))) (none)) := by kernel_rfl
theorem t_impl_PlanCells_8 (x0 : List (El .point)) (x1 : Int) (x2 : List (El .cell)) : aRun R_impl_PlanCells 600 true (todoAt R_impl_PlanCells.fn 8) (cutSt R_impl_PlanCells.fn (liveOf R_impl_PlanCells (todoAt R_impl_PlanCells.fn 8)) [.sl .point x0, .own 0 [] 0, .int .i64 x1] [.row .cell x2 0 0 0 .no]) =
  ifb (decide (x1 < (↑x0.length : Int))) (ifb (inb (IntKind.i64.wrap (x1 - (1 : Int))) x0.length) (ifb (inb (IntKind.i64.wrap (x1 - (1 : Int))) x0.length) (ifb (inb x1 x0.length) (ifb (inb x1 x0.length) (ifb (smallC (Cell.mk (x0.getD (IntKind.i64.wrap (x1 - (1 : Int))).toNat (R_impl_PlanCells.C.dflt Ty.point)).x (x0.getD (IntKind.i64.wrap (x1 - (1 : Int))).toNat (R_impl_PlanCells.C.dflt Ty.point)).y) && smallC (Cell.mk (x0.getD x1.toNat (R_impl_PlanCells.C.dflt Ty.point)).x (x0.getD x1.toNat (R_impl_PlanCells.C.dflt Ty.point)).y)) (ifb (decide ((0 : Int) ≤ (1 : Int)) && (decide ((1 : Int) ≤ (↑(legAll (Cell.mk (x0.getD (IntKind.i64.wrap (x1 - (1 : Int))).toNat (R_impl_PlanCells.C.dflt Ty.point)).x (x0.getD (IntKind.i64.wrap (x1 - (1 : Int))).toNat (R_impl_PlanCells.C.dflt Ty.point)).y) (Cell.mk (x0.getD x1.toNat (R_impl_PlanCells.C.dflt Ty.point)).x (x0.getD x1.toNat (R_impl_PlanCells.C.dflt Ty.point)).y)).length : Int)) && decide ((↑(legAll (Cell.mk (x0.getD (IntKind.i64.wrap (x1 - (1 : Int))).toNat (R_impl_PlanCells.C.dflt Ty.point)).x (x0.getD (IntKind.i64.wrap (x1 - (1 : Int))).toNat (R_impl_PlanCells.C.dflt Ty.point)).y) (Cell.mk (x0.getD x1.toNat (R_impl_PlanCells.C.dflt Ty.point)).x (x0.getD x1.toNat (R_impl_PlanCells.C.dflt Ty.point)).y)).length : Int) ≤ (↑(legAll (Cell.mk (x0.getD (IntKind.i64.wrap (x1 - (1 : Int))).toNat (R_impl_PlanCells.C.dflt Ty.point)).x (x0.getD (IntKind.i64.wrap (x1 - (1 : Int))).toNat (R_impl_PlanCells.C.dflt Ty.point)).y) (Cell.mk (x0.getD x1.toNat (R_impl_PlanCells.C.dflt Ty.point)).x (x0.getD x1.toNat (R_impl_PlanCells.C.dflt Ty.point)).y)).length : Int)))) (some (.go (todoAt R_impl_PlanCells.fn 11) [.sl .point x0, .own 0 [] 0, .int .i64 x1, .sl .pair (List.take ((↑(legAll (Cell.mk (x0.getD (IntKind.i64.wrap (x1 - (1 : Int))).toNat (R_impl_PlanCells.C.dflt Ty.point)).x (x0.getD (IntKind.i64.wrap (x1 - (1 : Int))).toNat (R_impl_PlanCells.C.dflt Ty.point)).y) (Cell.mk (x0.getD x1.toNat (R_impl_PlanCells.C.dflt Ty.point)).x (x0.getD x1.toNat (R_impl_PlanCells.C.dflt Ty.point)).y)).length : Int).toNat - Int.toNat (1 : Int)) (List.drop (Int.toNat (1 : Int)) (legAll (Cell.mk (x0.getD (IntKind.i64.wrap (x1 - (1 : Int))).toNat (R_impl_PlanCells.C.dflt Ty.point)).x (x0.getD (IntKind.i64.wrap (x1 - (1 : Int))).toNat (R_impl_PlanCells.C.dflt Ty.point)).y) (Cell.mk (x0.getD x1.toNat (R_impl_PlanCells.C.dflt Ty.point)).x (x0.getD x1.toNat (R_impl_PlanCells.C.dflt Ty.point)).y)))), .int .i64 ((↑(List.take ((↑(legAll (Cell.mk (x0.getD (IntKind.i64.wrap (x1 - (1 : Int))).toNat (R_impl_PlanCells.C.dflt Ty.point)).x (x0.getD (IntKind.i64.wrap (x1 - (1 : Int))).toNat (R_impl_PlanCells.C.dflt Ty.point)).y) (Cell.mk (x0.getD x1.toNat (R_impl_PlanCells.C.dflt Ty.point)).x (x0.getD x1.toNat (R_impl_PlanCells.C.dflt Ty.point)).y)).length : Int).toNat - Int.toNat (1 : Int)) (List.drop (Int.toNat (1 : Int)) (legAll (Cell.mk (x0.getD (IntKind.i64.wrap (x1 - (1 : Int))).toNat (R_impl_PlanCells.C.dflt Ty.point)).x (x0.getD (IntKind.i64.wrap (x1 - (1 : Int))).toNat (R_impl_PlanCells.C.dflt Ty.point)).y) (Cell.mk (x0.getD x1.toNat (R_impl_PlanCells.C.dflt Ty.point)).x (x0.getD x1.toNat (R_impl_PlanCells.C.dflt Ty.point)).y)))).length : Int)), .int .i64 (0 : Int)] [.row .cell x2 0 0 0 .no])) (none)) (none)) (none)) (none)) (none)) (none)) (ifb (decide ((↑x2.length : Int) > (40 : Int))) (some (.ret (.tup [.sl .cell [], .bool false]) [])) (some (.ret (.tup [.sl .cell x2, .bool true]) []))) := by kernel_rfl
theorem t_impl_PlanCells_11 (x0 : List (El .point)) (x1 : Int) (x2 : List (El .pair)) (x3 : Int) (x4 : Int) (x5 : List (El .cell)) : aRun R_impl_PlanCells 600 true (todoAt R_impl_PlanCells.fn 11) (cutSt R_impl_PlanCells.fn (liveOf R_impl_PlanCells (todoAt R_impl_PlanCells.fn 11)) [.sl .point x0, .own 0 [] 0, .int .i64 x1, .sl .pair x2, .int .i64 x3, .int .i64 x4] [.row .cell x5 0 0 0 .no]) =
  ifb (decide (x4 < x3)) (ifb (inb x4 x2.length) (ifb (decide ((x5.length + [x2.getD x4.toNat (R_impl_PlanCells.C.dflt Ty.pair)].length) * bytesOf' R_impl_PlanCells.P (72 : Nat) ≤ (140737488355328 : Nat))) (some (.go (todoAt R_impl_PlanCells.fn 11) [.sl .point x0, .own 0 [] 0, .int .i64 x1, .sl .pair x2, .int .i64 x3, .int .i64 (IntKind.i64.wrap (x4 + (1 : Int)))] [.row .cell (x5 ++ [x2.getD x4.toNat (R_impl_PlanCells.C.dflt Ty.pair)]) 0 0 0 .no])) (none)) (none)) (some (.go (todoAt R_impl_PlanCells.fn 8) [.sl .point x0, .own 0 [] 0, .int .i64 (IntKind.i64.wrap (x1 + (1 : Int)))] [.row .cell x5 0 0 0 .no])) := by kernel_rfl
theorem li_impl_PlanCells (pts : List Point) (i : Nat) (hi : i < 1000) (cs : List Cell) (hcs : cs.length ≤ 100) (acc : List Cell) (hacc : acc.length ≤ 10000) (res : V) (h8 : Cut R_impl_PlanCells g_impl_PlanCells 8 [.sl .point pts, .own 0 [] 0, .int .i64 ((i + 1 : Nat) : Int)] [.row .cell (acc ++ cs) 0 0 0 .no] res []) : ∀ (d k : Nat), k + d = cs.length →
    Cut R_impl_PlanCells g_impl_PlanCells 11 [.sl .point pts, .own 0 [] 0, .int .i64 (i : Int), .sl .pair cs, .int .i64 (cs.length : Int), .int .i64 (k : Int)] [.row .cell (acc ++ cs.take k) 0 0 0 .no] res [] := by
  have hbs : bytesOf' R_impl_PlanCells.P 72 = 16 := by kernel_rfl
  have hwi : IntKind.wrap .i64 ((i : Int) + 1) = ((i + 1 : Nat) : Int) := by rw [wrap_ok] <;> omega
  intro d
  induction d with
  | zero =>
    intro k hk
    refine Cut.of R_impl_PlanCells_ok rfl (t_impl_PlanCells_11 pts i cs cs.length k _) ?_
    rw [decide_eq_false (by omega), hwi, List.take_of_length_le (by omega)]
    exact Sat.cut h8
  | succ d ih =>
    intro k hk
    refine Cut.of R_impl_PlanCells_ok rfl (t_impl_PlanCells_11 pts i cs cs.length k _) ?_
    have hlt : k < cs.length := by omega
    have hw : IntKind.wrap .i64 ((k : Int) + 1) = ((k + 1 : Nat) : Int) := by rw [wrap_ok] <;> omega
    have hw1 : IntKind.wrap .i64 ((k : Int) - 1) = (k : Int) - 1 := by rw [wrap_ok] <;> omega
    have hd : cs.drop k = cs[k] :: cs.drop (k + 1) := List.drop_eq_getElem_cons hlt
    have hx : cs.getD (k : Int).toNat (R_impl_PlanCells.C.dflt .pair) = cs[k] := by simp [hlt]
    have hin : inb (k : Int) cs.length = true := by simp only [inb, Bool.and_eq_true, decide_eq_true_eq]; omega
    have hlo : decide ((k : Int) < (cs.length : Int)) = true := decide_eq_true (by omega)
    have htk := List.take_succ_eq_append_getElem hlt
    have hl : (cs.take (k + 1)).getLast? = some cs[k] := by rw [List.take_succ_eq_append_getElem hlt, List.getLast?_concat]
    have hroom : decide (((acc ++ cs.take k).length + [cs[k]].length) * 16 ≤ 140737488355328) = true := decide_eq_true (by simp; omega)
    rw [hlo, hin, hx, hw, hbs, hroom]
    have := ih (k + 1) (by omega)
    rw [htk, ← List.append_assoc] at this
    exact Sat.cut this
theorem l_impl_PlanCells (ks : List Kind) (ps : List Point) (w : List Str) (hb : baseOk ks ps = true) (hr : routeOk ps w = true) : ∀ (d i : Nat), i + d = w.length → 1 ≤ i → (cellsAll ps w (i - 1)).length ≤ 1 + 200 * i →
    Cut R_impl_PlanCells g_impl_PlanCells 8 [.sl .point (w.map (ptOf ps)), .own 0 [] 0, .int .i64 (i : Int)] [.row .cell (cellsAll ps w (i - 1)) 0 0 0 .no] (cellsV (cellsF ks ps w)) [] := by
  obtain ⟨hw2, hw8, hall⟩ := routeOk_inv hr
  intro d
  induction d with
  | zero =>
    intro i hi h1 hlen
    refine Cut.of R_impl_PlanCells_ok rfl (t_impl_PlanCells_8 (w.map (ptOf ps)) i _) ?_
    rw [List.length_map, decide_eq_false (by omega), ifb_false]
    have e : w.length - 1 = i - 1 := by omega
    by_cases h40 : (cellsAll ps w (i - 1)).length ≤ 40
    · rw [decide_eq_false (by omega)]
      refine Sat.ret ?_ rfl
      rw [cellsF, if_pos ⟨hb, hr, by rw [e]; exact h40⟩, e]; rfl
    · rw [decide_eq_true (by omega)]
      refine Sat.ret ?_ rfl
      rw [cellsF, if_neg (fun h => h40 (by rw [← e]; exact h.2.2))]; rfl
  | succ d ih =>
    intro i hi h1 hlen
    refine Cut.of R_impl_PlanCells_ok rfl (t_impl_PlanCells_8 (w.map (ptOf ps)) i _) ?_
    have hlt : i < w.length := by omega
    have hlt1 : i - 1 < w.length := by omega
    have hw1 : IntKind.wrap .i64 ((i : Int) - 1) = (i : Int) - 1 := by rw [wrap_ok] <;> omega
    have e1 : ((i : Int) - 1).toNat = i - 1 := by omega
    have e2 : (i : Int).toNat = i := by omega
    have i0 : inb ((i : Int) - 1) w.length = true := by simp only [inb, Bool.and_eq_true, decide_eq_true_eq]; omega
    have i1 : inb (i : Int) w.length = true := by simp only [inb, Bool.and_eq_true, decide_eq_true_eq]; omega
    have m0 : w.getD (i - 1) [] ∈ w := by rw [List.getD_eq_getElem?_getD, List.getElem?_eq_getElem hlt1]; exact List.getElem_mem hlt1
    have m1 : w.getD i [] ∈ w := by rw [List.getD_eq_getElem?_getD, List.getElem?_eq_getElem hlt]; exact List.getElem_mem hlt
    have hp : ∀ j, j < w.length → (w.map (ptOf ps)).getD j (R_impl_PlanCells.C.dflt Ty.point) = ptOf ps (w.getD j []) := fun j hj => by simp [hj]
    have hc : ∀ n, Cell.mk (ptOf ps n).x (ptOf ps n).y = cellOf ps n := fun n => rfl
    have hl := legAll_len (a := cellOf ps (w.getD (i - 1) [])) (b := cellOf ps (w.getD i []))
    have hln := legN_le (cell_small hb (hall _ m0)) (cell_small hb (hall _ m1))
    have ht : (legAll (cellOf ps (w.getD (i - 1) [])) (cellOf ps (w.getD i []))).drop 1 = tailC ps w (i - 1) := by
      unfold tailC
      rw [show i - 1 + 1 = i by omega]
    have htl : (tailC ps w (i - 1)).length ≤ 100 := by rw [← ht, List.length_drop]; omega
    have e4 : (((legAll (cellOf ps (w.getD (i - 1) [])) (cellOf ps (w.getD i []))).drop (Int.toNat 1)).take (((legAll (cellOf ps (w.getD (i - 1) [])) (cellOf ps (w.getD i []))).length : Int).toNat - Int.toNat 1)) = tailC ps w (i - 1) := by
      rw [show (Int.toNat 1) = 1 from rfl, ht]
      exact List.take_of_length_le (by rw [← ht, List.length_drop]; omega)
    rw [List.length_map, hw1, e1, e2, i0, i1, hp _ hlt1, hp _ hlt, hc, hc, cell_small hb (hall _ m0), cell_small hb (hall _ m1), decide_eq_true (by omega : (i : Int) < (w.length : Int)), e4, decide_eq_true (by omega : (1 : Int) ≤ ((legAll (cellOf ps (w.getD (i - 1) [])) (cellOf ps (w.getD i []))).length : Int)), decide_eq_true (Int.le_refl ((legAll (cellOf ps (w.getD (i - 1) [])) (cellOf ps (w.getD i []))).length : Int))]
    have h8 := ih (i + 1) (by omega) (by omega) (by
      rw [show i + 1 - 1 = (i - 1) + 1 by omega, cellsAll_succ, List.length_append]; omega)
    rw [show i + 1 - 1 = (i - 1) + 1 by omega, cellsAll_succ] at h8
    have := li_impl_PlanCells (w.map (ptOf ps)) i (by omega) (tailC ps w (i - 1)) htl (cellsAll ps w (i - 1)) (by omega) _ h8 _ 0 (Nat.zero_add _)
    rw [List.take_zero, List.append_nil] at this
    exact Sat.cut this
theorem c_impl_PlanCells (ks : List Kind) (ps : List Point) (w : List Str) (hg : decide (ps.length < 1000000000) = true) : CallOK Tryz.prog CP g_impl_PlanCells [.agg [.sl .kind ks, .sl .point ps], .sl .str w] [] (cellsV (cellsF ks ps w)) [] := by
  refine CallOK.of R_impl_PlanCells_ok (by kernel_rfl) (t_impl_PlanCells ks ps w) ?_
  have no : cellsF ks ps w = none → Sat R_impl_PlanCells g_impl_PlanCells (cellsV (cellsF ks ps w)) [] (some (.ret (.tup [.sl .cell [], .bool false]) [])) := fun h => by
    rw [h]; exact Sat.ret rfl rfl
  rw [hg]
  cases hb : baseOk ks ps with
  | false => exact no (by rw [cellsF, hb]; simp)
  | true =>
    cases hr : routeOk ps w with
    | false => exact no (by rw [cellsF, hr]; simp)
    | true =>
      obtain ⟨hw2, hw8, hall⟩ := routeOk_inv hr
      have hrp : routeP ps w = w.map (ptOf ps) := by rw [routeP, if_pos hr]
      have i0 : inb (0 : Int) w.length = true := by simp only [inb, Bool.and_eq_true, decide_eq_true_eq]; omega
      have hlt : 0 < w.length := by omega
      have hp : (w.map (ptOf ps)).getD (Int.toNat 0) (R_impl_PlanCells.C.dflt Ty.point) = ptOf ps (w.getD 0 []) := by
        show (w.map (ptOf ps)).getD 0 _ = _
        simp [hlt]
      have := l_impl_PlanCells ks ps w hb hr (w.length - 1) 1 (by omega) (Nat.le_refl _) (by simp [cellsAll])
      rw [hrp, List.length_map, i0, hp]
      exact Sat.cut this
theorem E_impl_PlanCells_ok : EntOK Tryz.prog CP g_impl_PlanCells E_impl_PlanCells := by
  refine ⟨⟨Tryz.f36, by kernel_rfl, by kernel_rfl, by kernel_rfl⟩, fun args H res H' h => ?_⟩
  simp only [E_impl_PlanCells, E_spec_PlanCells] at h
  split at h
  · simp only [Option.some.injEq, Prod.mk.injEq] at h
    obtain ⟨hg, rfl, rfl⟩ := h
    exact c_impl_PlanCells _ _ _ hg
  · cases h
end Lx
/- Meanings: paths. -/
set_option linter.unusedVariables false
set_option linter.unusedSimpArgs false
namespace Lx
open Go Go.Proofs
def lvl (f : Flight) (n : Nat) (k : Nat) : Int := (levelsF n f.level).getD k 0
def stepAt (f : Flight) (cs : List Cell) (k : Nat) : Stp :=
  ⟨(cs.getD k ⟨0, 0⟩).x, (cs.getD k ⟨0, 0⟩).y, min (lvl f cs.length (k - 1)) (lvl f cs.length k), max (lvl f cs.length (k - 1)) (lvl f cs.length k), f.frm + k * f.kind.quick, f.by_ + k * f.kind.slow⟩
theorem levels_len {n : Nat} {l : Int} (h1 : 1 ≤ n) (h40 : n ≤ 40) (h : inR l 1 6 = true) : (levelsF n l).length = n := by
  have hn : inR (n : Int) 1 40 = true := by simp only [inR, Bool.and_eq_true, decide_eq_true_eq]; omega
  unfold levelsF
  rw [if_pos ⟨hn, h⟩]
  simp
theorem numF_of {a : Str} (h : decB a = true) : 0 ≤ numF a := of_decide_eq_true h
theorem fl_ok {ks : List Kind} {ps : List Point} {es : List Entry} {n : Str} {f : Flight} (h : stB ks ps es n = some f) : 0 ≤ f.frm ∧ f.frm ≤ f.by_ ∧ f.by_ ≤ 10000 ∧ 1 ≤ f.kind.quick ∧ f.kind.quick ≤ f.kind.slow ∧ f.kind.slow ≤ 50 ∧ inR f.level 1 6 = true := by
  unfold stB at h
  split at h
  · rename_i hc
    obtain ⟨hb, h0⟩ := hc
    obtain ⟨hbase, _, hall⟩ := book_ents hb
    have hok := hall _ (ent_mem h0)
    generalize es.getD (entIx es n).toNat (dfltP .entry) = e at *
    unfold stE at h
    split at h
    · cases h
    · rename_i hv
      split at h
      · cases h
      · simp only [Option.some.injEq] at h
        subst h
        have h1 := val_fits hok (w := 1) (fun e => hv (.inl e))
        have h2 := val_fits hok (w := 2) (fun e => hv (.inr (.inl e)))
        have h3 := val_fits hok (w := 3) (fun e => hv (.inr (.inr (.inl e))))
        have ht := fits2 h2
        have hk := fits1 h1
        have hlev : inR (numF (valF e.fields 3)) 1 6 = true := by simpa [fitsV] using h3
        have hin := kind_in hk
        simp only [inb, Bool.and_eq_true, decide_eq_true_eq] at hin
        have hlt : (kindIx ks (valF e.fields 1)).toNat < ks.length := by omega
        have hm : ks.getD (kindIx ks (valF e.fields 1)).toNat (dfltP .kind) ∈ ks := by
          rw [List.getD_eq_getElem?_getD, List.getElem?_eq_getElem hlt]; exact List.getElem_mem hlt
        simp only [baseOk, Bool.and_eq_true] at hbase
        have hko := kinds_ok hbase.2.2.1 _ hm
        simp only [Kind.ok, Bool.and_eq_true, decide_eq_true_eq] at hko
        have htm : 0 ≤ numF ((cutS 32 (valF e.fields 2)).getD 0 []) ∧ numF ((cutS 32 (valF e.fields 2)).getD 0 []) ≤ numF ((cutS 32 (valF e.fields 2)).getD 1 []) ∧ numF ((cutS 32 (valF e.fields 2)).getD 1 []) ≤ 10000 := by
          match hw : cutS 32 (valF e.fields 2), ht with
          | [a, b], ht =>
            simp only [timeOk, inR, Bool.and_eq_true, decide_eq_true_eq] at ht
            exact ⟨ht.1, ht.2.1, ht.2.2⟩
        exact ⟨htm.1, htm.2.1, htm.2.2, hko.2.1, hko.2.2.1, hko.2.2.2, hlev⟩
  · cases h
structure PathR where
  steps : List Stp
  frm : Int
  by_ : Int
  code : Int
def pathF (ks : List Kind) (ps : List Point) (es : List Entry) (n : Str) : PathR :=
  if bookOk ks ps es = true then match stB ks ps es n with
    | none => ⟨[], 0, 0, 2⟩
    | some f => match cellsF ks ps f.route with
      | none => ⟨[], 0, 0, 3⟩
      | some cs => if f.by_ + cs.length * f.kind.slow > 10000 then ⟨[], 0, 0, 4⟩ else ⟨(List.range cs.length).map (stepAt f cs), f.frm + cs.length * f.kind.quick, f.by_ + cs.length * f.kind.slow, 0⟩
  else ⟨[], 0, 0, 1⟩
def pathV (r : PathR) : V := .tup [.agg [.sl .step r.steps, .int .i64 r.frm, .int .i64 r.by_], .int .i64 r.code]
def E_spec_PlanPathOf : Ent Ty El := ⟨[.ro, .ro], 0, fun a h => match a, h with
  | [.agg [.sl .kind ks, .sl .point ps, .sl .entry es], .str n], [] => some (szB es && decide (es.length < 1000000000), pathV (pathF ks ps es n), [])
  | _, _ => none⟩
def E_impl_PlanPathOf : Ent Ty El := E_spec_PlanPathOf
end Lx
/- Paths. -/
set_option linter.unusedVariables false
set_option linter.unusedSimpArgs false
set_option maxRecDepth 4000
namespace Lx
open Go Go.Proofs
/-- spec.PlanPathOf -/
noncomputable def R_spec_PlanPathOf : RE Ty El := ⟨Tryz.prog, CP, [(g_spec_PlanBookOk, E_spec_PlanBookOk), (g_spec_PlanStands, E_spec_PlanStands), (g_spec_PlanCells, E_spec_PlanCells), (g_spec_PlanLevels, E_spec_PlanLevels), (g_spec_l17Min, E_spec_l17Min), (g_spec_l17Max, E_spec_l17Max)], Tryz.f18, 0, [.agg [.ro .step, .any, .any], .any], [(15, [(4, .box [.own .step]), (6, .box [.own .step]), (8, .box [.own .step]), (10, .box [.own .step]), (11, .box [.own .step]), (12, .box [.own .step]), (13, .box [.own .step])])]⟩
theorem R_spec_PlanPathOf_ok : REOK R_spec_PlanPathOf g_spec_PlanPathOf := ⟨CP_ok, (TabOK.cons E_spec_PlanBookOk_ok (TabOK.cons E_spec_PlanStands_ok (TabOK.cons E_spec_PlanCells_ok (TabOK.cons E_spec_PlanLevels_ok (TabOK.cons E_spec_l17Min_ok (TabOK.cons E_spec_l17Max_ok EOKnil)))))), by kernel_rfl, by kernel_rfl⟩
theorem t_spec_PlanPathOf (ks : List Kind) (ps : List Point) (es : List Entry) (n : Str) : aRun R_spec_PlanPathOf 600 false (body0 R_spec_PlanPathOf.fn) (initSt R_spec_PlanPathOf.fn [.agg [.sl .kind ks, .sl .point ps, .sl .entry es], .str n] []) =
  ifb (szB es) (ifb (!bookOk ks ps es) (some (.ret (.tup [.agg [.sl .step [], .int .i64 (0 : Int), .int .i64 (0 : Int)], .int .i64 (1 : Int)]) [])) (ifb (szB es && decide (es.length < (1000000000 : Nat))) (ifb (!(stB ks ps es n).isSome) (some (.ret (.tup [.agg [.sl .step [], .int .i64 (0 : Int), .int .i64 (0 : Int)], .int .i64 (2 : Int)]) [])) (ifb (decide (ps.length < (1000000000 : Nat))) (ifb (!(cellsF ks ps ((stB ks ps es n).getD fl0).route).isSome) (some (.ret (.tup [.agg [.sl .step [], .int .i64 (0 : Int), .int .i64 (0 : Int)], .int .i64 (3 : Int)]) [])) (ifb (decide (IntKind.i64.wrap (((stB ks ps es n).getD fl0).by_ + IntKind.i64.wrap ((↑((cellsF ks ps ((stB ks ps es n).getD fl0).route).getD []).length : Int) * ((stB ks ps es n).getD fl0).kind.slow)) > (10000 : Int))) (some (.ret (.tup [.agg [.sl .step [], .int .i64 (0 : Int), .int .i64 (0 : Int)], .int .i64 (4 : Int)]) [])) (some (.go (todoAt R_spec_PlanPathOf.fn 15) [.ptr 0 0, .ptr 2 0, .sl .cell ((cellsF ks ps ((stB ks ps es n).getD fl0).route).getD []), .int .i64 ((↑((cellsF ks ps ((stB ks ps es n).getD fl0).route).getD []).length : Int)), .sl .int (levelsF (↑((cellsF ks ps ((stB ks ps es n).getD fl0).route).getD []).length : Int) ((stB ks ps es n).getD fl0).level), .ptr 3 0, .int .i64 (0 : Int)] [.box [.own 1 [] 0, .int .i64 (0 : Int), .int .i64 (0 : Int)], .row .step [] 0 0 0 .no, .box [.str (((stB ks ps es n).getD fl0).name), .str (((stB ks ps es n).getD fl0).kind.name), .int .i64 (((stB ks ps es n).getD fl0).kind.quick), .int .i64 (((stB ks ps es n).getD fl0).kind.slow), .int .i64 (((stB ks ps es n).getD fl0).frm), .int .i64 (((stB ks ps es n).getD fl0).by_), .int .i64 (((stB ks ps es n).getD fl0).level), .sl .str (((stB ks ps es n).getD fl0).route)], .box [.own 4 [] 0, .int .i64 (IntKind.i64.wrap (((stB ks ps es n).getD fl0).frm + IntKind.i64.wrap ((↑((cellsF ks ps ((stB ks ps es n).getD fl0).route).getD []).length : Int) * ((stB ks ps es n).getD fl0).kind.quick))), .int .i64 (IntKind.i64.wrap (((stB ks ps es n).getD fl0).by_ + IntKind.i64.wrap ((↑((cellsF ks ps ((stB ks ps es n).getD fl0).route).getD []).length : Int) * ((stB ks ps es n).getD fl0).kind.slow)))], .row .step [] 0 0 0 .no])))) (none))) (none))) (none) := by kernel_rfl
theorem t_spec_PlanPathOf_15 (x0 : List (El .cell)) (x1 : Int) (x2 : List (El .int)) (x3 : Int) (x4 : Int) (x5 : Int) (x6 : List (El .step)) (x7 : Str) (x8 : Str) (x9 : Int) (x10 : Int) (x11 : Int) (x12 : Int) (x13 : Int) (x14 : List (El .str)) (x15 : Int) (x16 : Int) (x17 : List (El .step)) : aRun R_spec_PlanPathOf 600 true (todoAt R_spec_PlanPathOf.fn 15) (cutSt R_spec_PlanPathOf.fn (liveOf R_spec_PlanPathOf (todoAt R_spec_PlanPathOf.fn 15)) [.ptr 0 0, .ptr 2 0, .sl .cell x0, .int .i64 x1, .sl .int x2, .ptr 3 0, .int .i64 x3] [.box [.own 1 [] 0, .int .i64 x4, .int .i64 x5], .row .step x6 0 0 0 .no, .box [.str x7, .str x8, .int .i64 x9, .int .i64 x10, .int .i64 x11, .int .i64 x12, .int .i64 x13, .sl .str x14], .box [.own 4 [] 0, .int .i64 x15, .int .i64 x16], .row .step x17 0 0 0 .no]) =
  ifb (decide (x3 < x1)) (ifb (inb x3 x0.length) (ifb (inb x3 x0.length) (ifb (inb x3 x2.length) (ifb (inb x3 x2.length) (ifb (decide (x3 > (0 : Int))) (ifb (inb (IntKind.i64.wrap (x3 - (1 : Int))) x2.length) (ifb (inb x3 x2.length) (ifb (inb (IntKind.i64.wrap (x3 - (1 : Int))) x2.length) (ifb (inb x3 x2.length) (ifb (decide ((x17.length + [Stp.mk (x0.getD x3.toNat (R_spec_PlanPathOf.C.dflt Ty.cell)).x (x0.getD x3.toNat (R_spec_PlanPathOf.C.dflt Ty.cell)).y (min (x2.getD (IntKind.i64.wrap (x3 - (1 : Int))).toNat (R_spec_PlanPathOf.C.dflt Ty.int)) (x2.getD x3.toNat (R_spec_PlanPathOf.C.dflt Ty.int))) (max (x2.getD (IntKind.i64.wrap (x3 - (1 : Int))).toNat (R_spec_PlanPathOf.C.dflt Ty.int)) (x2.getD x3.toNat (R_spec_PlanPathOf.C.dflt Ty.int))) (IntKind.i64.wrap (x11 + IntKind.i64.wrap (x3 * x9))) (IntKind.i64.wrap (x12 + IntKind.i64.wrap (x3 * x10)))].length) * bytesOf' R_spec_PlanPathOf.P (47 : Nat) ≤ (140737488355328 : Nat))) (some (.go (todoAt R_spec_PlanPathOf.fn 15) [.ptr 0 0, .ptr 2 0, .sl .cell x0, .int .i64 x1, .sl .int x2, .ptr 3 0, .int .i64 (IntKind.i64.wrap (x3 + (1 : Int)))] [.box [.own 1 [] 0, .int .i64 x4, .int .i64 x5], .row .step x6 0 0 0 .no, .box [.str x7, .str x8, .int .i64 x9, .int .i64 x10, .int .i64 x11, .int .i64 x12, .int .i64 x13, .sl .str x14], .box [.own 4 [] 0, .int .i64 x15, .int .i64 x16], .row .step (x17 ++ [Stp.mk (x0.getD x3.toNat (R_spec_PlanPathOf.C.dflt Ty.cell)).x (x0.getD x3.toNat (R_spec_PlanPathOf.C.dflt Ty.cell)).y (min (x2.getD (IntKind.i64.wrap (x3 - (1 : Int))).toNat (R_spec_PlanPathOf.C.dflt Ty.int)) (x2.getD x3.toNat (R_spec_PlanPathOf.C.dflt Ty.int))) (max (x2.getD (IntKind.i64.wrap (x3 - (1 : Int))).toNat (R_spec_PlanPathOf.C.dflt Ty.int)) (x2.getD x3.toNat (R_spec_PlanPathOf.C.dflt Ty.int))) (IntKind.i64.wrap (x11 + IntKind.i64.wrap (x3 * x9))) (IntKind.i64.wrap (x12 + IntKind.i64.wrap (x3 * x10)))]) 0 0 0 .no])) (none)) (none)) (none)) (none)) (none)) (ifb (decide ((x17.length + [Stp.mk (x0.getD x3.toNat (R_spec_PlanPathOf.C.dflt Ty.cell)).x (x0.getD x3.toNat (R_spec_PlanPathOf.C.dflt Ty.cell)).y (x2.getD x3.toNat (R_spec_PlanPathOf.C.dflt Ty.int)) (x2.getD x3.toNat (R_spec_PlanPathOf.C.dflt Ty.int)) (IntKind.i64.wrap (x11 + IntKind.i64.wrap (x3 * x9))) (IntKind.i64.wrap (x12 + IntKind.i64.wrap (x3 * x10)))].length) * bytesOf' R_spec_PlanPathOf.P (47 : Nat) ≤ (140737488355328 : Nat))) (some (.go (todoAt R_spec_PlanPathOf.fn 15) [.ptr 0 0, .ptr 2 0, .sl .cell x0, .int .i64 x1, .sl .int x2, .ptr 3 0, .int .i64 (IntKind.i64.wrap (x3 + (1 : Int)))] [.box [.own 1 [] 0, .int .i64 x4, .int .i64 x5], .row .step x6 0 0 0 .no, .box [.str x7, .str x8, .int .i64 x9, .int .i64 x10, .int .i64 x11, .int .i64 x12, .int .i64 x13, .sl .str x14], .box [.own 4 [] 0, .int .i64 x15, .int .i64 x16], .row .step (x17 ++ [Stp.mk (x0.getD x3.toNat (R_spec_PlanPathOf.C.dflt Ty.cell)).x (x0.getD x3.toNat (R_spec_PlanPathOf.C.dflt Ty.cell)).y (x2.getD x3.toNat (R_spec_PlanPathOf.C.dflt Ty.int)) (x2.getD x3.toNat (R_spec_PlanPathOf.C.dflt Ty.int)) (IntKind.i64.wrap (x11 + IntKind.i64.wrap (x3 * x9))) (IntKind.i64.wrap (x12 + IntKind.i64.wrap (x3 * x10)))]) 0 0 0 .no])) (none))) (none)) (none)) (none)) (none)) (some (.ret (.tup [.agg [.sl .step x17, .int .i64 x15, .int .i64 x16], .int .i64 (0 : Int)]) [])) := by kernel_rfl
theorem l_spec_PlanPathOf (f : Flight) (cs : List Cell) (F B : Int) (h40 : cs.length ≤ 40) (h0 : 0 ≤ f.frm) (h1 : f.frm ≤ f.by_) (h2 : f.by_ ≤ 10000) (h3 : 1 ≤ f.kind.quick) (h4 : f.kind.quick ≤ f.kind.slow) (h5 : f.kind.slow ≤ 50) (h6 : inR f.level 1 6 = true) : ∀ (d k : Nat), k + d = cs.length →
    Cut R_spec_PlanPathOf g_spec_PlanPathOf 15 [.ptr 0 0, .ptr 2 0, .sl .cell cs, .int .i64 (cs.length : Int), .sl .int (levelsF cs.length f.level), .ptr 3 0, .int .i64 (k : Int)] [.box [.own 1 [] 0, .int .i64 0, .int .i64 0], .row .step [] 0 0 0 .no, .box [.str f.name, .str f.kind.name, .int .i64 f.kind.quick, .int .i64 f.kind.slow, .int .i64 f.frm, .int .i64 f.by_, .int .i64 f.level, .sl .str f.route], .box [.own 4 [] 0, .int .i64 F, .int .i64 B], .row .step ((List.range k).map (stepAt f cs)) 0 0 0 .no] (.tup [.agg [.sl .step ((List.range cs.length).map (stepAt f cs)), .int .i64 F, .int .i64 B], .int .i64 0]) [] := by
  have hbs : bytesOf' R_spec_PlanPathOf.P 47 = 48 := by kernel_rfl
  intro d
  induction d with
  | zero =>
    intro k hk
    refine Cut.of R_spec_PlanPathOf_ok rfl (t_spec_PlanPathOf_15 cs cs.length _ k 0 0 [] f.name f.kind.name f.kind.quick f.kind.slow f.frm f.by_ f.level f.route F B _) ?_
    rw [decide_eq_false (by omega), ifb_false]
    refine Sat.ret ?_ rfl
    rw [show k = cs.length by omega]
  | succ d ih =>
    intro k hk
    refine Cut.of R_spec_PlanPathOf_ok rfl (t_spec_PlanPathOf_15 cs cs.length _ k 0 0 [] f.name f.kind.name f.kind.quick f.kind.slow f.frm f.by_ f.level f.route F B _) ?_
    have hlt : k < cs.length := by omega
    have hL : (levelsF cs.length f.level).length = cs.length := levels_len (by omega) h40 h6
    have hw : IntKind.wrap .i64 ((k : Int) + 1) = ((k + 1 : Nat) : Int) := by rw [wrap_ok] <;> omega
    have hw1 : IntKind.wrap .i64 ((k : Int) - 1) = (k : Int) - 1 := by rw [wrap_ok] <;> omega
    have hx : cs.getD (k : Int).toNat (R_spec_PlanPathOf.C.dflt .cell) = cs.getD k ⟨0, 0⟩ := by simp [hlt]
    have hdi : R_spec_PlanPathOf.C.dflt Ty.int = (0 : Int) := rfl
    have ek : (k : Int).toNat = k := by omega
    have i1 : inb (k : Int) cs.length = true := by simp only [inb, Bool.and_eq_true, decide_eq_true_eq]; omega
    have pq : (k : Int) * f.kind.quick ≤ 40 * 50 ∧ 0 ≤ (k : Int) * f.kind.quick := ⟨Int.mul_le_mul (by omega) (by omega) (by omega) (by omega), Int.mul_nonneg (by omega) (by omega)⟩
    have ps : (k : Int) * f.kind.slow ≤ 40 * 50 ∧ 0 ≤ (k : Int) * f.kind.slow := ⟨Int.mul_le_mul (by omega) (by omega) (by omega) (by omega), Int.mul_nonneg (by omega) (by omega)⟩
    have w1 : IntKind.wrap .i64 ((k : Int) * f.kind.quick) = (k : Int) * f.kind.quick := wrap_ok (by omega) (by omega)
    have w2 : IntKind.wrap .i64 ((k : Int) * f.kind.slow) = (k : Int) * f.kind.slow := wrap_ok (by omega) (by omega)
    have w3 : IntKind.wrap .i64 (f.frm + (k : Int) * f.kind.quick) = f.frm + (k : Int) * f.kind.quick := wrap_ok (by omega) (by omega)
    have w4 : IntKind.wrap .i64 (f.by_ + (k : Int) * f.kind.slow) = f.by_ + (k : Int) * f.kind.slow := wrap_ok (by omega) (by omega)
    have hroom : ∀ z : Stp, decide ((((List.range k).map (stepAt f cs)).length + [z].length) * 48 ≤ 140737488355328) = true := fun z => decide_eq_true (by simp; omega)
    have nxt := ih (k + 1) (by omega)
    rw [List.range_succ, List.map_append, List.map_cons, List.map_nil] at nxt
    rw [hx, hdi, ek, hw, hw1, hL, i1, w1, w2, w3, w4, hbs, decide_eq_true (by omega : (k : Int) < (cs.length : Int))]
    simp only [ifb_true, hroom]
    by_cases hk0 : (k : Int) > 0
    · have i2 : inb ((k : Int) - 1) cs.length = true := by simp only [inb, Bool.and_eq_true, decide_eq_true_eq]; omega
      rw [decide_eq_true hk0, i2, show ((k : Int) - 1).toNat = k - 1 by omega]
      exact Sat.cut nxt
    · rw [decide_eq_false hk0]
      have : k = 0 := by omega
      subst this
      have e : stepAt f cs 0 = ⟨(cs.getD 0 ⟨0, 0⟩).x, (cs.getD 0 ⟨0, 0⟩).y, lvl f cs.length 0, lvl f cs.length 0, f.frm + (0 : Nat) * f.kind.quick, f.by_ + (0 : Nat) * f.kind.slow⟩ := by simp [stepAt]
      rw [e] at nxt
      exact Sat.cut nxt
theorem c_spec_PlanPathOf (ks : List Kind) (ps : List Point) (es : List Entry) (n : Str) (hg : (szB es && decide (es.length < 1000000000)) = true) : CallOK Tryz.prog CP g_spec_PlanPathOf [.agg [.sl .kind ks, .sl .point ps, .sl .entry es], .str n] [] (pathV (pathF ks ps es n)) [] := by
  refine CallOK.of R_spec_PlanPathOf_ok (by kernel_rfl) (t_spec_PlanPathOf ks ps es n) ?_
  have hg2 := hg
  simp only [Bool.and_eq_true, decide_eq_true_eq] at hg
  have hz := hg.1
  have no : ∀ c : Int, pathF ks ps es n = ⟨[], 0, 0, c⟩ → Sat R_spec_PlanPathOf g_spec_PlanPathOf (pathV (pathF ks ps es n)) [] (some (.ret (.tup [.agg [.sl .step [], .int .i64 (0 : Int), .int .i64 (0 : Int)], .int .i64 c]) [])) := fun c h => by
    rw [h]; exact Sat.ret rfl rfl
  rw [hg2, hz]
  cases hb : bookOk ks ps es with
  | false => exact no 1 (by simp [pathF, hb])
  | true =>
    cases hst : stB ks ps es n with
    | none => exact no 2 (by simp [pathF, hb, hst])
    | some f =>
      obtain ⟨h0, h1, h2, h3, h4, h5, h6⟩ := fl_ok hst
      have hp16 := (baseOk_len (book_ents hb).1).2
      simp only [Option.getD_some, Option.isSome_some]
      rw [decide_eq_true (by omega : ps.length < 1000000000)]
      have hcase : cellsF ks ps f.route = none ∨ ∃ cs, cellsF ks ps f.route = some cs := by cases cellsF ks ps f.route <;> simp
      rcases hcase with hc | ⟨cs, hc⟩
      · simp only [hc, Option.isSome_none]
        exact no 3 (by simp [pathF, hb, hst, hc])
      · simp only [hc]
        have h40 : cs.length ≤ 40 := by
          unfold cellsF at hc
          split at hc
          · rename_i hx
            simp only [Option.some.injEq] at hc
            subst hc; exact hx.2.2
          · cases hc
        simp only [Option.getD_some, Option.isSome_some]
        have pq : (cs.length : Int) * f.kind.quick ≤ 40 * 50 ∧ 0 ≤ (cs.length : Int) * f.kind.quick := ⟨Int.mul_le_mul (by omega) (by omega) (by omega) (by omega), Int.mul_nonneg (by omega) (by omega)⟩
        have ps2 : (cs.length : Int) * f.kind.slow ≤ 40 * 50 ∧ 0 ≤ (cs.length : Int) * f.kind.slow := ⟨Int.mul_le_mul (by omega) (by omega) (by omega) (by omega), Int.mul_nonneg (by omega) (by omega)⟩
        have w1 : IntKind.wrap .i64 ((cs.length : Int) * f.kind.quick) = (cs.length : Int) * f.kind.quick := wrap_ok (by omega) (by omega)
        have w2 : IntKind.wrap .i64 ((cs.length : Int) * f.kind.slow) = (cs.length : Int) * f.kind.slow := wrap_ok (by omega) (by omega)
        have w3 : IntKind.wrap .i64 (f.frm + (cs.length : Int) * f.kind.quick) = f.frm + (cs.length : Int) * f.kind.quick := wrap_ok (by omega) (by omega)
        have w4 : IntKind.wrap .i64 (f.by_ + (cs.length : Int) * f.kind.slow) = f.by_ + (cs.length : Int) * f.kind.slow := wrap_ok (by omega) (by omega)
        simp only [w1, w2, w3, w4]
        by_cases hl : f.by_ + (cs.length : Int) * f.kind.slow > 10000
        · rw [decide_eq_true hl]
          exact no 4 (by simp only [pathF, hb, hst, hc, if_true]; rw [if_pos hl])
        · rw [decide_eq_false hl]
          rw [show pathF ks ps es n = ⟨(List.range cs.length).map (stepAt f cs), f.frm + cs.length * f.kind.quick, f.by_ + cs.length * f.kind.slow, 0⟩ by simp only [pathF, hb, hst, hc, if_true]; rw [if_neg hl]]
          exact Sat.cut (l_spec_PlanPathOf f cs _ _ h40 h0 h1 h2 h3 h4 h5 h6 cs.length 0 (Nat.zero_add _))
theorem E_spec_PlanPathOf_ok : EntOK Tryz.prog CP g_spec_PlanPathOf E_spec_PlanPathOf := by
  refine ⟨⟨Tryz.f18, by kernel_rfl, by kernel_rfl, by kernel_rfl⟩, fun args H res H' h => ?_⟩
  simp only [E_spec_PlanPathOf] at h
  split at h
  · simp only [Option.some.injEq, Prod.mk.injEq] at h
    obtain ⟨hg, rfl, rfl⟩ := h
    exact c_spec_PlanPathOf _ _ _ _ hg
  · cases h
end Lx
/- Paths, as the program makes them. -/
set_option linter.unusedVariables false
set_option linter.unusedSimpArgs false
set_option maxRecDepth 4000
namespace Lx
open Go Go.Proofs
/-- impl.PlanPathOf -/
noncomputable def R_impl_PlanPathOf : RE Ty El := ⟨Tryz.prog, CP, [(g_impl_PlanBookOk, E_impl_PlanBookOk), (g_impl_PlanBook_stands, E_impl_PlanBook_stands), (g_impl_PlanCells, E_impl_PlanCells), (g_impl_PlanLevels, E_impl_PlanLevels)], Tryz.f17, 0, [.agg [.ro .step, .any, .any], .any], [(15, [(4, .box [.own .step]), (6, .box [.own .step]), (11, .box [.own .step]), (12, .box [.own .step]), (67, .box [.own .step]), (68, .box [.own .step]), (69, .box [.own .step])])]⟩
theorem R_impl_PlanPathOf_ok : REOK R_impl_PlanPathOf g_impl_PlanPathOf := ⟨CP_ok, (TabOK.cons E_impl_PlanBookOk_ok (TabOK.cons E_impl_PlanBook_stands_ok (TabOK.cons E_impl_PlanCells_ok (TabOK.cons E_impl_PlanLevels_ok EOKnil)))), by kernel_rfl, by kernel_rfl⟩
theorem t_impl_PlanPathOf (ks : List Kind) (ps : List Point) (es : List Entry) (n : Str) : aRun R_impl_PlanPathOf 600 false (body0 R_impl_PlanPathOf.fn) (initSt R_impl_PlanPathOf.fn [.agg [.sl .kind ks, .sl .point ps, .sl .entry es], .str n] []) =
  ifb (szB es) (ifb (!bookOk ks ps es) (some (.ret (.tup [.agg [.sl .step [], .int .i64 (0 : Int), .int .i64 (0 : Int)], .int .i64 (1 : Int)]) [])) (ifb (szB es && bookOk ks ps es) (ifb (!(stB ks ps es n).isSome) (some (.ret (.tup [.agg [.sl .step [], .int .i64 (0 : Int), .int .i64 (0 : Int)], .int .i64 (2 : Int)]) [])) (ifb (decide (ps.length < (1000000000 : Nat))) (ifb (!(cellsF ks ps ((stB ks ps es n).getD fl0).route).isSome) (some (.ret (.tup [.agg [.sl .step [], .int .i64 (0 : Int), .int .i64 (0 : Int)], .int .i64 (3 : Int)]) [])) (ifb (decide (IntKind.i64.wrap (((stB ks ps es n).getD fl0).by_ + IntKind.i64.wrap ((↑((cellsF ks ps ((stB ks ps es n).getD fl0).route).getD []).length : Int) * ((stB ks ps es n).getD fl0).kind.slow)) > (10000 : Int))) (some (.ret (.tup [.agg [.sl .step [], .int .i64 (0 : Int), .int .i64 (0 : Int)], .int .i64 (4 : Int)]) [])) (some (.go (todoAt R_impl_PlanPathOf.fn 15) [.ptr 0 0, .ptr 2 0, .ptr 3 0, .sl .int (levelsF (↑((cellsF ks ps ((stB ks ps es n).getD fl0).route).getD []).length : Int) ((stB ks ps es n).getD fl0).level), .sl .cell ((cellsF ks ps ((stB ks ps es n).getD fl0).route).getD []), .int .i64 ((↑((cellsF ks ps ((stB ks ps es n).getD fl0).route).getD []).length : Int)), .int .i64 (0 : Int)] [.box [.own 1 [] 0, .int .i64 (0 : Int), .int .i64 (0 : Int)], .row .step [] 0 0 0 .no, .box [.str (((stB ks ps es n).getD fl0).name), .str (((stB ks ps es n).getD fl0).kind.name), .int .i64 (((stB ks ps es n).getD fl0).kind.quick), .int .i64 (((stB ks ps es n).getD fl0).kind.slow), .int .i64 (((stB ks ps es n).getD fl0).frm), .int .i64 (((stB ks ps es n).getD fl0).by_), .int .i64 (((stB ks ps es n).getD fl0).level), .sl .str (((stB ks ps es n).getD fl0).route)], .box [.own 4 [] 0, .int .i64 (IntKind.i64.wrap (((stB ks ps es n).getD fl0).frm + IntKind.i64.wrap ((↑((cellsF ks ps ((stB ks ps es n).getD fl0).route).getD []).length : Int) * ((stB ks ps es n).getD fl0).kind.quick))), .int .i64 (IntKind.i64.wrap (((stB ks ps es n).getD fl0).by_ + IntKind.i64.wrap ((↑((cellsF ks ps ((stB ks ps es n).getD fl0).route).getD []).length : Int) * ((stB ks ps es n).getD fl0).kind.slow)))], .row .step [] 0 0 0 .no])))) (none))) (none))) (none) := by kernel_rfl
theorem t_impl_PlanPathOf_15 (x0 : List (El .int)) (x1 : List (El .cell)) (x2 : Int) (x3 : Int) (x4 : Int) (x5 : Int) (x6 : List (El .step)) (x7 : Str) (x8 : Str) (x9 : Int) (x10 : Int) (x11 : Int) (x12 : Int) (x13 : Int) (x14 : List (El .str)) (x15 : Int) (x16 : Int) (x17 : List (El .step)) : aRun R_impl_PlanPathOf 600 true (todoAt R_impl_PlanPathOf.fn 15) (cutSt R_impl_PlanPathOf.fn (liveOf R_impl_PlanPathOf (todoAt R_impl_PlanPathOf.fn 15)) [.ptr 0 0, .ptr 2 0, .ptr 3 0, .sl .int x0, .sl .cell x1, .int .i64 x2, .int .i64 x3] [.box [.own 1 [] 0, .int .i64 x4, .int .i64 x5], .row .step x6 0 0 0 .no, .box [.str x7, .str x8, .int .i64 x9, .int .i64 x10, .int .i64 x11, .int .i64 x12, .int .i64 x13, .sl .str x14], .box [.own 4 [] 0, .int .i64 x15, .int .i64 x16], .row .step x17 0 0 0 .no]) =
  ifb (decide (x3 < x2)) (ifb (inb x3 x1.length) (ifb (inb (max2A (IntKind.i64.wrap (x3 - (1 : Int))) (0 : Int)) x0.length) (ifb (inb x3 x0.length) (ifb (inb x3 x0.length) (ifb (decide ((x17.length + [Stp.mk (x1.getD x3.toNat (R_impl_PlanPathOf.C.dflt Ty.cell)).x (x1.getD x3.toNat (R_impl_PlanPathOf.C.dflt Ty.cell)).y (min2A (x0.getD (max2A (IntKind.i64.wrap (x3 - (1 : Int))) (0 : Int)).toNat (R_impl_PlanPathOf.C.dflt Ty.int)) (x0.getD x3.toNat (R_impl_PlanPathOf.C.dflt Ty.int))) (max2A (x0.getD (max2A (IntKind.i64.wrap (x3 - (1 : Int))) (0 : Int)).toNat (R_impl_PlanPathOf.C.dflt Ty.int)) (x0.getD x3.toNat (R_impl_PlanPathOf.C.dflt Ty.int))) (IntKind.i64.wrap (x11 + IntKind.i64.wrap (x3 * x9))) (IntKind.i64.wrap (x12 + IntKind.i64.wrap (x3 * x10)))].length) * bytesOf' R_impl_PlanPathOf.P (47 : Nat) ≤ (140737488355328 : Nat))) (some (.go (todoAt R_impl_PlanPathOf.fn 15) [.ptr 0 0, .ptr 2 0, .ptr 3 0, .sl .int x0, .sl .cell x1, .int .i64 x2, .int .i64 (IntKind.i64.wrap (x3 + (1 : Int)))] [.box [.own 1 [] 0, .int .i64 x4, .int .i64 x5], .row .step x6 0 0 0 .no, .box [.str x7, .str x8, .int .i64 x9, .int .i64 x10, .int .i64 x11, .int .i64 x12, .int .i64 x13, .sl .str x14], .box [.own 4 [] 0, .int .i64 x15, .int .i64 x16], .row .step (x17 ++ [Stp.mk (x1.getD x3.toNat (R_impl_PlanPathOf.C.dflt Ty.cell)).x (x1.getD x3.toNat (R_impl_PlanPathOf.C.dflt Ty.cell)).y (min2A (x0.getD (max2A (IntKind.i64.wrap (x3 - (1 : Int))) (0 : Int)).toNat (R_impl_PlanPathOf.C.dflt Ty.int)) (x0.getD x3.toNat (R_impl_PlanPathOf.C.dflt Ty.int))) (max2A (x0.getD (max2A (IntKind.i64.wrap (x3 - (1 : Int))) (0 : Int)).toNat (R_impl_PlanPathOf.C.dflt Ty.int)) (x0.getD x3.toNat (R_impl_PlanPathOf.C.dflt Ty.int))) (IntKind.i64.wrap (x11 + IntKind.i64.wrap (x3 * x9))) (IntKind.i64.wrap (x12 + IntKind.i64.wrap (x3 * x10)))]) 0 0 0 .no])) (none)) (none)) (none)) (none)) (none)) (some (.ret (.tup [.agg [.sl .step x17, .int .i64 x15, .int .i64 x16], .int .i64 (0 : Int)]) [])) := by kernel_rfl
theorem l_impl_PlanPathOf (f : Flight) (cs : List Cell) (F B : Int) (h40 : cs.length ≤ 40) (h0 : 0 ≤ f.frm) (h1 : f.frm ≤ f.by_) (h2 : f.by_ ≤ 10000) (h3 : 1 ≤ f.kind.quick) (h4 : f.kind.quick ≤ f.kind.slow) (h5 : f.kind.slow ≤ 50) (h6 : inR f.level 1 6 = true) : ∀ (d k : Nat), k + d = cs.length →
    Cut R_impl_PlanPathOf g_impl_PlanPathOf 15 [.ptr 0 0, .ptr 2 0, .ptr 3 0, .sl .int (levelsF cs.length f.level), .sl .cell cs, .int .i64 (cs.length : Int), .int .i64 (k : Int)] [.box [.own 1 [] 0, .int .i64 0, .int .i64 0], .row .step [] 0 0 0 .no, .box [.str f.name, .str f.kind.name, .int .i64 f.kind.quick, .int .i64 f.kind.slow, .int .i64 f.frm, .int .i64 f.by_, .int .i64 f.level, .sl .str f.route], .box [.own 4 [] 0, .int .i64 F, .int .i64 B], .row .step ((List.range k).map (stepAt f cs)) 0 0 0 .no] (.tup [.agg [.sl .step ((List.range cs.length).map (stepAt f cs)), .int .i64 F, .int .i64 B], .int .i64 0]) [] := by
  have hbs : bytesOf' R_impl_PlanPathOf.P 47 = 48 := by kernel_rfl
  intro d
  induction d with
  | zero =>
    intro k hk
    refine Cut.of R_impl_PlanPathOf_ok rfl (t_impl_PlanPathOf_15 _ cs cs.length k 0 0 [] f.name f.kind.name f.kind.quick f.kind.slow f.frm f.by_ f.level f.route F B _) ?_
    rw [decide_eq_false (by omega), ifb_false]
    refine Sat.ret ?_ rfl
    rw [show k = cs.length by omega]
  | succ d ih =>
    intro k hk
    refine Cut.of R_impl_PlanPathOf_ok rfl (t_impl_PlanPathOf_15 _ cs cs.length k 0 0 [] f.name f.kind.name f.kind.quick f.kind.slow f.frm f.by_ f.level f.route F B _) ?_
    have hlt : k < cs.length := by omega
    have hL : (levelsF cs.length f.level).length = cs.length := levels_len (by omega) h40 h6
    have hw : IntKind.wrap .i64 ((k : Int) + 1) = ((k + 1 : Nat) : Int) := by rw [wrap_ok] <;> omega
    have hw1 : IntKind.wrap .i64 ((k : Int) - 1) = (k : Int) - 1 := by rw [wrap_ok] <;> omega
    have hx : cs.getD (k : Int).toNat (R_impl_PlanPathOf.C.dflt .cell) = cs.getD k ⟨0, 0⟩ := by simp [hlt]
    have hdi : R_impl_PlanPathOf.C.dflt Ty.int = (0 : Int) := rfl
    have ek : (k : Int).toNat = k := by omega
    have i1 : inb (k : Int) cs.length = true := by simp only [inb, Bool.and_eq_true, decide_eq_true_eq]; omega
    have pq : (k : Int) * f.kind.quick ≤ 40 * 50 ∧ 0 ≤ (k : Int) * f.kind.quick := ⟨Int.mul_le_mul (by omega) (by omega) (by omega) (by omega), Int.mul_nonneg (by omega) (by omega)⟩
    have ps : (k : Int) * f.kind.slow ≤ 40 * 50 ∧ 0 ≤ (k : Int) * f.kind.slow := ⟨Int.mul_le_mul (by omega) (by omega) (by omega) (by omega), Int.mul_nonneg (by omega) (by omega)⟩
    have w1 : IntKind.wrap .i64 ((k : Int) * f.kind.quick) = (k : Int) * f.kind.quick := wrap_ok (by omega) (by omega)
    have w2 : IntKind.wrap .i64 ((k : Int) * f.kind.slow) = (k : Int) * f.kind.slow := wrap_ok (by omega) (by omega)
    have w3 : IntKind.wrap .i64 (f.frm + (k : Int) * f.kind.quick) = f.frm + (k : Int) * f.kind.quick := wrap_ok (by omega) (by omega)
    have w4 : IntKind.wrap .i64 (f.by_ + (k : Int) * f.kind.slow) = f.by_ + (k : Int) * f.kind.slow := wrap_ok (by omega) (by omega)
    have hroom : ∀ z : Stp, decide ((((List.range k).map (stepAt f cs)).length + [z].length) * 48 ≤ 140737488355328) = true := fun z => decide_eq_true (by simp; omega)
    have nxt := ih (k + 1) (by omega)
    rw [List.range_succ, List.map_append, List.map_cons, List.map_nil] at nxt
    have hm : max2A ((k : Int) - 1) 0 = ((k - 1 : Nat) : Int) := by unfold max2A; split <;> omega
    have i2 : inb ((k - 1 : Nat) : Int) cs.length = true := by simp only [inb, Bool.and_eq_true, decide_eq_true_eq]; omega
    have mn : ∀ x y : Int, min2A x y = min x y := fun x y => by unfold min2A; split <;> omega
    have mx : ∀ x y : Int, max2A x y = max x y := fun x y => by unfold max2A; split <;> omega
    rw [hx, hdi, ek, hw, hw1, hm, hL, i1, i2, Int.toNat_natCast, mn, mx, w1, w2, w3, w4, hbs, hroom, decide_eq_true (by omega : (k : Int) < (cs.length : Int))]
    exact Sat.cut nxt
theorem c_impl_PlanPathOf (ks : List Kind) (ps : List Point) (es : List Entry) (n : Str) (hg : (szB es && decide (es.length < 1000000000)) = true) : CallOK Tryz.prog CP g_impl_PlanPathOf [.agg [.sl .kind ks, .sl .point ps, .sl .entry es], .str n] [] (pathV (pathF ks ps es n)) [] := by
  refine CallOK.of R_impl_PlanPathOf_ok (by kernel_rfl) (t_impl_PlanPathOf ks ps es n) ?_
  have hg2 := hg
  simp only [Bool.and_eq_true, decide_eq_true_eq] at hg
  have hz := hg.1
  have no : ∀ c : Int, pathF ks ps es n = ⟨[], 0, 0, c⟩ → Sat R_impl_PlanPathOf g_impl_PlanPathOf (pathV (pathF ks ps es n)) [] (some (.ret (.tup [.agg [.sl .step [], .int .i64 (0 : Int), .int .i64 (0 : Int)], .int .i64 c]) [])) := fun c h => by
    rw [h]; exact Sat.ret rfl rfl
  rw [hz]
  cases hb : bookOk ks ps es with
  | false => exact no 1 (by simp [pathF, hb])
  | true =>
    cases hst : stB ks ps es n with
    | none => exact no 2 (by simp [pathF, hb, hst])
    | some f =>
      obtain ⟨h0, h1, h2, h3, h4, h5, h6⟩ := fl_ok hst
      have hp16 := (baseOk_len (book_ents hb).1).2
      simp only [Option.getD_some, Option.isSome_some]
      rw [decide_eq_true (by omega : ps.length < 1000000000)]
      have hcase : cellsF ks ps f.route = none ∨ ∃ cs, cellsF ks ps f.route = some cs := by cases cellsF ks ps f.route <;> simp
      rcases hcase with hc | ⟨cs, hc⟩
      · simp only [hc, Option.isSome_none]
        exact no 3 (by simp [pathF, hb, hst, hc])
      · simp only [hc]
        have h40 : cs.length ≤ 40 := by
          unfold cellsF at hc
          split at hc
          · rename_i hx
            simp only [Option.some.injEq] at hc
            subst hc; exact hx.2.2
          · cases hc
        simp only [Option.getD_some, Option.isSome_some]
        have pq : (cs.length : Int) * f.kind.quick ≤ 40 * 50 ∧ 0 ≤ (cs.length : Int) * f.kind.quick := ⟨Int.mul_le_mul (by omega) (by omega) (by omega) (by omega), Int.mul_nonneg (by omega) (by omega)⟩
        have ps2 : (cs.length : Int) * f.kind.slow ≤ 40 * 50 ∧ 0 ≤ (cs.length : Int) * f.kind.slow := ⟨Int.mul_le_mul (by omega) (by omega) (by omega) (by omega), Int.mul_nonneg (by omega) (by omega)⟩
        have w1 : IntKind.wrap .i64 ((cs.length : Int) * f.kind.quick) = (cs.length : Int) * f.kind.quick := wrap_ok (by omega) (by omega)
        have w2 : IntKind.wrap .i64 ((cs.length : Int) * f.kind.slow) = (cs.length : Int) * f.kind.slow := wrap_ok (by omega) (by omega)
        have w3 : IntKind.wrap .i64 (f.frm + (cs.length : Int) * f.kind.quick) = f.frm + (cs.length : Int) * f.kind.quick := wrap_ok (by omega) (by omega)
        have w4 : IntKind.wrap .i64 (f.by_ + (cs.length : Int) * f.kind.slow) = f.by_ + (cs.length : Int) * f.kind.slow := wrap_ok (by omega) (by omega)
        simp only [w1, w2, w3, w4]
        by_cases hl : f.by_ + (cs.length : Int) * f.kind.slow > 10000
        · rw [decide_eq_true hl]
          exact no 4 (by simp only [pathF, hb, hst, hc, if_true]; rw [if_pos hl])
        · rw [decide_eq_false hl]
          rw [show pathF ks ps es n = ⟨(List.range cs.length).map (stepAt f cs), f.frm + cs.length * f.kind.quick, f.by_ + cs.length * f.kind.slow, 0⟩ by simp only [pathF, hb, hst, hc, if_true]; rw [if_neg hl]]
          exact Sat.cut (l_impl_PlanPathOf f cs _ _ h40 h0 h1 h2 h3 h4 h5 h6 cs.length 0 (Nat.zero_add _))
theorem E_impl_PlanPathOf_ok : EntOK Tryz.prog CP g_impl_PlanPathOf E_impl_PlanPathOf := by
  refine ⟨⟨Tryz.f17, by kernel_rfl, by kernel_rfl, by kernel_rfl⟩, fun args H res H' h => ?_⟩
  simp only [E_impl_PlanPathOf, E_spec_PlanPathOf] at h
  split at h
  · simp only [Option.some.injEq, Prod.mk.injEq] at h
    obtain ⟨hg, rfl, rfl⟩ := h
    exact c_impl_PlanPathOf _ _ _ _ hg
  · cases h
end Lx
/- Meanings: over a point. -/
set_option linter.unusedVariables false
set_option linter.unusedSimpArgs false
namespace Lx
open Go Go.Proofs
/-- The first step over a place: when it is come to, when it is left. -/
def overGo (x y last : Int) : List Stp → Option (Int × Int)
  | [] => none
  | s :: l => if s.x = x ∧ s.y = y then some (s.frm, IntKind.wrap .i64 ((match l with | [] => last | t :: _ => t.by_) - 1)) else overGo x y last l
def nextBy (last : Int) : List Stp → Int
  | [] => last
  | t :: _ => t.by_
theorem overGo_cons (x y last : Int) (s : Stp) (l : List Stp) : overGo x y last (s :: l) = if s.x = x ∧ s.y = y then some (s.frm, IntKind.wrap .i64 (nextBy last l - 1)) else overGo x y last l := by
  cases l <;> simp [overGo, nextBy]
def overF (ks : List Kind) (ps : List Point) (es : List Entry) (n p : Str) : Option (Int × Int) :=
  if (pathF ks ps es n).code = 0 ∧ 0 ≤ pointIx ps p then overGo (ptOf ps p).x (ptOf ps p).y (pathF ks ps es n).by_ (pathF ks ps es n).steps else none
theorem steps_len {ks : List Kind} {ps : List Point} {es : List Entry} {n : Str} : (pathF ks ps es n).steps.length ≤ 40 := by
  unfold pathF
  split
  · split
    · simp
    · rename_i f hf
      split
      · simp
      · rename_i cs hc
        split
        · simp
        · unfold cellsF at hc
          split at hc
          · rename_i hx
            simp only [Option.some.injEq] at hc
            subst hc
            simpa using hx.2.2
          · cases hc
  · simp
def overV (o : Option (Int × Int)) : V := .tup [.int .i64 (o.getD (0, 0)).1, .int .i64 (o.getD (0, 0)).2, .bool o.isSome]
def E_spec_PlanOver : Ent Ty El := ⟨[.ro, .ro, .ro], 0, fun a h => match a, h with
  | [.agg [.sl .kind ks, .sl .point ps, .sl .entry es], .str n, .str p], [] => some ((szB es && decide (es.length < 1000000000)) && decide (ps.length < 1000000000), overV (overF ks ps es n p), [])
  | _, _ => none⟩
def E_impl_PlanOver : Ent Ty El := E_spec_PlanOver
end Lx
/- Over a point. -/
set_option linter.unusedVariables false
set_option linter.unusedSimpArgs false
set_option maxRecDepth 4000
namespace Lx
open Go Go.Proofs
/-- spec.PlanOver -/
noncomputable def R_spec_PlanOver : RE Ty El := ⟨Tryz.prog, CP, [(g_spec_PlanPathOf, E_spec_PlanPathOf), (g_spec_l11Point, E_spec_l11Point)], Tryz.f33, 0, [], [(6, [(3, .any), (9, .any), (11, .any), (12, .any)])]⟩
theorem R_spec_PlanOver_ok : REOK R_spec_PlanOver g_spec_PlanOver := ⟨CP_ok, (TabOK.cons E_spec_PlanPathOf_ok (TabOK.cons E_spec_l11Point_ok EOKnil)), by kernel_rfl, by kernel_rfl⟩
theorem t_spec_PlanOver (ks : List Kind) (ps : List Point) (es : List Entry) (n p : Str) : aRun R_spec_PlanOver 600 false (body0 R_spec_PlanOver.fn) (initSt R_spec_PlanOver.fn [.agg [.sl .kind ks, .sl .point ps, .sl .entry es], .str n, .str p] []) =
  ifb (szB es && decide (es.length < (1000000000 : Nat))) (ifb (decide (ps.length < (1000000000 : Nat))) (ifb ((pathF ks ps es n).code != (0 : Int)) (some (.ret (.tup [.int .i64 (0 : Int), .int .i64 (0 : Int), .bool false]) [])) (ifb (decide (idxF (fun p_1 => p_1.name == p) ps < (0 : Int))) (some (.ret (.tup [.int .i64 (0 : Int), .int .i64 (0 : Int), .bool false]) [])) (some (.go (todoAt R_spec_PlanOver.fn 6) [.ptr 0 0, .ptr 1 0, .int .i64 (idxF (fun p_1 => p_1.name == p) ps), .int .i64 (0 : Int)] [.box [.sl .kind ks, .sl .point ps, .sl .entry es], .box [.sl .step ((pathF ks ps es n).steps), .int .i64 ((pathF ks ps es n).frm), .int .i64 ((pathF ks ps es n).by_)]])))) (none)) (none) := by kernel_rfl
theorem t_spec_PlanOver_6 (x0 : Int) (x1 : Int) (x2 : List (El .kind)) (x3 : List (El .point)) (x4 : List (El .entry)) (x5 : List (El .step)) (x6 : Int) (x7 : Int) : aRun R_spec_PlanOver 600 true (todoAt R_spec_PlanOver.fn 6) (cutSt R_spec_PlanOver.fn (liveOf R_spec_PlanOver (todoAt R_spec_PlanOver.fn 6)) [.ptr 0 0, .ptr 1 0, .int .i64 x0, .int .i64 x1] [.box [.sl .kind x2, .sl .point x3, .sl .entry x4], .box [.sl .step x5, .int .i64 x6, .int .i64 x7]]) =
  ifb (decide (x1 < (↑x5.length : Int))) (ifb (inb x1 x5.length) (ifb (inb x0 x3.length) (ifb ((x5.getD x1.toNat (R_spec_PlanOver.C.dflt Ty.step)).x == (x3.getD x0.toNat (R_spec_PlanOver.C.dflt Ty.point)).x) (ifb (inb x1 x5.length) (ifb (inb x0 x3.length) (ifb ((x5.getD x1.toNat (R_spec_PlanOver.C.dflt Ty.step)).y == (x3.getD x0.toNat (R_spec_PlanOver.C.dflt Ty.point)).y) (ifb (decide (IntKind.i64.wrap (x1 + (1 : Int)) < (↑x5.length : Int))) (ifb (inb x1 x5.length) (ifb (inb (IntKind.i64.wrap (x1 + (1 : Int))) x5.length) (some (.ret (.tup [.int .i64 ((x5.getD x1.toNat (R_spec_PlanOver.C.dflt Ty.step)).frm), .int .i64 (IntKind.i64.wrap ((x5.getD (IntKind.i64.wrap (x1 + (1 : Int))).toNat (R_spec_PlanOver.C.dflt Ty.step)).by_ - (1 : Int))), .bool true]) [])) (none)) (none)) (ifb (inb x1 x5.length) (some (.ret (.tup [.int .i64 ((x5.getD x1.toNat (R_spec_PlanOver.C.dflt Ty.step)).frm), .int .i64 (IntKind.i64.wrap (x7 - (1 : Int))), .bool true]) [])) (none))) (some (.go (todoAt R_spec_PlanOver.fn 6) [.ptr 0 0, .ptr 1 0, .int .i64 x0, .int .i64 (IntKind.i64.wrap (x1 + (1 : Int)))] [.box [.sl .kind x2, .sl .point x3, .sl .entry x4], .box [.sl .step x5, .int .i64 x6, .int .i64 x7]]))) (none)) (none)) (some (.go (todoAt R_spec_PlanOver.fn 6) [.ptr 0 0, .ptr 1 0, .int .i64 x0, .int .i64 (IntKind.i64.wrap (x1 + (1 : Int)))] [.box [.sl .kind x2, .sl .point x3, .sl .entry x4], .box [.sl .step x5, .int .i64 x6, .int .i64 x7]]))) (none)) (none)) (some (.ret (.tup [.int .i64 (0 : Int), .int .i64 (0 : Int), .bool false]) [])) := by kernel_rfl
theorem l_spec_PlanOver (ks : List Kind) (ps : List Point) (es : List Entry) (p : Str) (ss : List Stp) (F B : Int) (h40 : ss.length ≤ 40) (hk : 0 ≤ pointIx ps p) : ∀ (d i : Nat), i + d = ss.length →
    Cut R_spec_PlanOver g_spec_PlanOver 6 [.ptr 0 0, .ptr 1 0, .int .i64 (pointIx ps p), .int .i64 (i : Int)] [.box [.sl .kind ks, .sl .point ps, .sl .entry es], .box [.sl .step ss, .int .i64 F, .int .i64 B]] (overV (overGo (ptOf ps p).x (ptOf ps p).y B (ss.drop i))) [] := by
  have h2 := idxF_lt (p := fun q : Point => q.name == p) (l := ps)
  have h3 : pointIx ps p = idxF (fun q : Point => q.name == p) ps := rfl
  have hip : inb (pointIx ps p) ps.length = true := by simp only [inb, Bool.and_eq_true, decide_eq_true_eq]; omega
  have hpt : ps.getD (pointIx ps p).toNat (R_spec_PlanOver.C.dflt .point) = ptOf ps p := rfl
  intro d
  induction d with
  | zero =>
    intro i hi
    refine Cut.of R_spec_PlanOver_ok rfl (t_spec_PlanOver_6 (pointIx ps p) i ks ps es ss F B) ?_
    rw [decide_eq_false (by omega), List.drop_of_length_le (by omega)]
    exact Sat.ret rfl rfl
  | succ d ih =>
    intro i hi
    refine Cut.of R_spec_PlanOver_ok rfl (t_spec_PlanOver_6 (pointIx ps p) i ks ps es ss F B) ?_
    have hlt : i < ss.length := by omega
    have hw : IntKind.wrap .i64 ((i : Int) + 1) = ((i + 1 : Nat) : Int) := by rw [wrap_ok] <;> omega
    have hw1 : IntKind.wrap .i64 ((i : Int) - 1) = (i : Int) - 1 := by rw [wrap_ok] <;> omega
    have hd : ss.drop i = ss[i] :: ss.drop (i + 1) := List.drop_eq_getElem_cons hlt
    have hx : ss.getD (i : Int).toNat (R_spec_PlanOver.C.dflt .step) = ss[i] := by simp [hlt]
    have hin : inb (i : Int) ss.length = true := by simp only [inb, Bool.and_eq_true, decide_eq_true_eq]; omega
    have hlo : decide ((i : Int) < (ss.length : Int)) = true := decide_eq_true (by omega)
    have htk := List.take_succ_eq_append_getElem hlt
    have hl : (ss.take (i + 1)).getLast? = some ss[i] := by rw [List.take_succ_eq_append_getElem hlt, List.getLast?_concat]
    rw [hlo, hin, hx, hw, hip, hpt, hd, overGo_cons]
    simp only [ifb_true]
    by_cases cx : ss[i].x = (ptOf ps p).x
    · by_cases cy : ss[i].y = (ptOf ps p).y
      · rw [if_pos ⟨cx, cy⟩]
        rw [beq_iff_eq.2 cx, beq_iff_eq.2 cy]
        simp only [ifb_true]
        by_cases hl1 : i + 1 < ss.length
        · have i2 : inb ((i + 1 : Nat) : Int) ss.length = true := by simp only [inb, Bool.and_eq_true, decide_eq_true_eq]; omega
          have hd2 : ss.drop (i + 1) = ss[i + 1] :: ss.drop (i + 1 + 1) := List.drop_eq_getElem_cons hl1
          have hx2 : ss.getD ((i + 1 : Nat) : Int).toNat (R_spec_PlanOver.C.dflt .step) = ss[i + 1] := by simp [hl1]
          rw [decide_eq_true (by omega : ((i + 1 : Nat) : Int) < (ss.length : Int)), i2, hx2, hd2]
          exact Sat.ret rfl rfl
        · rw [decide_eq_false (by omega : ¬ ((i + 1 : Nat) : Int) < (ss.length : Int)), List.drop_of_length_le (by omega : ss.length ≤ i + 1)]
          exact Sat.ret rfl rfl
      · rw [if_neg (fun h => cy h.2)]
        rw [beq_iff_eq.2 cx, beq_eq_false_iff_ne.2 cy]
        exact Sat.cut (ih (i + 1) (by omega))
    · rw [if_neg (fun h => cx h.1)]
      rw [beq_eq_false_iff_ne.2 cx]
      exact Sat.cut (ih (i + 1) (by omega))
theorem c_spec_PlanOver (ks : List Kind) (ps : List Point) (es : List Entry) (n p : Str) (hg : ((szB es && decide (es.length < 1000000000)) && decide (ps.length < 1000000000)) = true) : CallOK Tryz.prog CP g_spec_PlanOver [.agg [.sl .kind ks, .sl .point ps, .sl .entry es], .str n, .str p] [] (overV (overF ks ps es n p)) [] := by
  refine CallOK.of R_spec_PlanOver_ok (by kernel_rfl) (t_spec_PlanOver ks ps es n p) ?_
  simp only [Bool.and_eq_true, decide_eq_true_eq] at hg
  have hg1 : (szB es && decide (es.length < 1000000000)) = true := by rw [hg.1.1, decide_eq_true hg.1.2]; rfl
  have no : overF ks ps es n p = none → Sat R_spec_PlanOver g_spec_PlanOver (overV (overF ks ps es n p)) [] (some (.ret (.tup [.int .i64 (0 : Int), .int .i64 (0 : Int), .bool false]) [])) := fun h => by
    rw [h]; exact Sat.ret rfl rfl
  have hp : idxF (fun q => q.name == p) ps = pointIx ps p := rfl
  rw [hg1, decide_eq_true hg.2, hp]
  simp only [ifb_true]
  by_cases hc : (pathF ks ps es n).code = 0
  · rw [show ((pathF ks ps es n).code != 0) = false by simp [hc]]
    by_cases h0 : 0 ≤ pointIx ps p
    · rw [decide_eq_false (by omega : ¬ pointIx ps p < 0)]
      rw [show overF ks ps es n p = overGo (ptOf ps p).x (ptOf ps p).y (pathF ks ps es n).by_ (pathF ks ps es n).steps by rw [overF, if_pos ⟨hc, h0⟩]]
      exact Sat.cut (l_spec_PlanOver ks ps es p (pathF ks ps es n).steps _ _ steps_len h0 _ 0 (Nat.zero_add _))
    · rw [decide_eq_true (by omega : pointIx ps p < 0)]
      exact no (by rw [overF, if_neg (fun h => h0 h.2)])
  · rw [show ((pathF ks ps es n).code != 0) = true by simp [hc]]
    exact no (by rw [overF, if_neg (fun h => hc h.1)])
theorem E_spec_PlanOver_ok : EntOK Tryz.prog CP g_spec_PlanOver E_spec_PlanOver := by
  refine ⟨⟨Tryz.f33, by kernel_rfl, by kernel_rfl, by kernel_rfl⟩, fun args H res H' h => ?_⟩
  simp only [E_spec_PlanOver] at h
  split at h
  · simp only [Option.some.injEq, Prod.mk.injEq] at h
    obtain ⟨hg, rfl, rfl⟩ := h
    exact c_spec_PlanOver _ _ _ _ _ hg
  · cases h

/-- impl.PlanOver -/
noncomputable def R_impl_PlanOver : RE Ty El := ⟨Tryz.prog, CP, [(g_impl_PlanPathOf, E_impl_PlanPathOf), (g_impl_PlanBase_point, E_impl_PlanBase_point)], Tryz.f32, 0, [], [(6, [(3, .any), (9, .any), (11, .any), (32, .any), (33, .any), (34, .any)])]⟩
theorem R_impl_PlanOver_ok : REOK R_impl_PlanOver g_impl_PlanOver := ⟨CP_ok, (TabOK.cons E_impl_PlanPathOf_ok (TabOK.cons E_impl_PlanBase_point_ok EOKnil)), by kernel_rfl, by kernel_rfl⟩
theorem t_impl_PlanOver (ks : List Kind) (ps : List Point) (es : List Entry) (n p : Str) : aRun R_impl_PlanOver 600 false (body0 R_impl_PlanOver.fn) (initSt R_impl_PlanOver.fn [.agg [.sl .kind ks, .sl .point ps, .sl .entry es], .str n, .str p] []) =
  ifb (szB es && decide (es.length < (1000000000 : Nat))) (ifb (decide (ps.length < (1000000000 : Nat))) (ifb ((pathF ks ps es n).code != (0 : Int)) (some (.ret (.tup [.int .i64 (0 : Int), .int .i64 (0 : Int), .bool false]) [])) (ifb (decide (idxF (fun p_1 => p_1.name == p) ps < (0 : Int))) (some (.ret (.tup [.int .i64 (0 : Int), .int .i64 (0 : Int), .bool false]) [])) (some (.go (todoAt R_impl_PlanOver.fn 6) [.ptr 0 0, .ptr 1 0, .int .i64 (idxF (fun p_1 => p_1.name == p) ps), .sl .step ((pathF ks ps es n).steps), .int .i64 ((↑(pathF ks ps es n).steps.length : Int)), .int .i64 (0 : Int)] [.box [.sl .kind ks, .sl .point ps, .sl .entry es], .box [.sl .step ((pathF ks ps es n).steps), .int .i64 ((pathF ks ps es n).frm), .int .i64 ((pathF ks ps es n).by_)]])))) (none)) (none) := by kernel_rfl
theorem t_impl_PlanOver_6 (x0 : Int) (x1 : List (El .step)) (x2 : Int) (x3 : Int) (x4 : List (El .kind)) (x5 : List (El .point)) (x6 : List (El .entry)) (x7 : List (El .step)) (x8 : Int) (x9 : Int) : aRun R_impl_PlanOver 600 true (todoAt R_impl_PlanOver.fn 6) (cutSt R_impl_PlanOver.fn (liveOf R_impl_PlanOver (todoAt R_impl_PlanOver.fn 6)) [.ptr 0 0, .ptr 1 0, .int .i64 x0, .sl .step x1, .int .i64 x2, .int .i64 x3] [.box [.sl .kind x4, .sl .point x5, .sl .entry x6], .box [.sl .step x7, .int .i64 x8, .int .i64 x9]]) =
  ifb (decide (x3 < x2)) (ifb (inb x3 x1.length) (ifb (inb x0 x5.length) (ifb ((x1.getD x3.toNat (R_impl_PlanOver.C.dflt Ty.step)).x != (x5.getD x0.toNat (R_impl_PlanOver.C.dflt Ty.point)).x) (some (.go (todoAt R_impl_PlanOver.fn 6) [.ptr 0 0, .ptr 1 0, .int .i64 x0, .sl .step x1, .int .i64 x2, .int .i64 (IntKind.i64.wrap (x3 + (1 : Int)))] [.box [.sl .kind x4, .sl .point x5, .sl .entry x6], .box [.sl .step x7, .int .i64 x8, .int .i64 x9]])) (ifb (inb x0 x5.length) (ifb ((x1.getD x3.toNat (R_impl_PlanOver.C.dflt Ty.step)).y != (x5.getD x0.toNat (R_impl_PlanOver.C.dflt Ty.point)).y) (some (.go (todoAt R_impl_PlanOver.fn 6) [.ptr 0 0, .ptr 1 0, .int .i64 x0, .sl .step x1, .int .i64 x2, .int .i64 (IntKind.i64.wrap (x3 + (1 : Int)))] [.box [.sl .kind x4, .sl .point x5, .sl .entry x6], .box [.sl .step x7, .int .i64 x8, .int .i64 x9]])) (ifb (decide (IntKind.i64.wrap (x3 + (1 : Int)) < (↑x7.length : Int))) (ifb (inb (IntKind.i64.wrap (x3 + (1 : Int))) x7.length) (some (.ret (.tup [.int .i64 ((x1.getD x3.toNat (R_impl_PlanOver.C.dflt Ty.step)).frm), .int .i64 (IntKind.i64.wrap ((x7.getD (IntKind.i64.wrap (x3 + (1 : Int))).toNat (R_impl_PlanOver.C.dflt Ty.step)).by_ - (1 : Int))), .bool true]) [])) (none)) (some (.ret (.tup [.int .i64 ((x1.getD x3.toNat (R_impl_PlanOver.C.dflt Ty.step)).frm), .int .i64 (IntKind.i64.wrap (x9 - (1 : Int))), .bool true]) [])))) (none))) (none)) (none)) (some (.ret (.tup [.int .i64 (0 : Int), .int .i64 (0 : Int), .bool false]) [])) := by kernel_rfl
theorem l_impl_PlanOver (ks : List Kind) (ps : List Point) (es : List Entry) (p : Str) (ss : List Stp) (F B : Int) (h40 : ss.length ≤ 40) (hk : 0 ≤ pointIx ps p) : ∀ (d i : Nat), i + d = ss.length →
    Cut R_impl_PlanOver g_impl_PlanOver 6 [.ptr 0 0, .ptr 1 0, .int .i64 (pointIx ps p), .sl .step ss, .int .i64 (ss.length : Int), .int .i64 (i : Int)] [.box [.sl .kind ks, .sl .point ps, .sl .entry es], .box [.sl .step ss, .int .i64 F, .int .i64 B]] (overV (overGo (ptOf ps p).x (ptOf ps p).y B (ss.drop i))) [] := by
  have h2 := idxF_lt (p := fun q : Point => q.name == p) (l := ps)
  have h3 : pointIx ps p = idxF (fun q : Point => q.name == p) ps := rfl
  have hip : inb (pointIx ps p) ps.length = true := by simp only [inb, Bool.and_eq_true, decide_eq_true_eq]; omega
  have hpt : ps.getD (pointIx ps p).toNat (R_impl_PlanOver.C.dflt .point) = ptOf ps p := rfl
  intro d
  induction d with
  | zero =>
    intro i hi
    refine Cut.of R_impl_PlanOver_ok rfl (t_impl_PlanOver_6 (pointIx ps p) ss ss.length i ks ps es ss F B) ?_
    rw [decide_eq_false (by omega), List.drop_of_length_le (by omega)]
    exact Sat.ret rfl rfl
  | succ d ih =>
    intro i hi
    refine Cut.of R_impl_PlanOver_ok rfl (t_impl_PlanOver_6 (pointIx ps p) ss ss.length i ks ps es ss F B) ?_
    have hlt : i < ss.length := by omega
    have hw : IntKind.wrap .i64 ((i : Int) + 1) = ((i + 1 : Nat) : Int) := by rw [wrap_ok] <;> omega
    have hw1 : IntKind.wrap .i64 ((i : Int) - 1) = (i : Int) - 1 := by rw [wrap_ok] <;> omega
    have hd : ss.drop i = ss[i] :: ss.drop (i + 1) := List.drop_eq_getElem_cons hlt
    have hx : ss.getD (i : Int).toNat (R_impl_PlanOver.C.dflt .step) = ss[i] := by simp [hlt]
    have hin : inb (i : Int) ss.length = true := by simp only [inb, Bool.and_eq_true, decide_eq_true_eq]; omega
    have hlo : decide ((i : Int) < (ss.length : Int)) = true := decide_eq_true (by omega)
    have htk := List.take_succ_eq_append_getElem hlt
    have hl : (ss.take (i + 1)).getLast? = some ss[i] := by rw [List.take_succ_eq_append_getElem hlt, List.getLast?_concat]
    rw [hlo, hin, hx, hw, hip, hpt, hd, overGo_cons]
    simp only [ifb_true]
    by_cases cx : ss[i].x = (ptOf ps p).x
    · by_cases cy : ss[i].y = (ptOf ps p).y
      · rw [if_pos ⟨cx, cy⟩]
        rw [show (ss[i].x != (ptOf ps p).x) = false by simp [cx], show (ss[i].y != (ptOf ps p).y) = false by simp [cy]]
        simp only [ifb_false]
        by_cases hl1 : i + 1 < ss.length
        · have i2 : inb ((i + 1 : Nat) : Int) ss.length = true := by simp only [inb, Bool.and_eq_true, decide_eq_true_eq]; omega
          have hd2 : ss.drop (i + 1) = ss[i + 1] :: ss.drop (i + 1 + 1) := List.drop_eq_getElem_cons hl1
          have hx2 : ss.getD ((i + 1 : Nat) : Int).toNat (R_impl_PlanOver.C.dflt .step) = ss[i + 1] := by simp [hl1]
          rw [decide_eq_true (by omega : ((i + 1 : Nat) : Int) < (ss.length : Int)), i2, hx2, hd2]
          exact Sat.ret rfl rfl
        · rw [decide_eq_false (by omega : ¬ ((i + 1 : Nat) : Int) < (ss.length : Int)), List.drop_of_length_le (by omega : ss.length ≤ i + 1)]
          exact Sat.ret rfl rfl
      · rw [if_neg (fun h => cy h.2)]
        rw [show (ss[i].x != (ptOf ps p).x) = false by simp [cx], show (ss[i].y != (ptOf ps p).y) = true by simp [cy]]
        exact Sat.cut (ih (i + 1) (by omega))
    · rw [if_neg (fun h => cx h.1)]
      rw [show (ss[i].x != (ptOf ps p).x) = true by simp [cx]]
      exact Sat.cut (ih (i + 1) (by omega))
theorem c_impl_PlanOver (ks : List Kind) (ps : List Point) (es : List Entry) (n p : Str) (hg : ((szB es && decide (es.length < 1000000000)) && decide (ps.length < 1000000000)) = true) : CallOK Tryz.prog CP g_impl_PlanOver [.agg [.sl .kind ks, .sl .point ps, .sl .entry es], .str n, .str p] [] (overV (overF ks ps es n p)) [] := by
  refine CallOK.of R_impl_PlanOver_ok (by kernel_rfl) (t_impl_PlanOver ks ps es n p) ?_
  simp only [Bool.and_eq_true, decide_eq_true_eq] at hg
  have hg1 : (szB es && decide (es.length < 1000000000)) = true := by rw [hg.1.1, decide_eq_true hg.1.2]; rfl
  have no : overF ks ps es n p = none → Sat R_impl_PlanOver g_impl_PlanOver (overV (overF ks ps es n p)) [] (some (.ret (.tup [.int .i64 (0 : Int), .int .i64 (0 : Int), .bool false]) [])) := fun h => by
    rw [h]; exact Sat.ret rfl rfl
  have hp : idxF (fun q => q.name == p) ps = pointIx ps p := rfl
  rw [hg1, decide_eq_true hg.2, hp]
  simp only [ifb_true]
  by_cases hc : (pathF ks ps es n).code = 0
  · rw [show ((pathF ks ps es n).code != 0) = false by simp [hc]]
    by_cases h0 : 0 ≤ pointIx ps p
    · rw [decide_eq_false (by omega : ¬ pointIx ps p < 0)]
      rw [show overF ks ps es n p = overGo (ptOf ps p).x (ptOf ps p).y (pathF ks ps es n).by_ (pathF ks ps es n).steps by rw [overF, if_pos ⟨hc, h0⟩]]
      exact Sat.cut (l_impl_PlanOver ks ps es p (pathF ks ps es n).steps _ _ steps_len h0 _ 0 (Nat.zero_add _))
    · rw [decide_eq_true (by omega : pointIx ps p < 0)]
      exact no (by rw [overF, if_neg (fun h => h0 h.2)])
  · rw [show ((pathF ks ps es n).code != 0) = true by simp [hc]]
    exact no (by rw [overF, if_neg (fun h => hc h.1)])
theorem E_impl_PlanOver_ok : EntOK Tryz.prog CP g_impl_PlanOver E_impl_PlanOver := by
  refine ⟨⟨Tryz.f32, by kernel_rfl, by kernel_rfl, by kernel_rfl⟩, fun args H res H' h => ?_⟩
  simp only [E_impl_PlanOver, E_spec_PlanOver] at h
  split at h
  · simp only [Option.some.injEq, Prod.mk.injEq] at h
    obtain ⟨hg, rfl, rfl⟩ := h
    exact c_impl_PlanOver _ _ _ _ _ hg
  · cases h
end Lx
/- Meanings: how much an argument holds; the arguments made the program's own; answers held against each other. -/
set_option linter.unusedVariables false
set_option linter.unusedSimpArgs false
namespace Lx
open Go Go.Proofs
def szL (left : Int) (n : Nat) : Int := if left - n < 0 then -1 else left - n
def leftOk (left : Int) : Bool := decide (-1 ≤ left) && decide (left ≤ 4194304)
def lenOk (n : Nat) : Bool := decide (n ≤ 9223372036854775807)
def sumN {α : Type} (f : α → Nat) : List α → Nat
  | [] => 0
  | a :: l => f a + sumN f l
theorem sumN_cons {α : Type} (f : α → Nat) (a : α) (l : List α) : sumN f (a :: l) = f a + sumN f l := rfl
theorem lenOk_le {n : Nat} (h : lenOk n = true) : n ≤ 9223372036854775807 := of_decide_eq_true h
theorem szWrap {left : Int} {n : Nat} (hl : leftOk left = true) (hn : lenOk n = true) : IntKind.wrap .i64 (left - (n : Int)) = left - (n : Int) := by
  have := lenOk_le hn
  simp only [leftOk, Bool.and_eq_true, decide_eq_true_eq] at hl
  rw [wrap_ok] <;> omega
theorem szL_lt {left : Int} {n : Nat} (h : left - (n : Int) < 0) : szL left n = -1 := if_pos h
theorem szL_ge {left : Int} {n : Nat} (h : ¬ left - (n : Int) < 0) : szL left n = left - n := if_neg h
theorem szL_neg {left : Int} {n m : Nat} (h : left - (n : Int) < 0) : szL left (n + m) = -1 := if_pos (by omega)
theorem szL_add {left : Int} {n m : Nat} (h : ¬ left - (n : Int) < 0) : szL left (n + m) = szL (left - n) m := by
  unfold szL
  rw [show left - ((n + m : Nat) : Int) = left - (n : Int) - (m : Int) by omega]
theorem szL_zero {left : Int} (h : 0 ≤ left) : szL left 0 = left := by unfold szL; rw [if_neg (by omega)]; omega
theorem leftOk_sub {left : Int} {n : Nat} (hl : leftOk left = true) (h : ¬ left - (n : Int) < 0) : leftOk (left - n) = true := by
  simp only [leftOk, Bool.and_eq_true, decide_eq_true_eq] at hl ⊢
  omega
theorem set_fill {α : Type} {l : List α} {i d : Nat} {z : α} (h : i < l.length) : (l.take i ++ List.replicate (d + 1) z).set ((i : Int).toNat) l[i] = l.take (i + 1) ++ List.replicate d z := by
  rw [Int.toNat_natCast, List.set_append_right _ _ (by simp; omega), List.length_take, show i - min i l.length = 0 by omega, List.replicate_succ, List.set_cons_zero, List.take_succ_eq_append_getElem h, List.append_assoc]
  rfl
theorem makeOk {b n : Nat} (hb : b ≤ 256) (hn : n ≤ 1000000000) : (decide ((0 : Int) ≤ (n : Int)) && (decide ((n : Int) = (n : Int)) && decide ((b : Int) * (n : Int) ≤ 281474976710656))) = true := by
  have h : b * n ≤ 256 * 1000000000 := Nat.mul_le_mul hb hn
  have h2 : (b : Int) * (n : Int) = ((b * n : Nat) : Int) := by simp
  rw [h2, decide_eq_true (by omega), decide_eq_true rfl, decide_eq_true (by omega)]
  rfl
def w_PlanKind (name : Str) (quick : Int) (slow : Int) : Nat := name.length + (0)
def ok_PlanKind (name : Str) (quick : Int) (slow : Int) : Bool := lenOk name.length && (true)
def wS_PlanKind (l : List Kind) : Nat := l.length + sumN (fun z : Kind => w_PlanKind z.name z.quick z.slow) l
def okS_PlanKind (l : List Kind) : Bool := lenOk l.length && l.all (fun z : Kind => ok_PlanKind z.name z.quick z.slow)
def E_laws_szPlanKind : Ent Ty El := ⟨[.ro, .ro], 0, fun a h => match a, h with
  | [.agg [.str name, .int .i64 quick, .int .i64 slow], .int .i64 left], [] => some (ok_PlanKind name quick slow && leftOk left, .int .i64 (szL left (w_PlanKind name quick slow)), [])
  | _, _ => none⟩
def E_laws_szPlanKindS : Ent Ty El := ⟨[.ro, .ro], 0, fun a h => match a, h with
  | [.sl .lkind l, .int .i64 left], [] => some (okS_PlanKind l && leftOk left, .int .i64 (szL left (wS_PlanKind l)), [])
  | _, _ => none⟩
def w_PlanPoint (name : Str) (x : Int) (y : Int) : Nat := name.length + (0)
def ok_PlanPoint (name : Str) (x : Int) (y : Int) : Bool := lenOk name.length && (true)
def wS_PlanPoint (l : List Point) : Nat := l.length + sumN (fun z : Point => w_PlanPoint z.name z.x z.y) l
def okS_PlanPoint (l : List Point) : Bool := lenOk l.length && l.all (fun z : Point => ok_PlanPoint z.name z.x z.y)
def E_laws_szPlanPoint : Ent Ty El := ⟨[.ro, .ro], 0, fun a h => match a, h with
  | [.agg [.str name, .int .i64 x, .int .i64 y], .int .i64 left], [] => some (ok_PlanPoint name x y && leftOk left, .int .i64 (szL left (w_PlanPoint name x y)), [])
  | _, _ => none⟩
def E_laws_szPlanPointS : Ent Ty El := ⟨[.ro, .ro], 0, fun a h => match a, h with
  | [.sl .lpoint l, .int .i64 left], [] => some (okS_PlanPoint l && leftOk left, .int .i64 (szL left (wS_PlanPoint l)), [])
  | _, _ => none⟩
def w_PlanBase (ks : List Kind) (ps : List Point) : Nat := wS_PlanKind ks + (wS_PlanPoint ps + (0))
def ok_PlanBase (ks : List Kind) (ps : List Point) : Bool := okS_PlanKind ks && (okS_PlanPoint ps && (true))
def E_laws_szPlanBase : Ent Ty El := ⟨[.ro, .ro], 0, fun a h => match a, h with
  | [.agg [.sl .lkind ks, .sl .lpoint ps], .int .i64 left], [] => some (ok_PlanBase ks ps && leftOk left, .int .i64 (szL left (w_PlanBase ks ps)), [])
  | _, _ => none⟩
def w_PlanField (what : Int) (number : Int) (value : Str) : Nat := value.length + (0)
def ok_PlanField (what : Int) (number : Int) (value : Str) : Bool := lenOk value.length && (true)
def wS_PlanField (l : List Fld) : Nat := l.length + sumN (fun z : Fld => w_PlanField z.what z.number z.value) l
def okS_PlanField (l : List Fld) : Bool := lenOk l.length && l.all (fun z : Fld => ok_PlanField z.what z.number z.value)
def E_laws_szPlanField : Ent Ty El := ⟨[.ro, .ro], 0, fun a h => match a, h with
  | [.agg [.int .i64 what, .int .i64 number, .str value], .int .i64 left], [] => some (ok_PlanField what number value && leftOk left, .int .i64 (szL left (w_PlanField what number value)), [])
  | _, _ => none⟩
def E_laws_szPlanFieldS : Ent Ty El := ⟨[.ro, .ro], 0, fun a h => match a, h with
  | [.sl .lfld l, .int .i64 left], [] => some (okS_PlanField l && leftOk left, .int .i64 (szL left (wS_PlanField l)), [])
  | _, _ => none⟩
def w_PlanEntry (name : Str) (fields : List Fld) : Nat := name.length + (wS_PlanField fields + (0))
def ok_PlanEntry (name : Str) (fields : List Fld) : Bool := lenOk name.length && (okS_PlanField fields && (true))
def wS_PlanEntry (l : List Entry) : Nat := l.length + sumN (fun z : Entry => w_PlanEntry z.name z.fields) l
def okS_PlanEntry (l : List Entry) : Bool := lenOk l.length && l.all (fun z : Entry => ok_PlanEntry z.name z.fields)
def E_laws_szPlanEntry : Ent Ty El := ⟨[.ro, .ro], 0, fun a h => match a, h with
  | [.agg [.str name, .sl .lfld fields], .int .i64 left], [] => some (ok_PlanEntry name fields && leftOk left, .int .i64 (szL left (w_PlanEntry name fields)), [])
  | _, _ => none⟩
def E_laws_szPlanEntryS : Ent Ty El := ⟨[.ro, .ro], 0, fun a h => match a, h with
  | [.sl .lentry l, .int .i64 left], [] => some (okS_PlanEntry l && leftOk left, .int .i64 (szL left (wS_PlanEntry l)), [])
  | _, _ => none⟩
def w_PlanBook (ks : List Kind) (ps : List Point) (es : List Entry) : Nat := w_PlanBase ks ps + (wS_PlanEntry es + (0))
def ok_PlanBook (ks : List Kind) (ps : List Point) (es : List Entry) : Bool := ok_PlanBase ks ps && (okS_PlanEntry es && (true))
def E_laws_szPlanBook : Ent Ty El := ⟨[.ro, .ro], 0, fun a h => match a, h with
  | [.agg [.sl .lkind ks, .sl .lpoint ps, .sl .lentry es], .int .i64 left], [] => some (ok_PlanBook ks ps es && leftOk left, .int .i64 (szL left (w_PlanBook ks ps es)), [])
  | _, _ => none⟩
def tS_PlanKind (l : List Kind) : Bool := decide (l.length ≤ 1000000000) && true
def E_laws_toPlanKind : Ent Ty El := ⟨[.ro], 0, fun a h => match a, h with
  | [.agg [.str name, .int .i64 quick, .int .i64 slow]], [] => some (true, .agg [.str name, .int .i64 quick, .int .i64 slow], [])
  | _, _ => none⟩
def E_laws_toPlanKindS : Ent Ty El := ⟨[.ro], 1, fun a h => match a, h with
  | [.sl .lkind l], [] => some (tS_PlanKind l, .own 0 [] 0, [.row .kind l 0 0 0 .no])
  | _, _ => none⟩
def tS_PlanPoint (l : List Point) : Bool := decide (l.length ≤ 1000000000) && true
def E_laws_toPlanPoint : Ent Ty El := ⟨[.ro], 0, fun a h => match a, h with
  | [.agg [.str name, .int .i64 x, .int .i64 y]], [] => some (true, .agg [.str name, .int .i64 x, .int .i64 y], [])
  | _, _ => none⟩
def E_laws_toPlanPointS : Ent Ty El := ⟨[.ro], 1, fun a h => match a, h with
  | [.sl .lpoint l], [] => some (tS_PlanPoint l, .own 0 [] 0, [.row .point l 0 0 0 .no])
  | _, _ => none⟩
def t_PlanBase (ks : List Kind) (ps : List Point) : Bool := tS_PlanKind ks && (tS_PlanPoint ps && (true))
def E_laws_toPlanBase : Ent Ty El := ⟨[.ro], 2, fun a h => match a, h with
  | [.agg [.sl .lkind ks, .sl .lpoint ps]], [] => some (t_PlanBase ks ps, .agg [.own 0 [] 0, .own 1 [] 0], [.row .kind ks 0 0 0 .no, .row .point ps 0 0 0 .no])
  | _, _ => none⟩
def tS_PlanField (l : List Fld) : Bool := decide (l.length ≤ 1000000000) && true
def E_laws_toPlanField : Ent Ty El := ⟨[.ro], 0, fun a h => match a, h with
  | [.agg [.int .i64 what, .int .i64 number, .str value]], [] => some (true, .agg [.int .i64 what, .int .i64 number, .str value], [])
  | _, _ => none⟩
def E_laws_toPlanFieldS : Ent Ty El := ⟨[.ro], 1, fun a h => match a, h with
  | [.sl .lfld l], [] => some (tS_PlanField l, .own 0 [] 0, [.row .fld l 0 0 0 .no])
  | _, _ => none⟩
def t_PlanEntry (name : Str) (fields : List Fld) : Bool := tS_PlanField fields && (true)
def tS_PlanEntry (l : List Entry) : Bool := decide (l.length ≤ 1000000000) && l.all (fun z : Entry => t_PlanEntry z.name z.fields)
def E_laws_toPlanEntry : Ent Ty El := ⟨[.ro], 1, fun a h => match a, h with
  | [.agg [.str name, .sl .lfld fields]], [] => some (t_PlanEntry name fields, .agg [.str name, .own 0 [] 0], [.row .fld fields 0 0 0 .no])
  | _, _ => none⟩
def E_laws_toPlanEntryS : Ent Ty El := ⟨[.ro], 1, fun a h => match a, h with
  | [.sl .lentry l], [] => some (tS_PlanEntry l, .own 0 [] 0, [.row .entry l 1 0 0 .no])
  | _, _ => none⟩
def t_PlanBook (ks : List Kind) (ps : List Point) (es : List Entry) : Bool := tS_PlanKind ks && (tS_PlanPoint ps && (tS_PlanEntry es && (true)))
def E_laws_toPlanBook : Ent Ty El := ⟨[.ro], 3, fun a h => match a, h with
  | [.agg [.sl .lkind ks, .sl .lpoint ps, .sl .lentry es]], [] => some (t_PlanBook ks ps es, .agg [.own 0 [] 0, .own 1 [] 0, .own 2 [] 0], [.row .kind ks 0 0 0 .no, .row .point ps 0 0 0 .no, .row .entry es 1 0 0 .no])
  | _, _ => none⟩
def E_laws_eqPlanKind : Ent Ty El := ⟨[.ro, .ro], 0, fun a h => match a, h with
  | [.agg [.str name, .int .i64 quick, .int .i64 slow], .agg [.str name', .int .i64 quick', .int .i64 slow']], [] => some (true, .bool (decide ((⟨name, quick, slow⟩ : Kind) = ⟨name', quick', slow'⟩)), [])
  | _, _ => none⟩
def E_laws_eqPlanKindS : Ent Ty El := ⟨[.ro, .ro], 0, fun a h => match a, h with
  | [.sl .kind l, .sl .kind l'], [] => some (tS_PlanKind l, .bool (decide (l = l')), [])
  | _, _ => none⟩
def E_laws_eqPlanPoint : Ent Ty El := ⟨[.ro, .ro], 0, fun a h => match a, h with
  | [.agg [.str name, .int .i64 x, .int .i64 y], .agg [.str name', .int .i64 x', .int .i64 y']], [] => some (true, .bool (decide ((⟨name, x, y⟩ : Point) = ⟨name', x', y'⟩)), [])
  | _, _ => none⟩
def E_laws_eqPlanPointS : Ent Ty El := ⟨[.ro, .ro], 0, fun a h => match a, h with
  | [.sl .point l, .sl .point l'], [] => some (tS_PlanPoint l, .bool (decide (l = l')), [])
  | _, _ => none⟩
def E_laws_eqPlanBase : Ent Ty El := ⟨[.ro, .ro], 0, fun a h => match a, h with
  | [.agg [.sl .kind ks, .sl .point ps], .agg [.sl .kind ks', .sl .point ps']], [] => some (t_PlanBase ks ps, .bool ((decide (ks = ks') && (decide (ps = ps') && true))), [])
  | _, _ => none⟩
def E_laws_eqPlanField : Ent Ty El := ⟨[.ro, .ro], 0, fun a h => match a, h with
  | [.agg [.int .i64 what, .int .i64 number, .str value], .agg [.int .i64 what', .int .i64 number', .str value']], [] => some (true, .bool (decide ((⟨what, number, value⟩ : Fld) = ⟨what', number', value'⟩)), [])
  | _, _ => none⟩
def E_laws_eqPlanFieldS : Ent Ty El := ⟨[.ro, .ro], 0, fun a h => match a, h with
  | [.sl .fld l, .sl .fld l'], [] => some (tS_PlanField l, .bool (decide (l = l')), [])
  | _, _ => none⟩
def E_laws_eqPlanEntry : Ent Ty El := ⟨[.ro, .ro], 0, fun a h => match a, h with
  | [.agg [.str name, .sl .fld fields], .agg [.str name', .sl .fld fields']], [] => some (t_PlanEntry name fields, .bool (decide ((⟨name, fields⟩ : Entry) = ⟨name', fields'⟩)), [])
  | _, _ => none⟩
def E_laws_eqPlanEntryS : Ent Ty El := ⟨[.ro, .ro], 0, fun a h => match a, h with
  | [.sl .entry l, .sl .entry l'], [] => some (tS_PlanEntry l, .bool (decide (l = l')), [])
  | _, _ => none⟩
def E_laws_eqPlanBook : Ent Ty El := ⟨[.ro, .ro], 0, fun a h => match a, h with
  | [.agg [.sl .kind ks, .sl .point ps, .sl .entry es], .agg [.sl .kind ks', .sl .point ps', .sl .entry es']], [] => some (t_PlanBook ks ps es, .bool (((decide (ks = ks') && (decide (ps = ps') && true)) && (decide (es = es') && true))), [])
  | _, _ => none⟩
end Lx
/- How much an argument holds; the arguments made the program's own; how answers are held against each other. -/
set_option linter.unusedVariables false
set_option linter.unusedSimpArgs false
set_option maxRecDepth 4000
namespace Lx
open Go Go.Proofs
/-- laws.szPlanKind -/
noncomputable def R_laws_szPlanKind : RE Ty El := ⟨Tryz.prog, CP, [], Tryz.f248, 0, [], []⟩
theorem R_laws_szPlanKind_ok : REOK R_laws_szPlanKind g_laws_szPlanKind := ⟨CP_ok, EOKnil, by kernel_rfl, by kernel_rfl⟩
theorem t_laws_szPlanKind (name : Str) (quick : Int) (slow : Int) (left : Int) : aRun R_laws_szPlanKind 600 false (body0 R_laws_szPlanKind.fn) (initSt R_laws_szPlanKind.fn [.agg [.str name, .int .i64 quick, .int .i64 slow], .int .i64 left] []) =
  ifb (decide (IntKind.i64.wrap (left - (↑(List.length name) : Int)) < (0 : Int))) (some (.ret (.int .i64 (-1 : Int)) [])) (some (.ret (.int .i64 (IntKind.i64.wrap (left - (↑(List.length name) : Int)))) [])) := by kernel_rfl
theorem c_laws_szPlanKind (name : Str) (quick : Int) (slow : Int) (left : Int) (hg : (ok_PlanKind name quick slow && leftOk left) = true) : CallOK Tryz.prog CP g_laws_szPlanKind [.agg [.str name, .int .i64 quick, .int .i64 slow], .int .i64 left] [] (.int .i64 (szL left (w_PlanKind name quick slow))) [] := by
  refine CallOK.of R_laws_szPlanKind_ok (by kernel_rfl) (t_laws_szPlanKind name quick slow left) ?_
  simp only [ok_PlanKind, Bool.and_eq_true] at hg
  obtain ⟨⟨g0, -⟩, hl⟩ := hg
  rw [w_PlanKind]
  rw [szWrap hl g0]
  by_cases c0 : left - ((name.length : Nat) : Int) < 0
  · rw [decide_eq_true c0]; exact Sat.retI (szL_neg c0).symm rfl
  rw [decide_eq_false c0, szL_add c0]
  simp only [ifb_false]
  have hl0 := leftOk_sub hl c0
  obtain ⟨x0, e0, p0⟩ : ∃ y, left - ((name.length : Nat) : Int) = y ∧ 0 ≤ y := ⟨_, rfl, by omega⟩
  rw [e0] at hl0 ⊢
  exact Sat.retI (szL_zero p0).symm rfl
theorem E_laws_szPlanKind_ok : EntOK Tryz.prog CP g_laws_szPlanKind E_laws_szPlanKind := by
  refine ⟨⟨Tryz.f248, by kernel_rfl, by kernel_rfl, by kernel_rfl⟩, fun args H res H' h => ?_⟩
  simp only [E_laws_szPlanKind] at h
  split at h
  · simp only [Option.some.injEq, Prod.mk.injEq] at h
    obtain ⟨hg, rfl, rfl⟩ := h
    exact c_laws_szPlanKind _ _ _ _ hg
  · cases h

/-- laws.szPlanKindS -/
noncomputable def R_laws_szPlanKindS : RE Ty El := ⟨Tryz.prog, CP, [(g_laws_szPlanKind, E_laws_szPlanKind)], Tryz.f199, 0, [], [(5, [(0, .any), (1, .any), (5, .any)])]⟩
theorem R_laws_szPlanKindS_ok : REOK R_laws_szPlanKindS g_laws_szPlanKindS := ⟨CP_ok, (TabOK.cons E_laws_szPlanKind_ok EOKnil), by kernel_rfl, by kernel_rfl⟩
theorem t_laws_szPlanKindS (l : List Kind) (left : Int) : aRun R_laws_szPlanKindS 600 false (body0 R_laws_szPlanKindS.fn) (initSt R_laws_szPlanKindS.fn [.sl .lkind l, .int .i64 left] []) =
  ifb (decide (IntKind.i64.wrap (left - (↑l.length : Int)) < (0 : Int))) (some (.ret (.int .i64 (-1 : Int)) [])) (some (.go (todoAt R_laws_szPlanKindS.fn 5) [.sl .lkind l, .int .i64 (IntKind.i64.wrap (left - (↑l.length : Int))), .int .i64 (0 : Int)] [])) := by kernel_rfl
theorem t_laws_szPlanKindS_5 (x0 : List (El .lkind)) (x1 : Int) (x2 : Int) : aRun R_laws_szPlanKindS 600 true (todoAt R_laws_szPlanKindS.fn 5) (cutSt R_laws_szPlanKindS.fn (liveOf R_laws_szPlanKindS (todoAt R_laws_szPlanKindS.fn 5)) [.sl .lkind x0, .int .i64 x1, .int .i64 x2] []) =
  ifb (decide (x2 < (↑x0.length : Int))) (ifb (inb x2 x0.length) (ifb (ok_PlanKind (x0.getD x2.toNat (R_laws_szPlanKindS.C.dflt Ty.lkind)).name (x0.getD x2.toNat (R_laws_szPlanKindS.C.dflt Ty.lkind)).quick (x0.getD x2.toNat (R_laws_szPlanKindS.C.dflt Ty.lkind)).slow && leftOk x1) (ifb (decide (szL x1 (w_PlanKind (x0.getD x2.toNat (R_laws_szPlanKindS.C.dflt Ty.lkind)).name (x0.getD x2.toNat (R_laws_szPlanKindS.C.dflt Ty.lkind)).quick (x0.getD x2.toNat (R_laws_szPlanKindS.C.dflt Ty.lkind)).slow) < (0 : Int))) (some (.ret (.int .i64 (-1 : Int)) [])) (some (.go (todoAt R_laws_szPlanKindS.fn 5) [.sl .lkind x0, .int .i64 (szL x1 (w_PlanKind (x0.getD x2.toNat (R_laws_szPlanKindS.C.dflt Ty.lkind)).name (x0.getD x2.toNat (R_laws_szPlanKindS.C.dflt Ty.lkind)).quick (x0.getD x2.toNat (R_laws_szPlanKindS.C.dflt Ty.lkind)).slow)), .int .i64 (IntKind.i64.wrap (x2 + (1 : Int)))] []))) (none)) (none)) (some (.ret (.int .i64 x1) [])) := by kernel_rfl
theorem l_laws_szPlanKindS (l : List Kind) (g0 : lenOk l.length = true) (g1 : l.all (fun z : Kind => ok_PlanKind z.name z.quick z.slow) = true) : ∀ (d i : Nat) (x : Int), i + d = l.length → leftOk x = true → 0 ≤ x →
    Cut R_laws_szPlanKindS g_laws_szPlanKindS 5 [.sl .lkind l, .int .i64 x, .int .i64 (i : Int)] [] (.int .i64 (szL x (sumN (fun z : Kind => w_PlanKind z.name z.quick z.slow) (l.drop i)))) [] := by
  have gl := lenOk_le g0
  intro d
  induction d with
  | zero =>
    intro i x hi hx p
    refine Cut.of R_laws_szPlanKindS_ok rfl (t_laws_szPlanKindS_5 l x i) ?_
    rw [decide_eq_false (by omega), List.drop_of_length_le (by omega)]
    exact Sat.retI (szL_zero p).symm rfl
  | succ d ih =>
    intro i x hi hx p
    refine Cut.of R_laws_szPlanKindS_ok rfl (t_laws_szPlanKindS_5 l x i) ?_
    have hlt : i < l.length := by omega
    have hw : IntKind.wrap .i64 ((i : Int) + 1) = ((i + 1 : Nat) : Int) := by rw [wrap_ok] <;> omega
    have hw1 : IntKind.wrap .i64 ((i : Int) - 1) = (i : Int) - 1 := by rw [wrap_ok] <;> omega
    have hd : l.drop i = l[i] :: l.drop (i + 1) := List.drop_eq_getElem_cons hlt
    have hx0 : l.getD (i : Int).toNat (R_laws_szPlanKindS.C.dflt .lkind) = l[i] := by simp [hlt]
    have hin : inb (i : Int) l.length = true := by simp only [inb, Bool.and_eq_true, decide_eq_true_eq]; omega
    have hlo : decide ((i : Int) < (l.length : Int)) = true := decide_eq_true (by omega)
    have htk := List.take_succ_eq_append_getElem hlt
    have hl : (l.take (i + 1)).getLast? = some l[i] := by rw [List.take_succ_eq_append_getElem hlt, List.getLast?_concat]
    rw [hlo, hin, hx0, hw, hd, sumN_cons]
    simp only [ifb_true]
    have hok := List.all_eq_true.1 g1 l[i] (List.getElem_mem hlt)
    rw [show (ok_PlanKind l[i].name l[i].quick l[i].slow && leftOk x) = true by rw [hok, hx]; rfl]
    simp only [ifb_true]
    by_cases c1 : x - ((w_PlanKind l[i].name l[i].quick l[i].slow : Nat) : Int) < 0
    · rw [szL_lt c1]; exact Sat.retI (szL_neg c1).symm rfl
    rw [szL_ge c1]
    rw [decide_eq_false c1, szL_add c1]
    simp only [ifb_false]
    have hl1 := leftOk_sub hx c1
    obtain ⟨x1, e1, p1⟩ : ∃ y, x - ((w_PlanKind l[i].name l[i].quick l[i].slow : Nat) : Int) = y ∧ 0 ≤ y := ⟨_, rfl, by omega⟩
    rw [e1] at hl1 ⊢
    exact Sat.cut (ih (i + 1) x1 (by omega) hl1 p1)
theorem c_laws_szPlanKindS (l : List Kind) (left : Int) (hg : (okS_PlanKind l && leftOk left) = true) : CallOK Tryz.prog CP g_laws_szPlanKindS [.sl .lkind l, .int .i64 left] [] (.int .i64 (szL left (wS_PlanKind l))) [] := by
  refine CallOK.of R_laws_szPlanKindS_ok (by kernel_rfl) (t_laws_szPlanKindS l left) ?_
  simp only [okS_PlanKind, Bool.and_eq_true] at hg
  obtain ⟨⟨g0, g1⟩, hl⟩ := hg
  rw [wS_PlanKind]
  rw [szWrap hl g0]
  by_cases c0 : left - ((l.length : Nat) : Int) < 0
  · rw [decide_eq_true c0]; exact Sat.retI (szL_neg c0).symm rfl
  rw [decide_eq_false c0, szL_add c0]
  simp only [ifb_false]
  have hl0 := leftOk_sub hl c0
  obtain ⟨x0, e0, p0⟩ : ∃ y, left - ((l.length : Nat) : Int) = y ∧ 0 ≤ y := ⟨_, rfl, by omega⟩
  rw [e0] at hl0 ⊢
  exact Sat.cut (l_laws_szPlanKindS l g0 g1 l.length 0 x0 (by omega) hl0 p0)
theorem E_laws_szPlanKindS_ok : EntOK Tryz.prog CP g_laws_szPlanKindS E_laws_szPlanKindS := by
  refine ⟨⟨Tryz.f199, by kernel_rfl, by kernel_rfl, by kernel_rfl⟩, fun args H res H' h => ?_⟩
  simp only [E_laws_szPlanKindS] at h
  split at h
  · simp only [Option.some.injEq, Prod.mk.injEq] at h
    obtain ⟨hg, rfl, rfl⟩ := h
    exact c_laws_szPlanKindS _ _ hg
  · cases h

/-- laws.szPlanPoint -/
noncomputable def R_laws_szPlanPoint : RE Ty El := ⟨Tryz.prog, CP, [], Tryz.f249, 0, [], []⟩
theorem R_laws_szPlanPoint_ok : REOK R_laws_szPlanPoint g_laws_szPlanPoint := ⟨CP_ok, EOKnil, by kernel_rfl, by kernel_rfl⟩
theorem t_laws_szPlanPoint (name : Str) (x : Int) (y : Int) (left : Int) : aRun R_laws_szPlanPoint 600 false (body0 R_laws_szPlanPoint.fn) (initSt R_laws_szPlanPoint.fn [.agg [.str name, .int .i64 x, .int .i64 y], .int .i64 left] []) =
  ifb (decide (IntKind.i64.wrap (left - (↑(List.length name) : Int)) < (0 : Int))) (some (.ret (.int .i64 (-1 : Int)) [])) (some (.ret (.int .i64 (IntKind.i64.wrap (left - (↑(List.length name) : Int)))) [])) := by kernel_rfl
theorem c_laws_szPlanPoint (name : Str) (x : Int) (y : Int) (left : Int) (hg : (ok_PlanPoint name x y && leftOk left) = true) : CallOK Tryz.prog CP g_laws_szPlanPoint [.agg [.str name, .int .i64 x, .int .i64 y], .int .i64 left] [] (.int .i64 (szL left (w_PlanPoint name x y))) [] := by
  refine CallOK.of R_laws_szPlanPoint_ok (by kernel_rfl) (t_laws_szPlanPoint name x y left) ?_
  simp only [ok_PlanPoint, Bool.and_eq_true] at hg
  obtain ⟨⟨g0, -⟩, hl⟩ := hg
  rw [w_PlanPoint]
  rw [szWrap hl g0]
  by_cases c0 : left - ((name.length : Nat) : Int) < 0
  · rw [decide_eq_true c0]; exact Sat.retI (szL_neg c0).symm rfl
  rw [decide_eq_false c0, szL_add c0]
  simp only [ifb_false]
  have hl0 := leftOk_sub hl c0
  obtain ⟨x0, e0, p0⟩ : ∃ y, left - ((name.length : Nat) : Int) = y ∧ 0 ≤ y := ⟨_, rfl, by omega⟩
  rw [e0] at hl0 ⊢
  exact Sat.retI (szL_zero p0).symm rfl
theorem E_laws_szPlanPoint_ok : EntOK Tryz.prog CP g_laws_szPlanPoint E_laws_szPlanPoint := by
  refine ⟨⟨Tryz.f249, by kernel_rfl, by kernel_rfl, by kernel_rfl⟩, fun args H res H' h => ?_⟩
  simp only [E_laws_szPlanPoint] at h
  split at h
  · simp only [Option.some.injEq, Prod.mk.injEq] at h
    obtain ⟨hg, rfl, rfl⟩ := h
    exact c_laws_szPlanPoint _ _ _ _ hg
  · cases h

/-- laws.szPlanPointS -/
noncomputable def R_laws_szPlanPointS : RE Ty El := ⟨Tryz.prog, CP, [(g_laws_szPlanPoint, E_laws_szPlanPoint)], Tryz.f200, 0, [], [(5, [(0, .any), (1, .any), (5, .any)])]⟩
theorem R_laws_szPlanPointS_ok : REOK R_laws_szPlanPointS g_laws_szPlanPointS := ⟨CP_ok, (TabOK.cons E_laws_szPlanPoint_ok EOKnil), by kernel_rfl, by kernel_rfl⟩
theorem t_laws_szPlanPointS (l : List Point) (left : Int) : aRun R_laws_szPlanPointS 600 false (body0 R_laws_szPlanPointS.fn) (initSt R_laws_szPlanPointS.fn [.sl .lpoint l, .int .i64 left] []) =
  ifb (decide (IntKind.i64.wrap (left - (↑l.length : Int)) < (0 : Int))) (some (.ret (.int .i64 (-1 : Int)) [])) (some (.go (todoAt R_laws_szPlanPointS.fn 5) [.sl .lpoint l, .int .i64 (IntKind.i64.wrap (left - (↑l.length : Int))), .int .i64 (0 : Int)] [])) := by kernel_rfl
theorem t_laws_szPlanPointS_5 (x0 : List (El .lpoint)) (x1 : Int) (x2 : Int) : aRun R_laws_szPlanPointS 600 true (todoAt R_laws_szPlanPointS.fn 5) (cutSt R_laws_szPlanPointS.fn (liveOf R_laws_szPlanPointS (todoAt R_laws_szPlanPointS.fn 5)) [.sl .lpoint x0, .int .i64 x1, .int .i64 x2] []) =
  ifb (decide (x2 < (↑x0.length : Int))) (ifb (inb x2 x0.length) (ifb (ok_PlanPoint (x0.getD x2.toNat (R_laws_szPlanPointS.C.dflt Ty.lpoint)).name (x0.getD x2.toNat (R_laws_szPlanPointS.C.dflt Ty.lpoint)).x (x0.getD x2.toNat (R_laws_szPlanPointS.C.dflt Ty.lpoint)).y && leftOk x1) (ifb (decide (szL x1 (w_PlanPoint (x0.getD x2.toNat (R_laws_szPlanPointS.C.dflt Ty.lpoint)).name (x0.getD x2.toNat (R_laws_szPlanPointS.C.dflt Ty.lpoint)).x (x0.getD x2.toNat (R_laws_szPlanPointS.C.dflt Ty.lpoint)).y) < (0 : Int))) (some (.ret (.int .i64 (-1 : Int)) [])) (some (.go (todoAt R_laws_szPlanPointS.fn 5) [.sl .lpoint x0, .int .i64 (szL x1 (w_PlanPoint (x0.getD x2.toNat (R_laws_szPlanPointS.C.dflt Ty.lpoint)).name (x0.getD x2.toNat (R_laws_szPlanPointS.C.dflt Ty.lpoint)).x (x0.getD x2.toNat (R_laws_szPlanPointS.C.dflt Ty.lpoint)).y)), .int .i64 (IntKind.i64.wrap (x2 + (1 : Int)))] []))) (none)) (none)) (some (.ret (.int .i64 x1) [])) := by kernel_rfl
theorem l_laws_szPlanPointS (l : List Point) (g0 : lenOk l.length = true) (g1 : l.all (fun z : Point => ok_PlanPoint z.name z.x z.y) = true) : ∀ (d i : Nat) (x : Int), i + d = l.length → leftOk x = true → 0 ≤ x →
    Cut R_laws_szPlanPointS g_laws_szPlanPointS 5 [.sl .lpoint l, .int .i64 x, .int .i64 (i : Int)] [] (.int .i64 (szL x (sumN (fun z : Point => w_PlanPoint z.name z.x z.y) (l.drop i)))) [] := by
  have gl := lenOk_le g0
  intro d
  induction d with
  | zero =>
    intro i x hi hx p
    refine Cut.of R_laws_szPlanPointS_ok rfl (t_laws_szPlanPointS_5 l x i) ?_
    rw [decide_eq_false (by omega), List.drop_of_length_le (by omega)]
    exact Sat.retI (szL_zero p).symm rfl
  | succ d ih =>
    intro i x hi hx p
    refine Cut.of R_laws_szPlanPointS_ok rfl (t_laws_szPlanPointS_5 l x i) ?_
    have hlt : i < l.length := by omega
    have hw : IntKind.wrap .i64 ((i : Int) + 1) = ((i + 1 : Nat) : Int) := by rw [wrap_ok] <;> omega
    have hw1 : IntKind.wrap .i64 ((i : Int) - 1) = (i : Int) - 1 := by rw [wrap_ok] <;> omega
    have hd : l.drop i = l[i] :: l.drop (i + 1) := List.drop_eq_getElem_cons hlt
    have hx0 : l.getD (i : Int).toNat (R_laws_szPlanPointS.C.dflt .lpoint) = l[i] := by simp [hlt]
    have hin : inb (i : Int) l.length = true := by simp only [inb, Bool.and_eq_true, decide_eq_true_eq]; omega
    have hlo : decide ((i : Int) < (l.length : Int)) = true := decide_eq_true (by omega)
    have htk := List.take_succ_eq_append_getElem hlt
    have hl : (l.take (i + 1)).getLast? = some l[i] := by rw [List.take_succ_eq_append_getElem hlt, List.getLast?_concat]
    rw [hlo, hin, hx0, hw, hd, sumN_cons]
    simp only [ifb_true]
    have hok := List.all_eq_true.1 g1 l[i] (List.getElem_mem hlt)
    rw [show (ok_PlanPoint l[i].name l[i].x l[i].y && leftOk x) = true by rw [hok, hx]; rfl]
    simp only [ifb_true]
    by_cases c1 : x - ((w_PlanPoint l[i].name l[i].x l[i].y : Nat) : Int) < 0
    · rw [szL_lt c1]; exact Sat.retI (szL_neg c1).symm rfl
    rw [szL_ge c1]
    rw [decide_eq_false c1, szL_add c1]
    simp only [ifb_false]
    have hl1 := leftOk_sub hx c1
    obtain ⟨x1, e1, p1⟩ : ∃ y, x - ((w_PlanPoint l[i].name l[i].x l[i].y : Nat) : Int) = y ∧ 0 ≤ y := ⟨_, rfl, by omega⟩
    rw [e1] at hl1 ⊢
    exact Sat.cut (ih (i + 1) x1 (by omega) hl1 p1)
theorem c_laws_szPlanPointS (l : List Point) (left : Int) (hg : (okS_PlanPoint l && leftOk left) = true) : CallOK Tryz.prog CP g_laws_szPlanPointS [.sl .lpoint l, .int .i64 left] [] (.int .i64 (szL left (wS_PlanPoint l))) [] := by
  refine CallOK.of R_laws_szPlanPointS_ok (by kernel_rfl) (t_laws_szPlanPointS l left) ?_
  simp only [okS_PlanPoint, Bool.and_eq_true] at hg
  obtain ⟨⟨g0, g1⟩, hl⟩ := hg
  rw [wS_PlanPoint]
  rw [szWrap hl g0]
  by_cases c0 : left - ((l.length : Nat) : Int) < 0
  · rw [decide_eq_true c0]; exact Sat.retI (szL_neg c0).symm rfl
  rw [decide_eq_false c0, szL_add c0]
  simp only [ifb_false]
  have hl0 := leftOk_sub hl c0
  obtain ⟨x0, e0, p0⟩ : ∃ y, left - ((l.length : Nat) : Int) = y ∧ 0 ≤ y := ⟨_, rfl, by omega⟩
  rw [e0] at hl0 ⊢
  exact Sat.cut (l_laws_szPlanPointS l g0 g1 l.length 0 x0 (by omega) hl0 p0)
theorem E_laws_szPlanPointS_ok : EntOK Tryz.prog CP g_laws_szPlanPointS E_laws_szPlanPointS := by
  refine ⟨⟨Tryz.f200, by kernel_rfl, by kernel_rfl, by kernel_rfl⟩, fun args H res H' h => ?_⟩
  simp only [E_laws_szPlanPointS] at h
  split at h
  · simp only [Option.some.injEq, Prod.mk.injEq] at h
    obtain ⟨hg, rfl, rfl⟩ := h
    exact c_laws_szPlanPointS _ _ hg
  · cases h

/-- laws.szPlanBase -/
noncomputable def R_laws_szPlanBase : RE Ty El := ⟨Tryz.prog, CP, [(g_laws_szPlanKindS, E_laws_szPlanKindS), (g_laws_szPlanPointS, E_laws_szPlanPointS)], Tryz.f127, 0, [], []⟩
theorem R_laws_szPlanBase_ok : REOK R_laws_szPlanBase g_laws_szPlanBase := ⟨CP_ok, (TabOK.cons E_laws_szPlanKindS_ok (TabOK.cons E_laws_szPlanPointS_ok EOKnil)), by kernel_rfl, by kernel_rfl⟩
theorem t_laws_szPlanBase (ks : List Kind) (ps : List Point) (left : Int) : aRun R_laws_szPlanBase 600 false (body0 R_laws_szPlanBase.fn) (initSt R_laws_szPlanBase.fn [.agg [.sl .lkind ks, .sl .lpoint ps], .int .i64 left] []) =
  ifb (okS_PlanKind ks && leftOk left) (ifb (decide (szL left (wS_PlanKind ks) < (0 : Int))) (some (.ret (.int .i64 (-1 : Int)) [])) (ifb (okS_PlanPoint ps && leftOk (szL left (wS_PlanKind ks))) (ifb (decide (szL (szL left (wS_PlanKind ks)) (wS_PlanPoint ps) < (0 : Int))) (some (.ret (.int .i64 (-1 : Int)) [])) (some (.ret (.int .i64 (szL (szL left (wS_PlanKind ks)) (wS_PlanPoint ps))) []))) (none))) (none) := by kernel_rfl
theorem c_laws_szPlanBase (ks : List Kind) (ps : List Point) (left : Int) (hg : (ok_PlanBase ks ps && leftOk left) = true) : CallOK Tryz.prog CP g_laws_szPlanBase [.agg [.sl .lkind ks, .sl .lpoint ps], .int .i64 left] [] (.int .i64 (szL left (w_PlanBase ks ps))) [] := by
  refine CallOK.of R_laws_szPlanBase_ok (by kernel_rfl) (t_laws_szPlanBase ks ps left) ?_
  simp only [ok_PlanBase, Bool.and_eq_true] at hg
  obtain ⟨⟨g0, g1, -⟩, hl⟩ := hg
  rw [w_PlanBase]
  rw [show (okS_PlanKind ks && leftOk left) = true by rw [g0, hl]; rfl]
  simp only [ifb_true]
  by_cases c0 : left - ((wS_PlanKind ks : Nat) : Int) < 0
  · rw [szL_lt c0]; exact Sat.retI (szL_neg c0).symm rfl
  rw [szL_ge c0]
  rw [decide_eq_false c0, szL_add c0]
  simp only [ifb_false]
  have hl0 := leftOk_sub hl c0
  obtain ⟨x0, e0, p0⟩ : ∃ y, left - ((wS_PlanKind ks : Nat) : Int) = y ∧ 0 ≤ y := ⟨_, rfl, by omega⟩
  rw [e0] at hl0 ⊢
  rw [show (okS_PlanPoint ps && leftOk x0) = true by rw [g1, hl0]; rfl]
  simp only [ifb_true]
  by_cases c1 : x0 - ((wS_PlanPoint ps : Nat) : Int) < 0
  · rw [szL_lt c1]; exact Sat.retI (szL_neg c1).symm rfl
  rw [szL_ge c1]
  rw [decide_eq_false c1, szL_add c1]
  simp only [ifb_false]
  have hl1 := leftOk_sub hl0 c1
  obtain ⟨x1, e1, p1⟩ : ∃ y, x0 - ((wS_PlanPoint ps : Nat) : Int) = y ∧ 0 ≤ y := ⟨_, rfl, by omega⟩
  rw [e1] at hl1 ⊢
  exact Sat.retI (szL_zero p1).symm rfl
theorem E_laws_szPlanBase_ok : EntOK Tryz.prog CP g_laws_szPlanBase E_laws_szPlanBase := by
  refine ⟨⟨Tryz.f127, by kernel_rfl, by kernel_rfl, by kernel_rfl⟩, fun args H res H' h => ?_⟩
  simp only [E_laws_szPlanBase] at h
  split at h
  · simp only [Option.some.injEq, Prod.mk.injEq] at h
    obtain ⟨hg, rfl, rfl⟩ := h
    exact c_laws_szPlanBase _ _ _ hg
  · cases h

/-- laws.szPlanField -/
noncomputable def R_laws_szPlanField : RE Ty El := ⟨Tryz.prog, CP, [], Tryz.f298, 0, [], []⟩
theorem R_laws_szPlanField_ok : REOK R_laws_szPlanField g_laws_szPlanField := ⟨CP_ok, EOKnil, by kernel_rfl, by kernel_rfl⟩
theorem t_laws_szPlanField (what : Int) (number : Int) (value : Str) (left : Int) : aRun R_laws_szPlanField 600 false (body0 R_laws_szPlanField.fn) (initSt R_laws_szPlanField.fn [.agg [.int .i64 what, .int .i64 number, .str value], .int .i64 left] []) =
  ifb (decide (IntKind.i64.wrap (left - (↑(List.length value) : Int)) < (0 : Int))) (some (.ret (.int .i64 (-1 : Int)) [])) (some (.ret (.int .i64 (IntKind.i64.wrap (left - (↑(List.length value) : Int)))) [])) := by kernel_rfl
theorem c_laws_szPlanField (what : Int) (number : Int) (value : Str) (left : Int) (hg : (ok_PlanField what number value && leftOk left) = true) : CallOK Tryz.prog CP g_laws_szPlanField [.agg [.int .i64 what, .int .i64 number, .str value], .int .i64 left] [] (.int .i64 (szL left (w_PlanField what number value))) [] := by
  refine CallOK.of R_laws_szPlanField_ok (by kernel_rfl) (t_laws_szPlanField what number value left) ?_
  simp only [ok_PlanField, Bool.and_eq_true] at hg
  obtain ⟨⟨g0, -⟩, hl⟩ := hg
  rw [w_PlanField]
  rw [szWrap hl g0]
  by_cases c0 : left - ((value.length : Nat) : Int) < 0
  · rw [decide_eq_true c0]; exact Sat.retI (szL_neg c0).symm rfl
  rw [decide_eq_false c0, szL_add c0]
  simp only [ifb_false]
  have hl0 := leftOk_sub hl c0
  obtain ⟨x0, e0, p0⟩ : ∃ y, left - ((value.length : Nat) : Int) = y ∧ 0 ≤ y := ⟨_, rfl, by omega⟩
  rw [e0] at hl0 ⊢
  exact Sat.retI (szL_zero p0).symm rfl
theorem E_laws_szPlanField_ok : EntOK Tryz.prog CP g_laws_szPlanField E_laws_szPlanField := by
  refine ⟨⟨Tryz.f298, by kernel_rfl, by kernel_rfl, by kernel_rfl⟩, fun args H res H' h => ?_⟩
  simp only [E_laws_szPlanField] at h
  split at h
  · simp only [Option.some.injEq, Prod.mk.injEq] at h
    obtain ⟨hg, rfl, rfl⟩ := h
    exact c_laws_szPlanField _ _ _ _ hg
  · cases h

/-- laws.szPlanFieldS -/
noncomputable def R_laws_szPlanFieldS : RE Ty El := ⟨Tryz.prog, CP, [(g_laws_szPlanField, E_laws_szPlanField)], Tryz.f250, 0, [], [(5, [(0, .any), (1, .any), (5, .any)])]⟩
theorem R_laws_szPlanFieldS_ok : REOK R_laws_szPlanFieldS g_laws_szPlanFieldS := ⟨CP_ok, (TabOK.cons E_laws_szPlanField_ok EOKnil), by kernel_rfl, by kernel_rfl⟩
theorem t_laws_szPlanFieldS (l : List Fld) (left : Int) : aRun R_laws_szPlanFieldS 600 false (body0 R_laws_szPlanFieldS.fn) (initSt R_laws_szPlanFieldS.fn [.sl .lfld l, .int .i64 left] []) =
  ifb (decide (IntKind.i64.wrap (left - (↑l.length : Int)) < (0 : Int))) (some (.ret (.int .i64 (-1 : Int)) [])) (some (.go (todoAt R_laws_szPlanFieldS.fn 5) [.sl .lfld l, .int .i64 (IntKind.i64.wrap (left - (↑l.length : Int))), .int .i64 (0 : Int)] [])) := by kernel_rfl
theorem t_laws_szPlanFieldS_5 (x0 : List (El .lfld)) (x1 : Int) (x2 : Int) : aRun R_laws_szPlanFieldS 600 true (todoAt R_laws_szPlanFieldS.fn 5) (cutSt R_laws_szPlanFieldS.fn (liveOf R_laws_szPlanFieldS (todoAt R_laws_szPlanFieldS.fn 5)) [.sl .lfld x0, .int .i64 x1, .int .i64 x2] []) =
  ifb (decide (x2 < (↑x0.length : Int))) (ifb (inb x2 x0.length) (ifb (ok_PlanField (x0.getD x2.toNat (R_laws_szPlanFieldS.C.dflt Ty.lfld)).what (x0.getD x2.toNat (R_laws_szPlanFieldS.C.dflt Ty.lfld)).number (x0.getD x2.toNat (R_laws_szPlanFieldS.C.dflt Ty.lfld)).value && leftOk x1) (ifb (decide (szL x1 (w_PlanField (x0.getD x2.toNat (R_laws_szPlanFieldS.C.dflt Ty.lfld)).what (x0.getD x2.toNat (R_laws_szPlanFieldS.C.dflt Ty.lfld)).number (x0.getD x2.toNat (R_laws_szPlanFieldS.C.dflt Ty.lfld)).value) < (0 : Int))) (some (.ret (.int .i64 (-1 : Int)) [])) (some (.go (todoAt R_laws_szPlanFieldS.fn 5) [.sl .lfld x0, .int .i64 (szL x1 (w_PlanField (x0.getD x2.toNat (R_laws_szPlanFieldS.C.dflt Ty.lfld)).what (x0.getD x2.toNat (R_laws_szPlanFieldS.C.dflt Ty.lfld)).number (x0.getD x2.toNat (R_laws_szPlanFieldS.C.dflt Ty.lfld)).value)), .int .i64 (IntKind.i64.wrap (x2 + (1 : Int)))] []))) (none)) (none)) (some (.ret (.int .i64 x1) [])) := by kernel_rfl
theorem l_laws_szPlanFieldS (l : List Fld) (g0 : lenOk l.length = true) (g1 : l.all (fun z : Fld => ok_PlanField z.what z.number z.value) = true) : ∀ (d i : Nat) (x : Int), i + d = l.length → leftOk x = true → 0 ≤ x →
    Cut R_laws_szPlanFieldS g_laws_szPlanFieldS 5 [.sl .lfld l, .int .i64 x, .int .i64 (i : Int)] [] (.int .i64 (szL x (sumN (fun z : Fld => w_PlanField z.what z.number z.value) (l.drop i)))) [] := by
  have gl := lenOk_le g0
  intro d
  induction d with
  | zero =>
    intro i x hi hx p
    refine Cut.of R_laws_szPlanFieldS_ok rfl (t_laws_szPlanFieldS_5 l x i) ?_
    rw [decide_eq_false (by omega), List.drop_of_length_le (by omega)]
    exact Sat.retI (szL_zero p).symm rfl
  | succ d ih =>
    intro i x hi hx p
    refine Cut.of R_laws_szPlanFieldS_ok rfl (t_laws_szPlanFieldS_5 l x i) ?_
    have hlt : i < l.length := by omega
    have hw : IntKind.wrap .i64 ((i : Int) + 1) = ((i + 1 : Nat) : Int) := by rw [wrap_ok] <;> omega
    have hw1 : IntKind.wrap .i64 ((i : Int) - 1) = (i : Int) - 1 := by rw [wrap_ok] <;> omega
    have hd : l.drop i = l[i] :: l.drop (i + 1) := List.drop_eq_getElem_cons hlt
    have hx0 : l.getD (i : Int).toNat (R_laws_szPlanFieldS.C.dflt .lfld) = l[i] := by simp [hlt]
    have hin : inb (i : Int) l.length = true := by simp only [inb, Bool.and_eq_true, decide_eq_true_eq]; omega
    have hlo : decide ((i : Int) < (l.length : Int)) = true := decide_eq_true (by omega)
    have htk := List.take_succ_eq_append_getElem hlt
    have hl : (l.take (i + 1)).getLast? = some l[i] := by rw [List.take_succ_eq_append_getElem hlt, List.getLast?_concat]
    rw [hlo, hin, hx0, hw, hd, sumN_cons]
    simp only [ifb_true]
    have hok := List.all_eq_true.1 g1 l[i] (List.getElem_mem hlt)
    rw [show (ok_PlanField l[i].what l[i].number l[i].value && leftOk x) = true by rw [hok, hx]; rfl]
    simp only [ifb_true]
    by_cases c1 : x - ((w_PlanField l[i].what l[i].number l[i].value : Nat) : Int) < 0
    · rw [szL_lt c1]; exact Sat.retI (szL_neg c1).symm rfl
    rw [szL_ge c1]
    rw [decide_eq_false c1, szL_add c1]
    simp only [ifb_false]
    have hl1 := leftOk_sub hx c1
    obtain ⟨x1, e1, p1⟩ : ∃ y, x - ((w_PlanField l[i].what l[i].number l[i].value : Nat) : Int) = y ∧ 0 ≤ y := ⟨_, rfl, by omega⟩
    rw [e1] at hl1 ⊢
    exact Sat.cut (ih (i + 1) x1 (by omega) hl1 p1)
theorem c_laws_szPlanFieldS (l : List Fld) (left : Int) (hg : (okS_PlanField l && leftOk left) = true) : CallOK Tryz.prog CP g_laws_szPlanFieldS [.sl .lfld l, .int .i64 left] [] (.int .i64 (szL left (wS_PlanField l))) [] := by
  refine CallOK.of R_laws_szPlanFieldS_ok (by kernel_rfl) (t_laws_szPlanFieldS l left) ?_
  simp only [okS_PlanField, Bool.and_eq_true] at hg
  obtain ⟨⟨g0, g1⟩, hl⟩ := hg
  rw [wS_PlanField]
  rw [szWrap hl g0]
  by_cases c0 : left - ((l.length : Nat) : Int) < 0
  · rw [decide_eq_true c0]; exact Sat.retI (szL_neg c0).symm rfl
  rw [decide_eq_false c0, szL_add c0]
  simp only [ifb_false]
  have hl0 := leftOk_sub hl c0
  obtain ⟨x0, e0, p0⟩ : ∃ y, left - ((l.length : Nat) : Int) = y ∧ 0 ≤ y := ⟨_, rfl, by omega⟩
  rw [e0] at hl0 ⊢
  exact Sat.cut (l_laws_szPlanFieldS l g0 g1 l.length 0 x0 (by omega) hl0 p0)
theorem E_laws_szPlanFieldS_ok : EntOK Tryz.prog CP g_laws_szPlanFieldS E_laws_szPlanFieldS := by
  refine ⟨⟨Tryz.f250, by kernel_rfl, by kernel_rfl, by kernel_rfl⟩, fun args H res H' h => ?_⟩
  simp only [E_laws_szPlanFieldS] at h
  split at h
  · simp only [Option.some.injEq, Prod.mk.injEq] at h
    obtain ⟨hg, rfl, rfl⟩ := h
    exact c_laws_szPlanFieldS _ _ hg
  · cases h

/-- laws.szPlanEntry -/
noncomputable def R_laws_szPlanEntry : RE Ty El := ⟨Tryz.prog, CP, [(g_laws_szPlanFieldS, E_laws_szPlanFieldS)], Tryz.f201, 0, [], []⟩
theorem R_laws_szPlanEntry_ok : REOK R_laws_szPlanEntry g_laws_szPlanEntry := ⟨CP_ok, (TabOK.cons E_laws_szPlanFieldS_ok EOKnil), by kernel_rfl, by kernel_rfl⟩
theorem t_laws_szPlanEntry (name : Str) (fields : List Fld) (left : Int) : aRun R_laws_szPlanEntry 600 false (body0 R_laws_szPlanEntry.fn) (initSt R_laws_szPlanEntry.fn [.agg [.str name, .sl .lfld fields], .int .i64 left] []) =
  ifb (decide (IntKind.i64.wrap (left - (↑(List.length name) : Int)) < (0 : Int))) (some (.ret (.int .i64 (-1 : Int)) [])) (ifb (okS_PlanField fields && leftOk (IntKind.i64.wrap (left - (↑(List.length name) : Int)))) (ifb (decide (szL (IntKind.i64.wrap (left - (↑(List.length name) : Int))) (wS_PlanField fields) < (0 : Int))) (some (.ret (.int .i64 (-1 : Int)) [])) (some (.ret (.int .i64 (szL (IntKind.i64.wrap (left - (↑(List.length name) : Int))) (wS_PlanField fields))) []))) (none)) := by kernel_rfl
theorem c_laws_szPlanEntry (name : Str) (fields : List Fld) (left : Int) (hg : (ok_PlanEntry name fields && leftOk left) = true) : CallOK Tryz.prog CP g_laws_szPlanEntry [.agg [.str name, .sl .lfld fields], .int .i64 left] [] (.int .i64 (szL left (w_PlanEntry name fields))) [] := by
  refine CallOK.of R_laws_szPlanEntry_ok (by kernel_rfl) (t_laws_szPlanEntry name fields left) ?_
  simp only [ok_PlanEntry, Bool.and_eq_true] at hg
  obtain ⟨⟨g0, g1, -⟩, hl⟩ := hg
  rw [w_PlanEntry]
  rw [szWrap hl g0]
  by_cases c0 : left - ((name.length : Nat) : Int) < 0
  · rw [decide_eq_true c0]; exact Sat.retI (szL_neg c0).symm rfl
  rw [decide_eq_false c0, szL_add c0]
  simp only [ifb_false]
  have hl0 := leftOk_sub hl c0
  obtain ⟨x0, e0, p0⟩ : ∃ y, left - ((name.length : Nat) : Int) = y ∧ 0 ≤ y := ⟨_, rfl, by omega⟩
  rw [e0] at hl0 ⊢
  rw [show (okS_PlanField fields && leftOk x0) = true by rw [g1, hl0]; rfl]
  simp only [ifb_true]
  by_cases c1 : x0 - ((wS_PlanField fields : Nat) : Int) < 0
  · rw [szL_lt c1]; exact Sat.retI (szL_neg c1).symm rfl
  rw [szL_ge c1]
  rw [decide_eq_false c1, szL_add c1]
  simp only [ifb_false]
  have hl1 := leftOk_sub hl0 c1
  obtain ⟨x1, e1, p1⟩ : ∃ y, x0 - ((wS_PlanField fields : Nat) : Int) = y ∧ 0 ≤ y := ⟨_, rfl, by omega⟩
  rw [e1] at hl1 ⊢
  exact Sat.retI (szL_zero p1).symm rfl
theorem E_laws_szPlanEntry_ok : EntOK Tryz.prog CP g_laws_szPlanEntry E_laws_szPlanEntry := by
  refine ⟨⟨Tryz.f201, by kernel_rfl, by kernel_rfl, by kernel_rfl⟩, fun args H res H' h => ?_⟩
  simp only [E_laws_szPlanEntry] at h
  split at h
  · simp only [Option.some.injEq, Prod.mk.injEq] at h
    obtain ⟨hg, rfl, rfl⟩ := h
    exact c_laws_szPlanEntry _ _ _ hg
  · cases h

/-- laws.szPlanEntryS -/
noncomputable def R_laws_szPlanEntryS : RE Ty El := ⟨Tryz.prog, CP, [(g_laws_szPlanEntry, E_laws_szPlanEntry)], Tryz.f128, 0, [], [(5, [(0, .any), (1, .any), (5, .any)])]⟩
theorem R_laws_szPlanEntryS_ok : REOK R_laws_szPlanEntryS g_laws_szPlanEntryS := ⟨CP_ok, (TabOK.cons E_laws_szPlanEntry_ok EOKnil), by kernel_rfl, by kernel_rfl⟩
theorem t_laws_szPlanEntryS (l : List Entry) (left : Int) : aRun R_laws_szPlanEntryS 600 false (body0 R_laws_szPlanEntryS.fn) (initSt R_laws_szPlanEntryS.fn [.sl .lentry l, .int .i64 left] []) =
  ifb (decide (IntKind.i64.wrap (left - (↑l.length : Int)) < (0 : Int))) (some (.ret (.int .i64 (-1 : Int)) [])) (some (.go (todoAt R_laws_szPlanEntryS.fn 5) [.sl .lentry l, .int .i64 (IntKind.i64.wrap (left - (↑l.length : Int))), .int .i64 (0 : Int)] [])) := by kernel_rfl
theorem t_laws_szPlanEntryS_5 (x0 : List (El .lentry)) (x1 : Int) (x2 : Int) : aRun R_laws_szPlanEntryS 600 true (todoAt R_laws_szPlanEntryS.fn 5) (cutSt R_laws_szPlanEntryS.fn (liveOf R_laws_szPlanEntryS (todoAt R_laws_szPlanEntryS.fn 5)) [.sl .lentry x0, .int .i64 x1, .int .i64 x2] []) =
  ifb (decide (x2 < (↑x0.length : Int))) (ifb (inb x2 x0.length) (ifb (ok_PlanEntry (x0.getD x2.toNat (R_laws_szPlanEntryS.C.dflt Ty.lentry)).name (x0.getD x2.toNat (R_laws_szPlanEntryS.C.dflt Ty.lentry)).fields && leftOk x1) (ifb (decide (szL x1 (w_PlanEntry (x0.getD x2.toNat (R_laws_szPlanEntryS.C.dflt Ty.lentry)).name (x0.getD x2.toNat (R_laws_szPlanEntryS.C.dflt Ty.lentry)).fields) < (0 : Int))) (some (.ret (.int .i64 (-1 : Int)) [])) (some (.go (todoAt R_laws_szPlanEntryS.fn 5) [.sl .lentry x0, .int .i64 (szL x1 (w_PlanEntry (x0.getD x2.toNat (R_laws_szPlanEntryS.C.dflt Ty.lentry)).name (x0.getD x2.toNat (R_laws_szPlanEntryS.C.dflt Ty.lentry)).fields)), .int .i64 (IntKind.i64.wrap (x2 + (1 : Int)))] []))) (none)) (none)) (some (.ret (.int .i64 x1) [])) := by kernel_rfl
theorem l_laws_szPlanEntryS (l : List Entry) (g0 : lenOk l.length = true) (g1 : l.all (fun z : Entry => ok_PlanEntry z.name z.fields) = true) : ∀ (d i : Nat) (x : Int), i + d = l.length → leftOk x = true → 0 ≤ x →
    Cut R_laws_szPlanEntryS g_laws_szPlanEntryS 5 [.sl .lentry l, .int .i64 x, .int .i64 (i : Int)] [] (.int .i64 (szL x (sumN (fun z : Entry => w_PlanEntry z.name z.fields) (l.drop i)))) [] := by
  have gl := lenOk_le g0
  intro d
  induction d with
  | zero =>
    intro i x hi hx p
    refine Cut.of R_laws_szPlanEntryS_ok rfl (t_laws_szPlanEntryS_5 l x i) ?_
    rw [decide_eq_false (by omega), List.drop_of_length_le (by omega)]
    exact Sat.retI (szL_zero p).symm rfl
  | succ d ih =>
    intro i x hi hx p
    refine Cut.of R_laws_szPlanEntryS_ok rfl (t_laws_szPlanEntryS_5 l x i) ?_
    have hlt : i < l.length := by omega
    have hw : IntKind.wrap .i64 ((i : Int) + 1) = ((i + 1 : Nat) : Int) := by rw [wrap_ok] <;> omega
    have hw1 : IntKind.wrap .i64 ((i : Int) - 1) = (i : Int) - 1 := by rw [wrap_ok] <;> omega
    have hd : l.drop i = l[i] :: l.drop (i + 1) := List.drop_eq_getElem_cons hlt
    have hx0 : l.getD (i : Int).toNat (R_laws_szPlanEntryS.C.dflt .lentry) = l[i] := by simp [hlt]
    have hin : inb (i : Int) l.length = true := by simp only [inb, Bool.and_eq_true, decide_eq_true_eq]; omega
    have hlo : decide ((i : Int) < (l.length : Int)) = true := decide_eq_true (by omega)
    have htk := List.take_succ_eq_append_getElem hlt
    have hl : (l.take (i + 1)).getLast? = some l[i] := by rw [List.take_succ_eq_append_getElem hlt, List.getLast?_concat]
    rw [hlo, hin, hx0, hw, hd, sumN_cons]
    simp only [ifb_true]
    have hok := List.all_eq_true.1 g1 l[i] (List.getElem_mem hlt)
    rw [show (ok_PlanEntry l[i].name l[i].fields && leftOk x) = true by rw [hok, hx]; rfl]
    simp only [ifb_true]
    by_cases c1 : x - ((w_PlanEntry l[i].name l[i].fields : Nat) : Int) < 0
    · rw [szL_lt c1]; exact Sat.retI (szL_neg c1).symm rfl
    rw [szL_ge c1]
    rw [decide_eq_false c1, szL_add c1]
    simp only [ifb_false]
    have hl1 := leftOk_sub hx c1
    obtain ⟨x1, e1, p1⟩ : ∃ y, x - ((w_PlanEntry l[i].name l[i].fields : Nat) : Int) = y ∧ 0 ≤ y := ⟨_, rfl, by omega⟩
    rw [e1] at hl1 ⊢
    exact Sat.cut (ih (i + 1) x1 (by omega) hl1 p1)
theorem c_laws_szPlanEntryS (l : List Entry) (left : Int) (hg : (okS_PlanEntry l && leftOk left) = true) : CallOK Tryz.prog CP g_laws_szPlanEntryS [.sl .lentry l, .int .i64 left] [] (.int .i64 (szL left (wS_PlanEntry l))) [] := by
  refine CallOK.of R_laws_szPlanEntryS_ok (by kernel_rfl) (t_laws_szPlanEntryS l left) ?_
  simp only [okS_PlanEntry, Bool.and_eq_true] at hg
  obtain ⟨⟨g0, g1⟩, hl⟩ := hg
  rw [wS_PlanEntry]
  rw [szWrap hl g0]
  by_cases c0 : left - ((l.length : Nat) : Int) < 0
  · rw [decide_eq_true c0]; exact Sat.retI (szL_neg c0).symm rfl
  rw [decide_eq_false c0, szL_add c0]
  simp only [ifb_false]
  have hl0 := leftOk_sub hl c0
  obtain ⟨x0, e0, p0⟩ : ∃ y, left - ((l.length : Nat) : Int) = y ∧ 0 ≤ y := ⟨_, rfl, by omega⟩
  rw [e0] at hl0 ⊢
  exact Sat.cut (l_laws_szPlanEntryS l g0 g1 l.length 0 x0 (by omega) hl0 p0)
theorem E_laws_szPlanEntryS_ok : EntOK Tryz.prog CP g_laws_szPlanEntryS E_laws_szPlanEntryS := by
  refine ⟨⟨Tryz.f128, by kernel_rfl, by kernel_rfl, by kernel_rfl⟩, fun args H res H' h => ?_⟩
  simp only [E_laws_szPlanEntryS] at h
  split at h
  · simp only [Option.some.injEq, Prod.mk.injEq] at h
    obtain ⟨hg, rfl, rfl⟩ := h
    exact c_laws_szPlanEntryS _ _ hg
  · cases h

/-- laws.szPlanBook -/
noncomputable def R_laws_szPlanBook : RE Ty El := ⟨Tryz.prog, CP, [(g_laws_szPlanBase, E_laws_szPlanBase), (g_laws_szPlanEntryS, E_laws_szPlanEntryS)], Tryz.f38, 0, [], []⟩
theorem R_laws_szPlanBook_ok : REOK R_laws_szPlanBook g_laws_szPlanBook := ⟨CP_ok, (TabOK.cons E_laws_szPlanBase_ok (TabOK.cons E_laws_szPlanEntryS_ok EOKnil)), by kernel_rfl, by kernel_rfl⟩
theorem t_laws_szPlanBook (ks : List Kind) (ps : List Point) (es : List Entry) (left : Int) : aRun R_laws_szPlanBook 600 false (body0 R_laws_szPlanBook.fn) (initSt R_laws_szPlanBook.fn [.agg [.sl .lkind ks, .sl .lpoint ps, .sl .lentry es], .int .i64 left] []) =
  ifb (ok_PlanBase ks ps && leftOk left) (ifb (decide (szL left (w_PlanBase ks ps) < (0 : Int))) (some (.ret (.int .i64 (-1 : Int)) [])) (ifb (okS_PlanEntry es && leftOk (szL left (w_PlanBase ks ps))) (ifb (decide (szL (szL left (w_PlanBase ks ps)) (wS_PlanEntry es) < (0 : Int))) (some (.ret (.int .i64 (-1 : Int)) [])) (some (.ret (.int .i64 (szL (szL left (w_PlanBase ks ps)) (wS_PlanEntry es))) []))) (none))) (none) := by kernel_rfl
theorem c_laws_szPlanBook (ks : List Kind) (ps : List Point) (es : List Entry) (left : Int) (hg : (ok_PlanBook ks ps es && leftOk left) = true) : CallOK Tryz.prog CP g_laws_szPlanBook [.agg [.sl .lkind ks, .sl .lpoint ps, .sl .lentry es], .int .i64 left] [] (.int .i64 (szL left (w_PlanBook ks ps es))) [] := by
  refine CallOK.of R_laws_szPlanBook_ok (by kernel_rfl) (t_laws_szPlanBook ks ps es left) ?_
  simp only [ok_PlanBook, Bool.and_eq_true] at hg
  obtain ⟨⟨g0, g1, -⟩, hl⟩ := hg
  rw [w_PlanBook]
  rw [show (ok_PlanBase ks ps && leftOk left) = true by rw [g0, hl]; rfl]
  simp only [ifb_true]
  by_cases c0 : left - ((w_PlanBase ks ps : Nat) : Int) < 0
  · rw [szL_lt c0]; exact Sat.retI (szL_neg c0).symm rfl
  rw [szL_ge c0]
  rw [decide_eq_false c0, szL_add c0]
  simp only [ifb_false]
  have hl0 := leftOk_sub hl c0
  obtain ⟨x0, e0, p0⟩ : ∃ y, left - ((w_PlanBase ks ps : Nat) : Int) = y ∧ 0 ≤ y := ⟨_, rfl, by omega⟩
  rw [e0] at hl0 ⊢
  rw [show (okS_PlanEntry es && leftOk x0) = true by rw [g1, hl0]; rfl]
  simp only [ifb_true]
  by_cases c1 : x0 - ((wS_PlanEntry es : Nat) : Int) < 0
  · rw [szL_lt c1]; exact Sat.retI (szL_neg c1).symm rfl
  rw [szL_ge c1]
  rw [decide_eq_false c1, szL_add c1]
  simp only [ifb_false]
  have hl1 := leftOk_sub hl0 c1
  obtain ⟨x1, e1, p1⟩ : ∃ y, x0 - ((wS_PlanEntry es : Nat) : Int) = y ∧ 0 ≤ y := ⟨_, rfl, by omega⟩
  rw [e1] at hl1 ⊢
  exact Sat.retI (szL_zero p1).symm rfl
theorem E_laws_szPlanBook_ok : EntOK Tryz.prog CP g_laws_szPlanBook E_laws_szPlanBook := by
  refine ⟨⟨Tryz.f38, by kernel_rfl, by kernel_rfl, by kernel_rfl⟩, fun args H res H' h => ?_⟩
  simp only [E_laws_szPlanBook] at h
  split at h
  · simp only [Option.some.injEq, Prod.mk.injEq] at h
    obtain ⟨hg, rfl, rfl⟩ := h
    exact c_laws_szPlanBook _ _ _ _ hg
  · cases h

/-- laws.toPlanKind -/
noncomputable def R_laws_toPlanKind : RE Ty El := ⟨Tryz.prog, CP, [], Tryz.f251, 0, [], []⟩
theorem R_laws_toPlanKind_ok : REOK R_laws_toPlanKind g_laws_toPlanKind := ⟨CP_ok, EOKnil, by kernel_rfl, by kernel_rfl⟩
theorem t_laws_toPlanKind (name : Str) (quick : Int) (slow : Int) : aRun R_laws_toPlanKind 600 false (body0 R_laws_toPlanKind.fn) (initSt R_laws_toPlanKind.fn [.agg [.str name, .int .i64 quick, .int .i64 slow]] []) =
  some (.ret (.agg [.str name, .int .i64 quick, .int .i64 slow]) []) := by kernel_rfl
theorem c_laws_toPlanKind (name : Str) (quick : Int) (slow : Int) : CallOK Tryz.prog CP g_laws_toPlanKind [.agg [.str name, .int .i64 quick, .int .i64 slow]] [] (.agg [.str name, .int .i64 quick, .int .i64 slow]) [] := by
  refine CallOK.of R_laws_toPlanKind_ok (by kernel_rfl) (t_laws_toPlanKind name quick slow) ?_
  exact Sat.ret rfl rfl
theorem E_laws_toPlanKind_ok : EntOK Tryz.prog CP g_laws_toPlanKind E_laws_toPlanKind := by
  refine ⟨⟨Tryz.f251, by kernel_rfl, by kernel_rfl, by kernel_rfl⟩, fun args H res H' h => ?_⟩
  simp only [E_laws_toPlanKind] at h
  split at h
  · simp only [Option.some.injEq, Prod.mk.injEq] at h
    obtain ⟨hg, rfl, rfl⟩ := h
    exact c_laws_toPlanKind _ _ _
  · cases h

/-- laws.toPlanKindS -/
noncomputable def R_laws_toPlanKindS : RE Ty El := ⟨Tryz.prog, CP, [(g_laws_toPlanKind, E_laws_toPlanKind)], Tryz.f202, 0, [], [(3, [(0, .any), (3, .any), (4, .any)])]⟩
theorem R_laws_toPlanKindS_ok : REOK R_laws_toPlanKindS g_laws_toPlanKindS := ⟨CP_ok, (TabOK.cons E_laws_toPlanKind_ok EOKnil), by kernel_rfl, by kernel_rfl⟩
theorem t_laws_toPlanKindS (l : List Kind) : aRun R_laws_toPlanKindS 600 false (body0 R_laws_toPlanKindS.fn) (initSt R_laws_toPlanKindS.fn [.sl .lkind l] []) =
  ifb (decide ((0 : Int) ≤ (↑l.length : Int)) && (decide ((↑l.length : Int) = (↑l.length : Int)) && decide ((↑(bytesOf' R_laws_toPlanKindS.P (40 : Nat)) : Int) * (↑l.length : Int) ≤ (281474976710656 : Int)))) (some (.go (todoAt R_laws_toPlanKindS.fn 3) [.sl .lkind l, .own 0 [] 0, .int .i64 (0 : Int)] [.row .kind (List.replicate (↑l.length : Int).toNat (R_laws_toPlanKindS.C.dflt Ty.kind)) 0 0 0 .no])) (none) := by kernel_rfl
theorem t_laws_toPlanKindS_3 (x0 : List (El .lkind)) (x1 : Int) (x2 : List (El .kind)) : aRun R_laws_toPlanKindS 600 true (todoAt R_laws_toPlanKindS.fn 3) (cutSt R_laws_toPlanKindS.fn (liveOf R_laws_toPlanKindS (todoAt R_laws_toPlanKindS.fn 3)) [.sl .lkind x0, .own 0 [] 0, .int .i64 x1] [.row .kind x2 0 0 0 .no]) =
  ifb (decide (x1 < (↑x0.length : Int))) (ifb (inb x1 x0.length) (ifb (inb x1 x2.length) (some (.go (todoAt R_laws_toPlanKindS.fn 3) [.sl .lkind x0, .own 0 [] 0, .int .i64 (IntKind.i64.wrap (x1 + (1 : Int)))] [.row .kind (x2.set x1.toNat (x0.getD x1.toNat (R_laws_toPlanKindS.C.dflt Ty.lkind))) 0 0 0 .no])) (none)) (none)) (some (.ret (.own 0 [] 0) [.row .kind x2 0 0 0 .no])) := by kernel_rfl
theorem l_laws_toPlanKindS (l : List Kind) (g0 : l.length ≤ 1000000000) (g1 : True) : ∀ (d i : Nat), i + d = l.length →
    Cut R_laws_toPlanKindS g_laws_toPlanKindS 3 [.sl .lkind l, .own 0 [] 0, .int .i64 (i : Int)] [.row .kind (l.take i ++ List.replicate d (R_laws_toPlanKindS.C.dflt .kind)) 0 0 0 .no] (.own 0 [] 0) [.row .kind l 0 0 0 .no] := by
  intro d
  induction d with
  | zero =>
    intro i hi
    refine Cut.of R_laws_toPlanKindS_ok rfl (t_laws_toPlanKindS_3 l i _) ?_
    rw [decide_eq_false (by omega), List.take_of_length_le (by omega)]
    refine Sat.ret rfl ?_
    simp
  | succ d ih =>
    intro i hi
    refine Cut.of R_laws_toPlanKindS_ok rfl (t_laws_toPlanKindS_3 l i _) ?_
    have hlt : i < l.length := by omega
    have hw : IntKind.wrap .i64 ((i : Int) + 1) = ((i + 1 : Nat) : Int) := by rw [wrap_ok] <;> omega
    have hw1 : IntKind.wrap .i64 ((i : Int) - 1) = (i : Int) - 1 := by rw [wrap_ok] <;> omega
    have hd : l.drop i = l[i] :: l.drop (i + 1) := List.drop_eq_getElem_cons hlt
    have hx : l.getD (i : Int).toNat (R_laws_toPlanKindS.C.dflt .lkind) = l[i] := by simp [hlt]
    have hin : inb (i : Int) l.length = true := by simp only [inb, Bool.and_eq_true, decide_eq_true_eq]; omega
    have hlo : decide ((i : Int) < (l.length : Int)) = true := decide_eq_true (by omega)
    have htk := List.take_succ_eq_append_getElem hlt
    have hl : (l.take (i + 1)).getLast? = some l[i] := by rw [List.take_succ_eq_append_getElem hlt, List.getLast?_concat]
    have hin2 : inb (i : Int) (l.take i ++ List.replicate (d + 1) (R_laws_toPlanKindS.C.dflt .kind)).length = true := by simp only [inb, Bool.and_eq_true, decide_eq_true_eq, List.length_append, List.length_take, List.length_replicate]; omega
    rw [hlo, hin, hin2, hx, hw]
    simp only [ifb_true]
    have e : (l.take i ++ List.replicate (d + 1) (R_laws_toPlanKindS.C.dflt .kind)).set ((i : Int).toNat) l[i] = l.take (i + 1) ++ List.replicate d (R_laws_toPlanKindS.C.dflt .kind) := set_fill hlt
    rw [e]
    exact Sat.cut (ih (i + 1) (by omega))
theorem c_laws_toPlanKindS (l : List Kind) (hg : tS_PlanKind l = true) : CallOK Tryz.prog CP g_laws_toPlanKindS [.sl .lkind l] [] (.own 0 [] 0) [.row .kind l 0 0 0 .no] := by
  refine CallOK.of R_laws_toPlanKindS_ok (by kernel_rfl) (t_laws_toPlanKindS l) ?_
  simp only [tS_PlanKind, Bool.and_eq_true, decide_eq_true_eq] at hg
  obtain ⟨g0, g1⟩ := hg
  have hb : bytesOf' R_laws_toPlanKindS.P 40 ≤ 256 := of_decide_eq_true (by kernel_rfl)
  rw [makeOk hb g0]
  simp only [ifb_true, Int.toNat_natCast]
  have := l_laws_toPlanKindS l g0 trivial l.length 0 (by omega)
  exact Sat.cut this
theorem E_laws_toPlanKindS_ok : EntOK Tryz.prog CP g_laws_toPlanKindS E_laws_toPlanKindS := by
  refine ⟨⟨Tryz.f202, by kernel_rfl, by kernel_rfl, by kernel_rfl⟩, fun args H res H' h => ?_⟩
  simp only [E_laws_toPlanKindS] at h
  split at h
  · simp only [Option.some.injEq, Prod.mk.injEq] at h
    obtain ⟨hg, rfl, rfl⟩ := h
    exact c_laws_toPlanKindS _ hg
  · cases h

/-- laws.toPlanPoint -/
noncomputable def R_laws_toPlanPoint : RE Ty El := ⟨Tryz.prog, CP, [], Tryz.f252, 0, [], []⟩
theorem R_laws_toPlanPoint_ok : REOK R_laws_toPlanPoint g_laws_toPlanPoint := ⟨CP_ok, EOKnil, by kernel_rfl, by kernel_rfl⟩
theorem t_laws_toPlanPoint (name : Str) (x : Int) (y : Int) : aRun R_laws_toPlanPoint 600 false (body0 R_laws_toPlanPoint.fn) (initSt R_laws_toPlanPoint.fn [.agg [.str name, .int .i64 x, .int .i64 y]] []) =
  some (.ret (.agg [.str name, .int .i64 x, .int .i64 y]) []) := by kernel_rfl
theorem c_laws_toPlanPoint (name : Str) (x : Int) (y : Int) : CallOK Tryz.prog CP g_laws_toPlanPoint [.agg [.str name, .int .i64 x, .int .i64 y]] [] (.agg [.str name, .int .i64 x, .int .i64 y]) [] := by
  refine CallOK.of R_laws_toPlanPoint_ok (by kernel_rfl) (t_laws_toPlanPoint name x y) ?_
  exact Sat.ret rfl rfl
theorem E_laws_toPlanPoint_ok : EntOK Tryz.prog CP g_laws_toPlanPoint E_laws_toPlanPoint := by
  refine ⟨⟨Tryz.f252, by kernel_rfl, by kernel_rfl, by kernel_rfl⟩, fun args H res H' h => ?_⟩
  simp only [E_laws_toPlanPoint] at h
  split at h
  · simp only [Option.some.injEq, Prod.mk.injEq] at h
    obtain ⟨hg, rfl, rfl⟩ := h
    exact c_laws_toPlanPoint _ _ _
  · cases h

/-- laws.toPlanPointS -/
noncomputable def R_laws_toPlanPointS : RE Ty El := ⟨Tryz.prog, CP, [(g_laws_toPlanPoint, E_laws_toPlanPoint)], Tryz.f203, 0, [], [(3, [(0, .any), (3, .any), (4, .any)])]⟩
theorem R_laws_toPlanPointS_ok : REOK R_laws_toPlanPointS g_laws_toPlanPointS := ⟨CP_ok, (TabOK.cons E_laws_toPlanPoint_ok EOKnil), by kernel_rfl, by kernel_rfl⟩
theorem t_laws_toPlanPointS (l : List Point) : aRun R_laws_toPlanPointS 600 false (body0 R_laws_toPlanPointS.fn) (initSt R_laws_toPlanPointS.fn [.sl .lpoint l] []) =
  ifb (decide ((0 : Int) ≤ (↑l.length : Int)) && (decide ((↑l.length : Int) = (↑l.length : Int)) && decide ((↑(bytesOf' R_laws_toPlanPointS.P (160 : Nat)) : Int) * (↑l.length : Int) ≤ (281474976710656 : Int)))) (some (.go (todoAt R_laws_toPlanPointS.fn 3) [.sl .lpoint l, .own 0 [] 0, .int .i64 (0 : Int)] [.row .point (List.replicate (↑l.length : Int).toNat (R_laws_toPlanPointS.C.dflt Ty.point)) 0 0 0 .no])) (none) := by kernel_rfl
theorem t_laws_toPlanPointS_3 (x0 : List (El .lpoint)) (x1 : Int) (x2 : List (El .point)) : aRun R_laws_toPlanPointS 600 true (todoAt R_laws_toPlanPointS.fn 3) (cutSt R_laws_toPlanPointS.fn (liveOf R_laws_toPlanPointS (todoAt R_laws_toPlanPointS.fn 3)) [.sl .lpoint x0, .own 0 [] 0, .int .i64 x1] [.row .point x2 0 0 0 .no]) =
  ifb (decide (x1 < (↑x0.length : Int))) (ifb (inb x1 x0.length) (ifb (inb x1 x2.length) (some (.go (todoAt R_laws_toPlanPointS.fn 3) [.sl .lpoint x0, .own 0 [] 0, .int .i64 (IntKind.i64.wrap (x1 + (1 : Int)))] [.row .point (x2.set x1.toNat (x0.getD x1.toNat (R_laws_toPlanPointS.C.dflt Ty.lpoint))) 0 0 0 .no])) (none)) (none)) (some (.ret (.own 0 [] 0) [.row .point x2 0 0 0 .no])) := by kernel_rfl
theorem l_laws_toPlanPointS (l : List Point) (g0 : l.length ≤ 1000000000) (g1 : True) : ∀ (d i : Nat), i + d = l.length →
    Cut R_laws_toPlanPointS g_laws_toPlanPointS 3 [.sl .lpoint l, .own 0 [] 0, .int .i64 (i : Int)] [.row .point (l.take i ++ List.replicate d (R_laws_toPlanPointS.C.dflt .point)) 0 0 0 .no] (.own 0 [] 0) [.row .point l 0 0 0 .no] := by
  intro d
  induction d with
  | zero =>
    intro i hi
    refine Cut.of R_laws_toPlanPointS_ok rfl (t_laws_toPlanPointS_3 l i _) ?_
    rw [decide_eq_false (by omega), List.take_of_length_le (by omega)]
    refine Sat.ret rfl ?_
    simp
  | succ d ih =>
    intro i hi
    refine Cut.of R_laws_toPlanPointS_ok rfl (t_laws_toPlanPointS_3 l i _) ?_
    have hlt : i < l.length := by omega
    have hw : IntKind.wrap .i64 ((i : Int) + 1) = ((i + 1 : Nat) : Int) := by rw [wrap_ok] <;> omega
    have hw1 : IntKind.wrap .i64 ((i : Int) - 1) = (i : Int) - 1 := by rw [wrap_ok] <;> omega
    have hd : l.drop i = l[i] :: l.drop (i + 1) := List.drop_eq_getElem_cons hlt
    have hx : l.getD (i : Int).toNat (R_laws_toPlanPointS.C.dflt .lpoint) = l[i] := by simp [hlt]
    have hin : inb (i : Int) l.length = true := by simp only [inb, Bool.and_eq_true, decide_eq_true_eq]; omega
    have hlo : decide ((i : Int) < (l.length : Int)) = true := decide_eq_true (by omega)
    have htk := List.take_succ_eq_append_getElem hlt
    have hl : (l.take (i + 1)).getLast? = some l[i] := by rw [List.take_succ_eq_append_getElem hlt, List.getLast?_concat]
    have hin2 : inb (i : Int) (l.take i ++ List.replicate (d + 1) (R_laws_toPlanPointS.C.dflt .point)).length = true := by simp only [inb, Bool.and_eq_true, decide_eq_true_eq, List.length_append, List.length_take, List.length_replicate]; omega
    rw [hlo, hin, hin2, hx, hw]
    simp only [ifb_true]
    have e : (l.take i ++ List.replicate (d + 1) (R_laws_toPlanPointS.C.dflt .point)).set ((i : Int).toNat) l[i] = l.take (i + 1) ++ List.replicate d (R_laws_toPlanPointS.C.dflt .point) := set_fill hlt
    rw [e]
    exact Sat.cut (ih (i + 1) (by omega))
theorem c_laws_toPlanPointS (l : List Point) (hg : tS_PlanPoint l = true) : CallOK Tryz.prog CP g_laws_toPlanPointS [.sl .lpoint l] [] (.own 0 [] 0) [.row .point l 0 0 0 .no] := by
  refine CallOK.of R_laws_toPlanPointS_ok (by kernel_rfl) (t_laws_toPlanPointS l) ?_
  simp only [tS_PlanPoint, Bool.and_eq_true, decide_eq_true_eq] at hg
  obtain ⟨g0, g1⟩ := hg
  have hb : bytesOf' R_laws_toPlanPointS.P 160 ≤ 256 := of_decide_eq_true (by kernel_rfl)
  rw [makeOk hb g0]
  simp only [ifb_true, Int.toNat_natCast]
  have := l_laws_toPlanPointS l g0 trivial l.length 0 (by omega)
  exact Sat.cut this
theorem E_laws_toPlanPointS_ok : EntOK Tryz.prog CP g_laws_toPlanPointS E_laws_toPlanPointS := by
  refine ⟨⟨Tryz.f203, by kernel_rfl, by kernel_rfl, by kernel_rfl⟩, fun args H res H' h => ?_⟩
  simp only [E_laws_toPlanPointS] at h
  split at h
  · simp only [Option.some.injEq, Prod.mk.injEq] at h
    obtain ⟨hg, rfl, rfl⟩ := h
    exact c_laws_toPlanPointS _ hg
  · cases h

/-- laws.toPlanBase -/
noncomputable def R_laws_toPlanBase : RE Ty El := ⟨Tryz.prog, CP, [(g_laws_toPlanKindS, E_laws_toPlanKindS), (g_laws_toPlanPointS, E_laws_toPlanPointS)], Tryz.f129, 0, [], []⟩
theorem R_laws_toPlanBase_ok : REOK R_laws_toPlanBase g_laws_toPlanBase := ⟨CP_ok, (TabOK.cons E_laws_toPlanKindS_ok (TabOK.cons E_laws_toPlanPointS_ok EOKnil)), by kernel_rfl, by kernel_rfl⟩
theorem t_laws_toPlanBase (ks : List Kind) (ps : List Point) : aRun R_laws_toPlanBase 600 false (body0 R_laws_toPlanBase.fn) (initSt R_laws_toPlanBase.fn [.agg [.sl .lkind ks, .sl .lpoint ps]] []) =
  ifb (tS_PlanKind ks) (ifb (tS_PlanPoint ps) (some (.ret (.agg [.own 0 [] 0, .own 1 [] 0]) [.row .kind ks 0 0 0 .no, .row .point ps 0 0 0 .no])) (none)) (none) := by kernel_rfl
theorem c_laws_toPlanBase (ks : List Kind) (ps : List Point) (hg : t_PlanBase ks ps = true) : CallOK Tryz.prog CP g_laws_toPlanBase [.agg [.sl .lkind ks, .sl .lpoint ps]] [] (.agg [.own 0 [] 0, .own 1 [] 0]) [.row .kind ks 0 0 0 .no, .row .point ps 0 0 0 .no] := by
  refine CallOK.of R_laws_toPlanBase_ok (by kernel_rfl) (t_laws_toPlanBase ks ps) ?_
  simp only [t_PlanBase, Bool.and_eq_true] at hg
  obtain ⟨g0, g1, -⟩ := hg
  rw [show (tS_PlanKind ks) = true by assumption]
  simp only [ifb_true]
  rw [show (tS_PlanPoint ps) = true by assumption]
  simp only [ifb_true]
  exact Sat.ret rfl rfl
theorem E_laws_toPlanBase_ok : EntOK Tryz.prog CP g_laws_toPlanBase E_laws_toPlanBase := by
  refine ⟨⟨Tryz.f129, by kernel_rfl, by kernel_rfl, by kernel_rfl⟩, fun args H res H' h => ?_⟩
  simp only [E_laws_toPlanBase] at h
  split at h
  · simp only [Option.some.injEq, Prod.mk.injEq] at h
    obtain ⟨hg, rfl, rfl⟩ := h
    exact c_laws_toPlanBase _ _ hg
  · cases h

/-- laws.toPlanField -/
noncomputable def R_laws_toPlanField : RE Ty El := ⟨Tryz.prog, CP, [], Tryz.f299, 0, [], []⟩
theorem R_laws_toPlanField_ok : REOK R_laws_toPlanField g_laws_toPlanField := ⟨CP_ok, EOKnil, by kernel_rfl, by kernel_rfl⟩
theorem t_laws_toPlanField (what : Int) (number : Int) (value : Str) : aRun R_laws_toPlanField 600 false (body0 R_laws_toPlanField.fn) (initSt R_laws_toPlanField.fn [.agg [.int .i64 what, .int .i64 number, .str value]] []) =
  some (.ret (.agg [.int .i64 what, .int .i64 number, .str value]) []) := by kernel_rfl
theorem c_laws_toPlanField (what : Int) (number : Int) (value : Str) : CallOK Tryz.prog CP g_laws_toPlanField [.agg [.int .i64 what, .int .i64 number, .str value]] [] (.agg [.int .i64 what, .int .i64 number, .str value]) [] := by
  refine CallOK.of R_laws_toPlanField_ok (by kernel_rfl) (t_laws_toPlanField what number value) ?_
  exact Sat.ret rfl rfl
theorem E_laws_toPlanField_ok : EntOK Tryz.prog CP g_laws_toPlanField E_laws_toPlanField := by
  refine ⟨⟨Tryz.f299, by kernel_rfl, by kernel_rfl, by kernel_rfl⟩, fun args H res H' h => ?_⟩
  simp only [E_laws_toPlanField] at h
  split at h
  · simp only [Option.some.injEq, Prod.mk.injEq] at h
    obtain ⟨hg, rfl, rfl⟩ := h
    exact c_laws_toPlanField _ _ _
  · cases h

/-- laws.toPlanFieldS -/
noncomputable def R_laws_toPlanFieldS : RE Ty El := ⟨Tryz.prog, CP, [(g_laws_toPlanField, E_laws_toPlanField)], Tryz.f253, 0, [], [(3, [(0, .any), (3, .any), (4, .any)])]⟩
theorem R_laws_toPlanFieldS_ok : REOK R_laws_toPlanFieldS g_laws_toPlanFieldS := ⟨CP_ok, (TabOK.cons E_laws_toPlanField_ok EOKnil), by kernel_rfl, by kernel_rfl⟩
theorem t_laws_toPlanFieldS (l : List Fld) : aRun R_laws_toPlanFieldS 600 false (body0 R_laws_toPlanFieldS.fn) (initSt R_laws_toPlanFieldS.fn [.sl .lfld l] []) =
  ifb (decide ((0 : Int) ≤ (↑l.length : Int)) && (decide ((↑l.length : Int) = (↑l.length : Int)) && decide ((↑(bytesOf' R_laws_toPlanFieldS.P (94 : Nat)) : Int) * (↑l.length : Int) ≤ (281474976710656 : Int)))) (some (.go (todoAt R_laws_toPlanFieldS.fn 3) [.sl .lfld l, .own 0 [] 0, .int .i64 (0 : Int)] [.row .fld (List.replicate (↑l.length : Int).toNat (R_laws_toPlanFieldS.C.dflt Ty.fld)) 0 0 0 .no])) (none) := by kernel_rfl
theorem t_laws_toPlanFieldS_3 (x0 : List (El .lfld)) (x1 : Int) (x2 : List (El .fld)) : aRun R_laws_toPlanFieldS 600 true (todoAt R_laws_toPlanFieldS.fn 3) (cutSt R_laws_toPlanFieldS.fn (liveOf R_laws_toPlanFieldS (todoAt R_laws_toPlanFieldS.fn 3)) [.sl .lfld x0, .own 0 [] 0, .int .i64 x1] [.row .fld x2 0 0 0 .no]) =
  ifb (decide (x1 < (↑x0.length : Int))) (ifb (inb x1 x0.length) (ifb (inb x1 x2.length) (some (.go (todoAt R_laws_toPlanFieldS.fn 3) [.sl .lfld x0, .own 0 [] 0, .int .i64 (IntKind.i64.wrap (x1 + (1 : Int)))] [.row .fld (x2.set x1.toNat (x0.getD x1.toNat (R_laws_toPlanFieldS.C.dflt Ty.lfld))) 0 0 0 .no])) (none)) (none)) (some (.ret (.own 0 [] 0) [.row .fld x2 0 0 0 .no])) := by kernel_rfl
theorem l_laws_toPlanFieldS (l : List Fld) (g0 : l.length ≤ 1000000000) (g1 : True) : ∀ (d i : Nat), i + d = l.length →
    Cut R_laws_toPlanFieldS g_laws_toPlanFieldS 3 [.sl .lfld l, .own 0 [] 0, .int .i64 (i : Int)] [.row .fld (l.take i ++ List.replicate d (R_laws_toPlanFieldS.C.dflt .fld)) 0 0 0 .no] (.own 0 [] 0) [.row .fld l 0 0 0 .no] := by
  intro d
  induction d with
  | zero =>
    intro i hi
    refine Cut.of R_laws_toPlanFieldS_ok rfl (t_laws_toPlanFieldS_3 l i _) ?_
    rw [decide_eq_false (by omega), List.take_of_length_le (by omega)]
    refine Sat.ret rfl ?_
    simp
  | succ d ih =>
    intro i hi
    refine Cut.of R_laws_toPlanFieldS_ok rfl (t_laws_toPlanFieldS_3 l i _) ?_
    have hlt : i < l.length := by omega
    have hw : IntKind.wrap .i64 ((i : Int) + 1) = ((i + 1 : Nat) : Int) := by rw [wrap_ok] <;> omega
    have hw1 : IntKind.wrap .i64 ((i : Int) - 1) = (i : Int) - 1 := by rw [wrap_ok] <;> omega
    have hd : l.drop i = l[i] :: l.drop (i + 1) := List.drop_eq_getElem_cons hlt
    have hx : l.getD (i : Int).toNat (R_laws_toPlanFieldS.C.dflt .lfld) = l[i] := by simp [hlt]
    have hin : inb (i : Int) l.length = true := by simp only [inb, Bool.and_eq_true, decide_eq_true_eq]; omega
    have hlo : decide ((i : Int) < (l.length : Int)) = true := decide_eq_true (by omega)
    have htk := List.take_succ_eq_append_getElem hlt
    have hl : (l.take (i + 1)).getLast? = some l[i] := by rw [List.take_succ_eq_append_getElem hlt, List.getLast?_concat]
    have hin2 : inb (i : Int) (l.take i ++ List.replicate (d + 1) (R_laws_toPlanFieldS.C.dflt .fld)).length = true := by simp only [inb, Bool.and_eq_true, decide_eq_true_eq, List.length_append, List.length_take, List.length_replicate]; omega
    rw [hlo, hin, hin2, hx, hw]
    simp only [ifb_true]
    have e : (l.take i ++ List.replicate (d + 1) (R_laws_toPlanFieldS.C.dflt .fld)).set ((i : Int).toNat) l[i] = l.take (i + 1) ++ List.replicate d (R_laws_toPlanFieldS.C.dflt .fld) := set_fill hlt
    rw [e]
    exact Sat.cut (ih (i + 1) (by omega))
theorem c_laws_toPlanFieldS (l : List Fld) (hg : tS_PlanField l = true) : CallOK Tryz.prog CP g_laws_toPlanFieldS [.sl .lfld l] [] (.own 0 [] 0) [.row .fld l 0 0 0 .no] := by
  refine CallOK.of R_laws_toPlanFieldS_ok (by kernel_rfl) (t_laws_toPlanFieldS l) ?_
  simp only [tS_PlanField, Bool.and_eq_true, decide_eq_true_eq] at hg
  obtain ⟨g0, g1⟩ := hg
  have hb : bytesOf' R_laws_toPlanFieldS.P 94 ≤ 256 := of_decide_eq_true (by kernel_rfl)
  rw [makeOk hb g0]
  simp only [ifb_true, Int.toNat_natCast]
  have := l_laws_toPlanFieldS l g0 trivial l.length 0 (by omega)
  exact Sat.cut this
theorem E_laws_toPlanFieldS_ok : EntOK Tryz.prog CP g_laws_toPlanFieldS E_laws_toPlanFieldS := by
  refine ⟨⟨Tryz.f253, by kernel_rfl, by kernel_rfl, by kernel_rfl⟩, fun args H res H' h => ?_⟩
  simp only [E_laws_toPlanFieldS] at h
  split at h
  · simp only [Option.some.injEq, Prod.mk.injEq] at h
    obtain ⟨hg, rfl, rfl⟩ := h
    exact c_laws_toPlanFieldS _ hg
  · cases h

/-- laws.toPlanEntry -/
noncomputable def R_laws_toPlanEntry : RE Ty El := ⟨Tryz.prog, CP, [(g_laws_toPlanFieldS, E_laws_toPlanFieldS)], Tryz.f204, 0, [], []⟩
theorem R_laws_toPlanEntry_ok : REOK R_laws_toPlanEntry g_laws_toPlanEntry := ⟨CP_ok, (TabOK.cons E_laws_toPlanFieldS_ok EOKnil), by kernel_rfl, by kernel_rfl⟩
theorem t_laws_toPlanEntry (name : Str) (fields : List Fld) : aRun R_laws_toPlanEntry 600 false (body0 R_laws_toPlanEntry.fn) (initSt R_laws_toPlanEntry.fn [.agg [.str name, .sl .lfld fields]] []) =
  ifb (tS_PlanField fields) (some (.ret (.agg [.str name, .own 0 [] 0]) [.row .fld fields 0 0 0 .no])) (none) := by kernel_rfl
theorem c_laws_toPlanEntry (name : Str) (fields : List Fld) (hg : t_PlanEntry name fields = true) : CallOK Tryz.prog CP g_laws_toPlanEntry [.agg [.str name, .sl .lfld fields]] [] (.agg [.str name, .own 0 [] 0]) [.row .fld fields 0 0 0 .no] := by
  refine CallOK.of R_laws_toPlanEntry_ok (by kernel_rfl) (t_laws_toPlanEntry name fields) ?_
  simp only [t_PlanEntry, Bool.and_eq_true] at hg
  obtain ⟨g0, -⟩ := hg
  rw [show (tS_PlanField fields) = true by assumption]
  simp only [ifb_true]
  exact Sat.ret rfl rfl
theorem E_laws_toPlanEntry_ok : EntOK Tryz.prog CP g_laws_toPlanEntry E_laws_toPlanEntry := by
  refine ⟨⟨Tryz.f204, by kernel_rfl, by kernel_rfl, by kernel_rfl⟩, fun args H res H' h => ?_⟩
  simp only [E_laws_toPlanEntry] at h
  split at h
  · simp only [Option.some.injEq, Prod.mk.injEq] at h
    obtain ⟨hg, rfl, rfl⟩ := h
    exact c_laws_toPlanEntry _ _ hg
  · cases h

/-- laws.toPlanEntryS -/
noncomputable def R_laws_toPlanEntryS : RE Ty El := ⟨Tryz.prog, CP, [(g_laws_toPlanEntry, E_laws_toPlanEntry)], Tryz.f130, 0, [], [(3, [(0, .any), (3, .any), (4, .any)])]⟩
theorem R_laws_toPlanEntryS_ok : REOK R_laws_toPlanEntryS g_laws_toPlanEntryS := ⟨CP_ok, (TabOK.cons E_laws_toPlanEntry_ok EOKnil), by kernel_rfl, by kernel_rfl⟩
theorem t_laws_toPlanEntryS (l : List Entry) : aRun R_laws_toPlanEntryS 600 false (body0 R_laws_toPlanEntryS.fn) (initSt R_laws_toPlanEntryS.fn [.sl .lentry l] []) =
  ifb (decide ((0 : Int) ≤ (↑l.length : Int)) && (decide ((↑l.length : Int) = (↑l.length : Int)) && decide ((↑(bytesOf' R_laws_toPlanEntryS.P (92 : Nat)) : Int) * (↑l.length : Int) ≤ (281474976710656 : Int)))) (some (.go (todoAt R_laws_toPlanEntryS.fn 3) [.sl .lentry l, .own 0 [] 0, .int .i64 (0 : Int)] [.row .entry (List.replicate (↑l.length : Int).toNat (R_laws_toPlanEntryS.C.dflt Ty.entry)) 1 0 0 .no])) (none) := by kernel_rfl
theorem t_laws_toPlanEntryS_3 (x0 : List (El .lentry)) (x1 : Int) (x2 : List (El .entry)) : aRun R_laws_toPlanEntryS 600 true (todoAt R_laws_toPlanEntryS.fn 3) (cutSt R_laws_toPlanEntryS.fn (liveOf R_laws_toPlanEntryS (todoAt R_laws_toPlanEntryS.fn 3)) [.sl .lentry x0, .own 0 [] 0, .int .i64 x1] [.row .entry x2 1 0 0 .no]) =
  ifb (decide (x1 < (↑x0.length : Int))) (ifb (inb x1 x0.length) (ifb (t_PlanEntry (x0.getD x1.toNat (R_laws_toPlanEntryS.C.dflt Ty.lentry)).name (x0.getD x1.toNat (R_laws_toPlanEntryS.C.dflt Ty.lentry)).fields) (ifb (inb x1 x2.length) (some (.go (todoAt R_laws_toPlanEntryS.fn 3) [.sl .lentry x0, .own 0 [] 0, .int .i64 (IntKind.i64.wrap (x1 + (1 : Int)))] [.row .entry (x2.set x1.toNat (x0.getD x1.toNat (R_laws_toPlanEntryS.C.dflt Ty.lentry))) 1 0 0 .no])) (none)) (none)) (none)) (some (.ret (.own 0 [] 0) [.row .entry x2 1 0 0 .no])) := by kernel_rfl
theorem l_laws_toPlanEntryS (l : List Entry) (g0 : l.length ≤ 1000000000) (g1 : l.all (fun z : Entry => t_PlanEntry z.name z.fields) = true) : ∀ (d i : Nat), i + d = l.length →
    Cut R_laws_toPlanEntryS g_laws_toPlanEntryS 3 [.sl .lentry l, .own 0 [] 0, .int .i64 (i : Int)] [.row .entry (l.take i ++ List.replicate d (R_laws_toPlanEntryS.C.dflt .entry)) 1 0 0 .no] (.own 0 [] 0) [.row .entry l 1 0 0 .no] := by
  intro d
  induction d with
  | zero =>
    intro i hi
    refine Cut.of R_laws_toPlanEntryS_ok rfl (t_laws_toPlanEntryS_3 l i _) ?_
    rw [decide_eq_false (by omega), List.take_of_length_le (by omega)]
    refine Sat.ret rfl ?_
    simp
  | succ d ih =>
    intro i hi
    refine Cut.of R_laws_toPlanEntryS_ok rfl (t_laws_toPlanEntryS_3 l i _) ?_
    have hlt : i < l.length := by omega
    have hw : IntKind.wrap .i64 ((i : Int) + 1) = ((i + 1 : Nat) : Int) := by rw [wrap_ok] <;> omega
    have hw1 : IntKind.wrap .i64 ((i : Int) - 1) = (i : Int) - 1 := by rw [wrap_ok] <;> omega
    have hd : l.drop i = l[i] :: l.drop (i + 1) := List.drop_eq_getElem_cons hlt
    have hx : l.getD (i : Int).toNat (R_laws_toPlanEntryS.C.dflt .lentry) = l[i] := by simp [hlt]
    have hin : inb (i : Int) l.length = true := by simp only [inb, Bool.and_eq_true, decide_eq_true_eq]; omega
    have hlo : decide ((i : Int) < (l.length : Int)) = true := decide_eq_true (by omega)
    have htk := List.take_succ_eq_append_getElem hlt
    have hl : (l.take (i + 1)).getLast? = some l[i] := by rw [List.take_succ_eq_append_getElem hlt, List.getLast?_concat]
    have hin2 : inb (i : Int) (l.take i ++ List.replicate (d + 1) (R_laws_toPlanEntryS.C.dflt .entry)).length = true := by simp only [inb, Bool.and_eq_true, decide_eq_true_eq, List.length_append, List.length_take, List.length_replicate]; omega
    rw [hlo, hin, hin2, hx, hw]
    simp only [ifb_true]
    rw [show (t_PlanEntry l[i].name l[i].fields) = true from List.all_eq_true.1 g1 l[i] (List.getElem_mem hlt)]
    simp only [ifb_true]
    have e : (l.take i ++ List.replicate (d + 1) (R_laws_toPlanEntryS.C.dflt .entry)).set ((i : Int).toNat) l[i] = l.take (i + 1) ++ List.replicate d (R_laws_toPlanEntryS.C.dflt .entry) := set_fill hlt
    rw [e]
    exact Sat.cut (ih (i + 1) (by omega))
theorem c_laws_toPlanEntryS (l : List Entry) (hg : tS_PlanEntry l = true) : CallOK Tryz.prog CP g_laws_toPlanEntryS [.sl .lentry l] [] (.own 0 [] 0) [.row .entry l 1 0 0 .no] := by
  refine CallOK.of R_laws_toPlanEntryS_ok (by kernel_rfl) (t_laws_toPlanEntryS l) ?_
  simp only [tS_PlanEntry, Bool.and_eq_true, decide_eq_true_eq] at hg
  obtain ⟨g0, g1⟩ := hg
  have hb : bytesOf' R_laws_toPlanEntryS.P 92 ≤ 256 := of_decide_eq_true (by kernel_rfl)
  rw [makeOk hb g0]
  simp only [ifb_true, Int.toNat_natCast]
  have := l_laws_toPlanEntryS l g0 g1 l.length 0 (by omega)
  exact Sat.cut this
theorem E_laws_toPlanEntryS_ok : EntOK Tryz.prog CP g_laws_toPlanEntryS E_laws_toPlanEntryS := by
  refine ⟨⟨Tryz.f130, by kernel_rfl, by kernel_rfl, by kernel_rfl⟩, fun args H res H' h => ?_⟩
  simp only [E_laws_toPlanEntryS] at h
  split at h
  · simp only [Option.some.injEq, Prod.mk.injEq] at h
    obtain ⟨hg, rfl, rfl⟩ := h
    exact c_laws_toPlanEntryS _ hg
  · cases h

/-- laws.toPlanBook -/
noncomputable def R_laws_toPlanBook : RE Ty El := ⟨Tryz.prog, CP, [(g_laws_toPlanBase, E_laws_toPlanBase), (g_laws_toPlanEntryS, E_laws_toPlanEntryS)], Tryz.f39, 0, [], []⟩
theorem R_laws_toPlanBook_ok : REOK R_laws_toPlanBook g_laws_toPlanBook := ⟨CP_ok, (TabOK.cons E_laws_toPlanBase_ok (TabOK.cons E_laws_toPlanEntryS_ok EOKnil)), by kernel_rfl, by kernel_rfl⟩
theorem t_laws_toPlanBook (ks : List Kind) (ps : List Point) (es : List Entry) : aRun R_laws_toPlanBook 600 false (body0 R_laws_toPlanBook.fn) (initSt R_laws_toPlanBook.fn [.agg [.sl .lkind ks, .sl .lpoint ps, .sl .lentry es]] []) =
  ifb (t_PlanBase ks ps) (ifb (tS_PlanEntry es) (some (.ret (.agg [.own 0 [] 0, .own 1 [] 0, .own 2 [] 0]) [.row .kind ks 0 0 0 .no, .row .point ps 0 0 0 .no, .row .entry es 1 0 0 .no])) (none)) (none) := by kernel_rfl
theorem c_laws_toPlanBook (ks : List Kind) (ps : List Point) (es : List Entry) (hg : t_PlanBook ks ps es = true) : CallOK Tryz.prog CP g_laws_toPlanBook [.agg [.sl .lkind ks, .sl .lpoint ps, .sl .lentry es]] [] (.agg [.own 0 [] 0, .own 1 [] 0, .own 2 [] 0]) [.row .kind ks 0 0 0 .no, .row .point ps 0 0 0 .no, .row .entry es 1 0 0 .no] := by
  refine CallOK.of R_laws_toPlanBook_ok (by kernel_rfl) (t_laws_toPlanBook ks ps es) ?_
  simp only [t_PlanBook, Bool.and_eq_true] at hg
  obtain ⟨g0, g1, g2, -⟩ := hg
  rw [show (t_PlanBase ks ps) = true by first | exact g0 | simp only [t_PlanBase, g0, g1, g2, Bool.and_true]]
  simp only [ifb_true]
  rw [show (tS_PlanEntry es) = true by assumption]
  simp only [ifb_true]
  exact Sat.ret rfl rfl
theorem E_laws_toPlanBook_ok : EntOK Tryz.prog CP g_laws_toPlanBook E_laws_toPlanBook := by
  refine ⟨⟨Tryz.f39, by kernel_rfl, by kernel_rfl, by kernel_rfl⟩, fun args H res H' h => ?_⟩
  simp only [E_laws_toPlanBook] at h
  split at h
  · simp only [Option.some.injEq, Prod.mk.injEq] at h
    obtain ⟨hg, rfl, rfl⟩ := h
    exact c_laws_toPlanBook _ _ _ hg
  · cases h

/-- laws.eqPlanKind -/
noncomputable def R_laws_eqPlanKind : RE Ty El := ⟨Tryz.prog, CP, [], Tryz.f254, 0, [], []⟩
theorem R_laws_eqPlanKind_ok : REOK R_laws_eqPlanKind g_laws_eqPlanKind := ⟨CP_ok, EOKnil, by kernel_rfl, by kernel_rfl⟩
theorem t_laws_eqPlanKind (name : Str) (quick : Int) (slow : Int) (name' : Str) (quick' : Int) (slow' : Int) : aRun R_laws_eqPlanKind 600 false (body0 R_laws_eqPlanKind.fn) (initSt R_laws_eqPlanKind.fn [.agg [.str name, .int .i64 quick, .int .i64 slow], .agg [.str name', .int .i64 quick', .int .i64 slow']] []) =
  ifb (!name == name') (some (.ret (.bool false) [])) (ifb (quick != quick') (some (.ret (.bool false) [])) (ifb (slow != slow') (some (.ret (.bool false) [])) (some (.ret (.bool true) [])))) := by kernel_rfl
theorem c_laws_eqPlanKind (name : Str) (quick : Int) (slow : Int) (name' : Str) (quick' : Int) (slow' : Int) : CallOK Tryz.prog CP g_laws_eqPlanKind [.agg [.str name, .int .i64 quick, .int .i64 slow], .agg [.str name', .int .i64 quick', .int .i64 slow']] [] (.bool (decide ((⟨name, quick, slow⟩ : Kind) = ⟨name', quick', slow'⟩))) [] := by
  refine CallOK.of R_laws_eqPlanKind_ok (by kernel_rfl) (t_laws_eqPlanKind name quick slow name' quick' slow') ?_
  repeat' (refine Sat.ifb (fun h => ?_) (fun h => ?_))
  all_goals (first | (refine Sat.retB ?_ rfl; simp_all; done) | (refine Sat.no ?_; simp_all; done))
theorem E_laws_eqPlanKind_ok : EntOK Tryz.prog CP g_laws_eqPlanKind E_laws_eqPlanKind := by
  refine ⟨⟨Tryz.f254, by kernel_rfl, by kernel_rfl, by kernel_rfl⟩, fun args H res H' h => ?_⟩
  simp only [E_laws_eqPlanKind] at h
  split at h
  · simp only [Option.some.injEq, Prod.mk.injEq] at h
    obtain ⟨hg, rfl, rfl⟩ := h
    exact c_laws_eqPlanKind _ _ _ _ _ _
  · cases h

/-- laws.eqPlanKindS -/
noncomputable def R_laws_eqPlanKindS : RE Ty El := ⟨Tryz.prog, CP, [(g_laws_eqPlanKind, E_laws_eqPlanKind)], Tryz.f205, 0, [], [(4, [(0, .any), (1, .any), (5, .any)])]⟩
theorem R_laws_eqPlanKindS_ok : REOK R_laws_eqPlanKindS g_laws_eqPlanKindS := ⟨CP_ok, (TabOK.cons E_laws_eqPlanKind_ok EOKnil), by kernel_rfl, by kernel_rfl⟩
theorem t_laws_eqPlanKindS (l l' : List Kind) : aRun R_laws_eqPlanKindS 600 false (body0 R_laws_eqPlanKindS.fn) (initSt R_laws_eqPlanKindS.fn [.sl .kind l, .sl .kind l'] []) =
  ifb ((↑l.length : Int) != (↑l'.length : Int)) (some (.ret (.bool false) [])) (some (.go (todoAt R_laws_eqPlanKindS.fn 4) [.sl .kind l, .sl .kind l', .int .i64 (0 : Int)] [])) := by kernel_rfl
theorem t_laws_eqPlanKindS_4 (x0 : List (El .kind)) (x1 : List (El .kind)) (x2 : Int) : aRun R_laws_eqPlanKindS 600 true (todoAt R_laws_eqPlanKindS.fn 4) (cutSt R_laws_eqPlanKindS.fn (liveOf R_laws_eqPlanKindS (todoAt R_laws_eqPlanKindS.fn 4)) [.sl .kind x0, .sl .kind x1, .int .i64 x2] []) =
  ifb (decide (x2 < (↑x0.length : Int))) (ifb (inb x2 x0.length) (ifb (inb x2 x1.length) (ifb (!decide (x0.getD x2.toNat (R_laws_eqPlanKindS.C.dflt Ty.kind) = x1.getD x2.toNat (R_laws_eqPlanKindS.C.dflt Ty.kind))) (some (.ret (.bool false) [])) (some (.go (todoAt R_laws_eqPlanKindS.fn 4) [.sl .kind x0, .sl .kind x1, .int .i64 (IntKind.i64.wrap (x2 + (1 : Int)))] []))) (none)) (none)) (some (.ret (.bool true) [])) := by kernel_rfl
theorem l_laws_eqPlanKindS (l l' : List Kind) (hl' : l.length = l'.length) (g0 : l.length ≤ 1000000000) (g1 : True) : ∀ (d i : Nat), i + d = l.length → l.take i = l'.take i →
    Cut R_laws_eqPlanKindS g_laws_eqPlanKindS 4 [.sl .kind l, .sl .kind l', .int .i64 (i : Int)] [] (.bool (decide (l = l'))) [] := by
  intro d
  induction d with
  | zero =>
    intro i hi ht
    refine Cut.of R_laws_eqPlanKindS_ok rfl (t_laws_eqPlanKindS_4 l l' i) ?_
    rw [show decide ((i : Int) < (l.length : Int)) = false from decide_eq_false (by omega)]
    rw [List.take_of_length_le (by omega), List.take_of_length_le (by omega)] at ht
    exact Sat.retB (decide_eq_true ht).symm rfl
  | succ d ih =>
    intro i hi ht
    refine Cut.of R_laws_eqPlanKindS_ok rfl (t_laws_eqPlanKindS_4 l l' i) ?_
    have hlt : i < l.length := by omega
    have hw : IntKind.wrap .i64 ((i : Int) + 1) = ((i + 1 : Nat) : Int) := by rw [wrap_ok] <;> omega
    have hw1 : IntKind.wrap .i64 ((i : Int) - 1) = (i : Int) - 1 := by rw [wrap_ok] <;> omega
    have hd : l.drop i = l[i] :: l.drop (i + 1) := List.drop_eq_getElem_cons hlt
    have hx : l.getD (i : Int).toNat (R_laws_eqPlanKindS.C.dflt .kind) = l[i] := by simp [hlt]
    have hin : inb (i : Int) l.length = true := by simp only [inb, Bool.and_eq_true, decide_eq_true_eq]; omega
    have hlo : decide ((i : Int) < (l.length : Int)) = true := decide_eq_true (by omega)
    have htk := List.take_succ_eq_append_getElem hlt
    have hl : (l.take (i + 1)).getLast? = some l[i] := by rw [List.take_succ_eq_append_getElem hlt, List.getLast?_concat]
    have hlt' : i < l'.length := by omega
    have hin' : inb (i : Int) l'.length = true := by simp only [inb, Bool.and_eq_true, decide_eq_true_eq]; omega
    have hx' : l'.getD (i : Int).toNat (R_laws_eqPlanKindS.C.dflt .kind) = l'[i] := by simp [hlt']
    rw [hlo, hin, hin', hx, hx', hw]
    simp only [ifb_true]
    by_cases he : l[i] = l'[i]
    · rw [show decide (l[i] = l'[i]) = true from decide_eq_true he]
      simp only [Bool.not_true, ifb_false]
      exact Sat.cut (ih (i + 1) (by omega) (by rw [List.take_succ_eq_append_getElem hlt, List.take_succ_eq_append_getElem hlt', ht, he]))
    · rw [show decide (l[i] = l'[i]) = false from decide_eq_false he]
      simp only [Bool.not_false, ifb_true]
      exact Sat.retB (decide_eq_false (fun h => he (by subst h; rfl))).symm rfl
theorem c_laws_eqPlanKindS (l l' : List Kind) (hg : tS_PlanKind l = true) : CallOK Tryz.prog CP g_laws_eqPlanKindS [.sl .kind l, .sl .kind l'] [] ((.bool (decide (l = l')))) [] := by
  refine CallOK.of R_laws_eqPlanKindS_ok (by kernel_rfl) (t_laws_eqPlanKindS l l') ?_
  simp only [tS_PlanKind, Bool.and_eq_true, decide_eq_true_eq] at hg
  obtain ⟨g0, g1⟩ := hg
  by_cases hl : l.length = l'.length
  · rw [show ((l.length : Int) != (l'.length : Int)) = false by simp [hl]]
    simp only [ifb_false]
    have := l_laws_eqPlanKindS l l' hl g0 trivial l.length 0 (by omega) rfl
    exact Sat.cut this
  · rw [show ((l.length : Int) != (l'.length : Int)) = true by simp; omega]
    exact Sat.retB (decide_eq_false (fun h => hl (by rw [h]))).symm rfl
theorem E_laws_eqPlanKindS_ok : EntOK Tryz.prog CP g_laws_eqPlanKindS E_laws_eqPlanKindS := by
  refine ⟨⟨Tryz.f205, by kernel_rfl, by kernel_rfl, by kernel_rfl⟩, fun args H res H' h => ?_⟩
  simp only [E_laws_eqPlanKindS] at h
  split at h
  · simp only [Option.some.injEq, Prod.mk.injEq] at h
    obtain ⟨hg, rfl, rfl⟩ := h
    exact c_laws_eqPlanKindS _ _ hg
  · cases h

/-- laws.eqPlanPoint -/
noncomputable def R_laws_eqPlanPoint : RE Ty El := ⟨Tryz.prog, CP, [], Tryz.f255, 0, [], []⟩
theorem R_laws_eqPlanPoint_ok : REOK R_laws_eqPlanPoint g_laws_eqPlanPoint := ⟨CP_ok, EOKnil, by kernel_rfl, by kernel_rfl⟩
theorem t_laws_eqPlanPoint (name : Str) (x : Int) (y : Int) (name' : Str) (x' : Int) (y' : Int) : aRun R_laws_eqPlanPoint 600 false (body0 R_laws_eqPlanPoint.fn) (initSt R_laws_eqPlanPoint.fn [.agg [.str name, .int .i64 x, .int .i64 y], .agg [.str name', .int .i64 x', .int .i64 y']] []) =
  ifb (!name == name') (some (.ret (.bool false) [])) (ifb (x != x') (some (.ret (.bool false) [])) (ifb (y != y') (some (.ret (.bool false) [])) (some (.ret (.bool true) [])))) := by kernel_rfl
theorem c_laws_eqPlanPoint (name : Str) (x : Int) (y : Int) (name' : Str) (x' : Int) (y' : Int) : CallOK Tryz.prog CP g_laws_eqPlanPoint [.agg [.str name, .int .i64 x, .int .i64 y], .agg [.str name', .int .i64 x', .int .i64 y']] [] (.bool (decide ((⟨name, x, y⟩ : Point) = ⟨name', x', y'⟩))) [] := by
  refine CallOK.of R_laws_eqPlanPoint_ok (by kernel_rfl) (t_laws_eqPlanPoint name x y name' x' y') ?_
  repeat' (refine Sat.ifb (fun h => ?_) (fun h => ?_))
  all_goals (first | (refine Sat.retB ?_ rfl; simp_all; done) | (refine Sat.no ?_; simp_all; done))
theorem E_laws_eqPlanPoint_ok : EntOK Tryz.prog CP g_laws_eqPlanPoint E_laws_eqPlanPoint := by
  refine ⟨⟨Tryz.f255, by kernel_rfl, by kernel_rfl, by kernel_rfl⟩, fun args H res H' h => ?_⟩
  simp only [E_laws_eqPlanPoint] at h
  split at h
  · simp only [Option.some.injEq, Prod.mk.injEq] at h
    obtain ⟨hg, rfl, rfl⟩ := h
    exact c_laws_eqPlanPoint _ _ _ _ _ _
  · cases h

/-- laws.eqPlanPointS -/
noncomputable def R_laws_eqPlanPointS : RE Ty El := ⟨Tryz.prog, CP, [(g_laws_eqPlanPoint, E_laws_eqPlanPoint)], Tryz.f206, 0, [], [(4, [(0, .any), (1, .any), (5, .any)])]⟩
theorem R_laws_eqPlanPointS_ok : REOK R_laws_eqPlanPointS g_laws_eqPlanPointS := ⟨CP_ok, (TabOK.cons E_laws_eqPlanPoint_ok EOKnil), by kernel_rfl, by kernel_rfl⟩
theorem t_laws_eqPlanPointS (l l' : List Point) : aRun R_laws_eqPlanPointS 600 false (body0 R_laws_eqPlanPointS.fn) (initSt R_laws_eqPlanPointS.fn [.sl .point l, .sl .point l'] []) =
  ifb ((↑l.length : Int) != (↑l'.length : Int)) (some (.ret (.bool false) [])) (some (.go (todoAt R_laws_eqPlanPointS.fn 4) [.sl .point l, .sl .point l', .int .i64 (0 : Int)] [])) := by kernel_rfl
theorem t_laws_eqPlanPointS_4 (x0 : List (El .point)) (x1 : List (El .point)) (x2 : Int) : aRun R_laws_eqPlanPointS 600 true (todoAt R_laws_eqPlanPointS.fn 4) (cutSt R_laws_eqPlanPointS.fn (liveOf R_laws_eqPlanPointS (todoAt R_laws_eqPlanPointS.fn 4)) [.sl .point x0, .sl .point x1, .int .i64 x2] []) =
  ifb (decide (x2 < (↑x0.length : Int))) (ifb (inb x2 x0.length) (ifb (inb x2 x1.length) (ifb (!decide (x0.getD x2.toNat (R_laws_eqPlanPointS.C.dflt Ty.point) = x1.getD x2.toNat (R_laws_eqPlanPointS.C.dflt Ty.point))) (some (.ret (.bool false) [])) (some (.go (todoAt R_laws_eqPlanPointS.fn 4) [.sl .point x0, .sl .point x1, .int .i64 (IntKind.i64.wrap (x2 + (1 : Int)))] []))) (none)) (none)) (some (.ret (.bool true) [])) := by kernel_rfl
theorem l_laws_eqPlanPointS (l l' : List Point) (hl' : l.length = l'.length) (g0 : l.length ≤ 1000000000) (g1 : True) : ∀ (d i : Nat), i + d = l.length → l.take i = l'.take i →
    Cut R_laws_eqPlanPointS g_laws_eqPlanPointS 4 [.sl .point l, .sl .point l', .int .i64 (i : Int)] [] (.bool (decide (l = l'))) [] := by
  intro d
  induction d with
  | zero =>
    intro i hi ht
    refine Cut.of R_laws_eqPlanPointS_ok rfl (t_laws_eqPlanPointS_4 l l' i) ?_
    rw [show decide ((i : Int) < (l.length : Int)) = false from decide_eq_false (by omega)]
    rw [List.take_of_length_le (by omega), List.take_of_length_le (by omega)] at ht
    exact Sat.retB (decide_eq_true ht).symm rfl
  | succ d ih =>
    intro i hi ht
    refine Cut.of R_laws_eqPlanPointS_ok rfl (t_laws_eqPlanPointS_4 l l' i) ?_
    have hlt : i < l.length := by omega
    have hw : IntKind.wrap .i64 ((i : Int) + 1) = ((i + 1 : Nat) : Int) := by rw [wrap_ok] <;> omega
    have hw1 : IntKind.wrap .i64 ((i : Int) - 1) = (i : Int) - 1 := by rw [wrap_ok] <;> omega
    have hd : l.drop i = l[i] :: l.drop (i + 1) := List.drop_eq_getElem_cons hlt
    have hx : l.getD (i : Int).toNat (R_laws_eqPlanPointS.C.dflt .point) = l[i] := by simp [hlt]
    have hin : inb (i : Int) l.length = true := by simp only [inb, Bool.and_eq_true, decide_eq_true_eq]; omega
    have hlo : decide ((i : Int) < (l.length : Int)) = true := decide_eq_true (by omega)
    have htk := List.take_succ_eq_append_getElem hlt
    have hl : (l.take (i + 1)).getLast? = some l[i] := by rw [List.take_succ_eq_append_getElem hlt, List.getLast?_concat]
    have hlt' : i < l'.length := by omega
    have hin' : inb (i : Int) l'.length = true := by simp only [inb, Bool.and_eq_true, decide_eq_true_eq]; omega
    have hx' : l'.getD (i : Int).toNat (R_laws_eqPlanPointS.C.dflt .point) = l'[i] := by simp [hlt']
    rw [hlo, hin, hin', hx, hx', hw]
    simp only [ifb_true]
    by_cases he : l[i] = l'[i]
    · rw [show decide (l[i] = l'[i]) = true from decide_eq_true he]
      simp only [Bool.not_true, ifb_false]
      exact Sat.cut (ih (i + 1) (by omega) (by rw [List.take_succ_eq_append_getElem hlt, List.take_succ_eq_append_getElem hlt', ht, he]))
    · rw [show decide (l[i] = l'[i]) = false from decide_eq_false he]
      simp only [Bool.not_false, ifb_true]
      exact Sat.retB (decide_eq_false (fun h => he (by subst h; rfl))).symm rfl
theorem c_laws_eqPlanPointS (l l' : List Point) (hg : tS_PlanPoint l = true) : CallOK Tryz.prog CP g_laws_eqPlanPointS [.sl .point l, .sl .point l'] [] ((.bool (decide (l = l')))) [] := by
  refine CallOK.of R_laws_eqPlanPointS_ok (by kernel_rfl) (t_laws_eqPlanPointS l l') ?_
  simp only [tS_PlanPoint, Bool.and_eq_true, decide_eq_true_eq] at hg
  obtain ⟨g0, g1⟩ := hg
  by_cases hl : l.length = l'.length
  · rw [show ((l.length : Int) != (l'.length : Int)) = false by simp [hl]]
    simp only [ifb_false]
    have := l_laws_eqPlanPointS l l' hl g0 trivial l.length 0 (by omega) rfl
    exact Sat.cut this
  · rw [show ((l.length : Int) != (l'.length : Int)) = true by simp; omega]
    exact Sat.retB (decide_eq_false (fun h => hl (by rw [h]))).symm rfl
theorem E_laws_eqPlanPointS_ok : EntOK Tryz.prog CP g_laws_eqPlanPointS E_laws_eqPlanPointS := by
  refine ⟨⟨Tryz.f206, by kernel_rfl, by kernel_rfl, by kernel_rfl⟩, fun args H res H' h => ?_⟩
  simp only [E_laws_eqPlanPointS] at h
  split at h
  · simp only [Option.some.injEq, Prod.mk.injEq] at h
    obtain ⟨hg, rfl, rfl⟩ := h
    exact c_laws_eqPlanPointS _ _ hg
  · cases h

/-- laws.eqPlanBase -/
noncomputable def R_laws_eqPlanBase : RE Ty El := ⟨Tryz.prog, CP, [(g_laws_eqPlanKindS, E_laws_eqPlanKindS), (g_laws_eqPlanPointS, E_laws_eqPlanPointS)], Tryz.f131, 0, [], []⟩
theorem R_laws_eqPlanBase_ok : REOK R_laws_eqPlanBase g_laws_eqPlanBase := ⟨CP_ok, (TabOK.cons E_laws_eqPlanKindS_ok (TabOK.cons E_laws_eqPlanPointS_ok EOKnil)), by kernel_rfl, by kernel_rfl⟩
theorem t_laws_eqPlanBase (ks : List Kind) (ps : List Point) (ks' : List Kind) (ps' : List Point) : aRun R_laws_eqPlanBase 600 false (body0 R_laws_eqPlanBase.fn) (initSt R_laws_eqPlanBase.fn [.agg [.sl .kind ks, .sl .point ps], .agg [.sl .kind ks', .sl .point ps']] []) =
  ifb (tS_PlanKind ks) (ifb (!decide (ks = ks')) (some (.ret (.bool false) [])) (ifb (tS_PlanPoint ps) (ifb (!decide (ps = ps')) (some (.ret (.bool false) [])) (some (.ret (.bool true) []))) (none))) (none) := by kernel_rfl
theorem c_laws_eqPlanBase (ks : List Kind) (ps : List Point) (ks' : List Kind) (ps' : List Point) (hg : t_PlanBase ks ps = true) : CallOK Tryz.prog CP g_laws_eqPlanBase [.agg [.sl .kind ks, .sl .point ps], .agg [.sl .kind ks', .sl .point ps']] [] (.bool ((decide (ks = ks') && (decide (ps = ps') && true)))) [] := by
  refine CallOK.of R_laws_eqPlanBase_ok (by kernel_rfl) (t_laws_eqPlanBase ks ps ks' ps') ?_
  simp only [t_PlanBase, Bool.and_eq_true] at hg
  obtain ⟨g0, g1, -⟩ := hg
  rw [show tS_PlanKind ks = true by assumption]
  simp only [ifb_true]
  cases q0 : decide (ks = ks') with
  | false =>
    simp only [Bool.not_false, ifb_true, Bool.false_and]
    exact Sat.retB rfl rfl
  | true =>
  simp only [Bool.not_true, ifb_false, Bool.true_and]
  rw [show tS_PlanPoint ps = true by assumption]
  simp only [ifb_true]
  cases q1 : decide (ps = ps') with
  | false =>
    simp only [Bool.not_false, ifb_true, Bool.false_and]
    exact Sat.retB rfl rfl
  | true =>
  simp only [Bool.not_true, ifb_false, Bool.true_and]
  exact Sat.retB rfl rfl
theorem E_laws_eqPlanBase_ok : EntOK Tryz.prog CP g_laws_eqPlanBase E_laws_eqPlanBase := by
  refine ⟨⟨Tryz.f131, by kernel_rfl, by kernel_rfl, by kernel_rfl⟩, fun args H res H' h => ?_⟩
  simp only [E_laws_eqPlanBase] at h
  split at h
  · simp only [Option.some.injEq, Prod.mk.injEq] at h
    obtain ⟨hg, rfl, rfl⟩ := h
    exact c_laws_eqPlanBase _ _ _ _ hg
  · cases h

/-- laws.eqPlanField -/
noncomputable def R_laws_eqPlanField : RE Ty El := ⟨Tryz.prog, CP, [], Tryz.f300, 0, [], []⟩
theorem R_laws_eqPlanField_ok : REOK R_laws_eqPlanField g_laws_eqPlanField := ⟨CP_ok, EOKnil, by kernel_rfl, by kernel_rfl⟩
theorem t_laws_eqPlanField (what : Int) (number : Int) (value : Str) (what' : Int) (number' : Int) (value' : Str) : aRun R_laws_eqPlanField 600 false (body0 R_laws_eqPlanField.fn) (initSt R_laws_eqPlanField.fn [.agg [.int .i64 what, .int .i64 number, .str value], .agg [.int .i64 what', .int .i64 number', .str value']] []) =
  ifb (what != what') (some (.ret (.bool false) [])) (ifb (number != number') (some (.ret (.bool false) [])) (ifb (!value == value') (some (.ret (.bool false) [])) (some (.ret (.bool true) [])))) := by kernel_rfl
theorem c_laws_eqPlanField (what : Int) (number : Int) (value : Str) (what' : Int) (number' : Int) (value' : Str) : CallOK Tryz.prog CP g_laws_eqPlanField [.agg [.int .i64 what, .int .i64 number, .str value], .agg [.int .i64 what', .int .i64 number', .str value']] [] (.bool (decide ((⟨what, number, value⟩ : Fld) = ⟨what', number', value'⟩))) [] := by
  refine CallOK.of R_laws_eqPlanField_ok (by kernel_rfl) (t_laws_eqPlanField what number value what' number' value') ?_
  repeat' (refine Sat.ifb (fun h => ?_) (fun h => ?_))
  all_goals (first | (refine Sat.retB ?_ rfl; simp_all; done) | (refine Sat.no ?_; simp_all; done))
theorem E_laws_eqPlanField_ok : EntOK Tryz.prog CP g_laws_eqPlanField E_laws_eqPlanField := by
  refine ⟨⟨Tryz.f300, by kernel_rfl, by kernel_rfl, by kernel_rfl⟩, fun args H res H' h => ?_⟩
  simp only [E_laws_eqPlanField] at h
  split at h
  · simp only [Option.some.injEq, Prod.mk.injEq] at h
    obtain ⟨hg, rfl, rfl⟩ := h
    exact c_laws_eqPlanField _ _ _ _ _ _
  · cases h

/-- laws.eqPlanFieldS -/
noncomputable def R_laws_eqPlanFieldS : RE Ty El := ⟨Tryz.prog, CP, [(g_laws_eqPlanField, E_laws_eqPlanField)], Tryz.f256, 0, [], [(4, [(0, .any), (1, .any), (5, .any)])]⟩
theorem R_laws_eqPlanFieldS_ok : REOK R_laws_eqPlanFieldS g_laws_eqPlanFieldS := ⟨CP_ok, (TabOK.cons E_laws_eqPlanField_ok EOKnil), by kernel_rfl, by kernel_rfl⟩
theorem t_laws_eqPlanFieldS (l l' : List Fld) : aRun R_laws_eqPlanFieldS 600 false (body0 R_laws_eqPlanFieldS.fn) (initSt R_laws_eqPlanFieldS.fn [.sl .fld l, .sl .fld l'] []) =
  ifb ((↑l.length : Int) != (↑l'.length : Int)) (some (.ret (.bool false) [])) (some (.go (todoAt R_laws_eqPlanFieldS.fn 4) [.sl .fld l, .sl .fld l', .int .i64 (0 : Int)] [])) := by kernel_rfl
theorem t_laws_eqPlanFieldS_4 (x0 : List (El .fld)) (x1 : List (El .fld)) (x2 : Int) : aRun R_laws_eqPlanFieldS 600 true (todoAt R_laws_eqPlanFieldS.fn 4) (cutSt R_laws_eqPlanFieldS.fn (liveOf R_laws_eqPlanFieldS (todoAt R_laws_eqPlanFieldS.fn 4)) [.sl .fld x0, .sl .fld x1, .int .i64 x2] []) =
  ifb (decide (x2 < (↑x0.length : Int))) (ifb (inb x2 x0.length) (ifb (inb x2 x1.length) (ifb (!decide (x0.getD x2.toNat (R_laws_eqPlanFieldS.C.dflt Ty.fld) = x1.getD x2.toNat (R_laws_eqPlanFieldS.C.dflt Ty.fld))) (some (.ret (.bool false) [])) (some (.go (todoAt R_laws_eqPlanFieldS.fn 4) [.sl .fld x0, .sl .fld x1, .int .i64 (IntKind.i64.wrap (x2 + (1 : Int)))] []))) (none)) (none)) (some (.ret (.bool true) [])) := by kernel_rfl
theorem l_laws_eqPlanFieldS (l l' : List Fld) (hl' : l.length = l'.length) (g0 : l.length ≤ 1000000000) (g1 : True) : ∀ (d i : Nat), i + d = l.length → l.take i = l'.take i →
    Cut R_laws_eqPlanFieldS g_laws_eqPlanFieldS 4 [.sl .fld l, .sl .fld l', .int .i64 (i : Int)] [] (.bool (decide (l = l'))) [] := by
  intro d
  induction d with
  | zero =>
    intro i hi ht
    refine Cut.of R_laws_eqPlanFieldS_ok rfl (t_laws_eqPlanFieldS_4 l l' i) ?_
    rw [show decide ((i : Int) < (l.length : Int)) = false from decide_eq_false (by omega)]
    rw [List.take_of_length_le (by omega), List.take_of_length_le (by omega)] at ht
    exact Sat.retB (decide_eq_true ht).symm rfl
  | succ d ih =>
    intro i hi ht
    refine Cut.of R_laws_eqPlanFieldS_ok rfl (t_laws_eqPlanFieldS_4 l l' i) ?_
    have hlt : i < l.length := by omega
    have hw : IntKind.wrap .i64 ((i : Int) + 1) = ((i + 1 : Nat) : Int) := by rw [wrap_ok] <;> omega
    have hw1 : IntKind.wrap .i64 ((i : Int) - 1) = (i : Int) - 1 := by rw [wrap_ok] <;> omega
    have hd : l.drop i = l[i] :: l.drop (i + 1) := List.drop_eq_getElem_cons hlt
    have hx : l.getD (i : Int).toNat (R_laws_eqPlanFieldS.C.dflt .fld) = l[i] := by simp [hlt]
    have hin : inb (i : Int) l.length = true := by simp only [inb, Bool.and_eq_true, decide_eq_true_eq]; omega
    have hlo : decide ((i : Int) < (l.length : Int)) = true := decide_eq_true (by omega)
    have htk := List.take_succ_eq_append_getElem hlt
    have hl : (l.take (i + 1)).getLast? = some l[i] := by rw [List.take_succ_eq_append_getElem hlt, List.getLast?_concat]
    have hlt' : i < l'.length := by omega
    have hin' : inb (i : Int) l'.length = true := by simp only [inb, Bool.and_eq_true, decide_eq_true_eq]; omega
    have hx' : l'.getD (i : Int).toNat (R_laws_eqPlanFieldS.C.dflt .fld) = l'[i] := by simp [hlt']
    rw [hlo, hin, hin', hx, hx', hw]
    simp only [ifb_true]
    by_cases he : l[i] = l'[i]
    · rw [show decide (l[i] = l'[i]) = true from decide_eq_true he]
      simp only [Bool.not_true, ifb_false]
      exact Sat.cut (ih (i + 1) (by omega) (by rw [List.take_succ_eq_append_getElem hlt, List.take_succ_eq_append_getElem hlt', ht, he]))
    · rw [show decide (l[i] = l'[i]) = false from decide_eq_false he]
      simp only [Bool.not_false, ifb_true]
      exact Sat.retB (decide_eq_false (fun h => he (by subst h; rfl))).symm rfl
theorem c_laws_eqPlanFieldS (l l' : List Fld) (hg : tS_PlanField l = true) : CallOK Tryz.prog CP g_laws_eqPlanFieldS [.sl .fld l, .sl .fld l'] [] ((.bool (decide (l = l')))) [] := by
  refine CallOK.of R_laws_eqPlanFieldS_ok (by kernel_rfl) (t_laws_eqPlanFieldS l l') ?_
  simp only [tS_PlanField, Bool.and_eq_true, decide_eq_true_eq] at hg
  obtain ⟨g0, g1⟩ := hg
  by_cases hl : l.length = l'.length
  · rw [show ((l.length : Int) != (l'.length : Int)) = false by simp [hl]]
    simp only [ifb_false]
    have := l_laws_eqPlanFieldS l l' hl g0 trivial l.length 0 (by omega) rfl
    exact Sat.cut this
  · rw [show ((l.length : Int) != (l'.length : Int)) = true by simp; omega]
    exact Sat.retB (decide_eq_false (fun h => hl (by rw [h]))).symm rfl
theorem E_laws_eqPlanFieldS_ok : EntOK Tryz.prog CP g_laws_eqPlanFieldS E_laws_eqPlanFieldS := by
  refine ⟨⟨Tryz.f256, by kernel_rfl, by kernel_rfl, by kernel_rfl⟩, fun args H res H' h => ?_⟩
  simp only [E_laws_eqPlanFieldS] at h
  split at h
  · simp only [Option.some.injEq, Prod.mk.injEq] at h
    obtain ⟨hg, rfl, rfl⟩ := h
    exact c_laws_eqPlanFieldS _ _ hg
  · cases h

/-- laws.eqPlanEntry -/
noncomputable def R_laws_eqPlanEntry : RE Ty El := ⟨Tryz.prog, CP, [(g_laws_eqPlanFieldS, E_laws_eqPlanFieldS)], Tryz.f207, 0, [], []⟩
theorem R_laws_eqPlanEntry_ok : REOK R_laws_eqPlanEntry g_laws_eqPlanEntry := ⟨CP_ok, (TabOK.cons E_laws_eqPlanFieldS_ok EOKnil), by kernel_rfl, by kernel_rfl⟩
theorem t_laws_eqPlanEntry (name : Str) (fields : List Fld) (name' : Str) (fields' : List Fld) : aRun R_laws_eqPlanEntry 600 false (body0 R_laws_eqPlanEntry.fn) (initSt R_laws_eqPlanEntry.fn [.agg [.str name, .sl .fld fields], .agg [.str name', .sl .fld fields']] []) =
  ifb (!name == name') (some (.ret (.bool false) [])) (ifb (tS_PlanField fields) (ifb (!decide (fields = fields')) (some (.ret (.bool false) [])) (some (.ret (.bool true) []))) (none)) := by kernel_rfl
theorem c_laws_eqPlanEntry (name : Str) (fields : List Fld) (name' : Str) (fields' : List Fld) (hg : t_PlanEntry name fields = true) : CallOK Tryz.prog CP g_laws_eqPlanEntry [.agg [.str name, .sl .fld fields], .agg [.str name', .sl .fld fields']] [] (.bool (decide ((⟨name, fields⟩ : Entry) = ⟨name', fields'⟩))) [] := by
  refine CallOK.of R_laws_eqPlanEntry_ok (by kernel_rfl) (t_laws_eqPlanEntry name fields name' fields') ?_
  simp only [t_PlanEntry, Bool.and_eq_true] at hg
  obtain ⟨g0, -⟩ := hg
  repeat' (refine Sat.ifb (fun h => ?_) (fun h => ?_))
  all_goals (first | (refine Sat.retB ?_ rfl; simp_all; done) | (refine Sat.no ?_; simp_all; done))
theorem E_laws_eqPlanEntry_ok : EntOK Tryz.prog CP g_laws_eqPlanEntry E_laws_eqPlanEntry := by
  refine ⟨⟨Tryz.f207, by kernel_rfl, by kernel_rfl, by kernel_rfl⟩, fun args H res H' h => ?_⟩
  simp only [E_laws_eqPlanEntry] at h
  split at h
  · simp only [Option.some.injEq, Prod.mk.injEq] at h
    obtain ⟨hg, rfl, rfl⟩ := h
    exact c_laws_eqPlanEntry _ _ _ _ hg
  · cases h

/-- laws.eqPlanEntryS -/
noncomputable def R_laws_eqPlanEntryS : RE Ty El := ⟨Tryz.prog, CP, [(g_laws_eqPlanEntry, E_laws_eqPlanEntry)], Tryz.f132, 0, [], [(4, [(0, .any), (1, .any), (5, .any)])]⟩
theorem R_laws_eqPlanEntryS_ok : REOK R_laws_eqPlanEntryS g_laws_eqPlanEntryS := ⟨CP_ok, (TabOK.cons E_laws_eqPlanEntry_ok EOKnil), by kernel_rfl, by kernel_rfl⟩
theorem t_laws_eqPlanEntryS (l l' : List Entry) : aRun R_laws_eqPlanEntryS 600 false (body0 R_laws_eqPlanEntryS.fn) (initSt R_laws_eqPlanEntryS.fn [.sl .entry l, .sl .entry l'] []) =
  ifb ((↑l.length : Int) != (↑l'.length : Int)) (some (.ret (.bool false) [])) (some (.go (todoAt R_laws_eqPlanEntryS.fn 4) [.sl .entry l, .sl .entry l', .int .i64 (0 : Int)] [])) := by kernel_rfl
theorem t_laws_eqPlanEntryS_4 (x0 : List (El .entry)) (x1 : List (El .entry)) (x2 : Int) : aRun R_laws_eqPlanEntryS 600 true (todoAt R_laws_eqPlanEntryS.fn 4) (cutSt R_laws_eqPlanEntryS.fn (liveOf R_laws_eqPlanEntryS (todoAt R_laws_eqPlanEntryS.fn 4)) [.sl .entry x0, .sl .entry x1, .int .i64 x2] []) =
  ifb (decide (x2 < (↑x0.length : Int))) (ifb (inb x2 x0.length) (ifb (inb x2 x1.length) (ifb (t_PlanEntry (x0.getD x2.toNat (R_laws_eqPlanEntryS.C.dflt Ty.entry)).name (x0.getD x2.toNat (R_laws_eqPlanEntryS.C.dflt Ty.entry)).fields) (ifb (!decide (x0.getD x2.toNat (R_laws_eqPlanEntryS.C.dflt Ty.entry) = x1.getD x2.toNat (R_laws_eqPlanEntryS.C.dflt Ty.entry))) (some (.ret (.bool false) [])) (some (.go (todoAt R_laws_eqPlanEntryS.fn 4) [.sl .entry x0, .sl .entry x1, .int .i64 (IntKind.i64.wrap (x2 + (1 : Int)))] []))) (none)) (none)) (none)) (some (.ret (.bool true) [])) := by kernel_rfl
theorem l_laws_eqPlanEntryS (l l' : List Entry) (hl' : l.length = l'.length) (g0 : l.length ≤ 1000000000) (g1 : l.all (fun z : Entry => t_PlanEntry z.name z.fields) = true) : ∀ (d i : Nat), i + d = l.length → l.take i = l'.take i →
    Cut R_laws_eqPlanEntryS g_laws_eqPlanEntryS 4 [.sl .entry l, .sl .entry l', .int .i64 (i : Int)] [] (.bool (decide (l = l'))) [] := by
  intro d
  induction d with
  | zero =>
    intro i hi ht
    refine Cut.of R_laws_eqPlanEntryS_ok rfl (t_laws_eqPlanEntryS_4 l l' i) ?_
    rw [show decide ((i : Int) < (l.length : Int)) = false from decide_eq_false (by omega)]
    rw [List.take_of_length_le (by omega), List.take_of_length_le (by omega)] at ht
    exact Sat.retB (decide_eq_true ht).symm rfl
  | succ d ih =>
    intro i hi ht
    refine Cut.of R_laws_eqPlanEntryS_ok rfl (t_laws_eqPlanEntryS_4 l l' i) ?_
    have hlt : i < l.length := by omega
    have hw : IntKind.wrap .i64 ((i : Int) + 1) = ((i + 1 : Nat) : Int) := by rw [wrap_ok] <;> omega
    have hw1 : IntKind.wrap .i64 ((i : Int) - 1) = (i : Int) - 1 := by rw [wrap_ok] <;> omega
    have hd : l.drop i = l[i] :: l.drop (i + 1) := List.drop_eq_getElem_cons hlt
    have hx : l.getD (i : Int).toNat (R_laws_eqPlanEntryS.C.dflt .entry) = l[i] := by simp [hlt]
    have hin : inb (i : Int) l.length = true := by simp only [inb, Bool.and_eq_true, decide_eq_true_eq]; omega
    have hlo : decide ((i : Int) < (l.length : Int)) = true := decide_eq_true (by omega)
    have htk := List.take_succ_eq_append_getElem hlt
    have hl : (l.take (i + 1)).getLast? = some l[i] := by rw [List.take_succ_eq_append_getElem hlt, List.getLast?_concat]
    have hlt' : i < l'.length := by omega
    have hin' : inb (i : Int) l'.length = true := by simp only [inb, Bool.and_eq_true, decide_eq_true_eq]; omega
    have hx' : l'.getD (i : Int).toNat (R_laws_eqPlanEntryS.C.dflt .entry) = l'[i] := by simp [hlt']
    rw [hlo, hin, hin', hx, hx', hw]
    simp only [ifb_true]
    rw [show (t_PlanEntry l[i].name l[i].fields) = true from List.all_eq_true.1 g1 l[i] (List.getElem_mem hlt)]
    simp only [ifb_true]
    by_cases he : l[i] = l'[i]
    · rw [show decide (l[i] = l'[i]) = true from decide_eq_true he]
      simp only [Bool.not_true, ifb_false]
      exact Sat.cut (ih (i + 1) (by omega) (by rw [List.take_succ_eq_append_getElem hlt, List.take_succ_eq_append_getElem hlt', ht, he]))
    · rw [show decide (l[i] = l'[i]) = false from decide_eq_false he]
      simp only [Bool.not_false, ifb_true]
      exact Sat.retB (decide_eq_false (fun h => he (by subst h; rfl))).symm rfl
theorem c_laws_eqPlanEntryS (l l' : List Entry) (hg : tS_PlanEntry l = true) : CallOK Tryz.prog CP g_laws_eqPlanEntryS [.sl .entry l, .sl .entry l'] [] ((.bool (decide (l = l')))) [] := by
  refine CallOK.of R_laws_eqPlanEntryS_ok (by kernel_rfl) (t_laws_eqPlanEntryS l l') ?_
  simp only [tS_PlanEntry, Bool.and_eq_true, decide_eq_true_eq] at hg
  obtain ⟨g0, g1⟩ := hg
  by_cases hl : l.length = l'.length
  · rw [show ((l.length : Int) != (l'.length : Int)) = false by simp [hl]]
    simp only [ifb_false]
    have := l_laws_eqPlanEntryS l l' hl g0 g1 l.length 0 (by omega) rfl
    exact Sat.cut this
  · rw [show ((l.length : Int) != (l'.length : Int)) = true by simp; omega]
    exact Sat.retB (decide_eq_false (fun h => hl (by rw [h]))).symm rfl
theorem E_laws_eqPlanEntryS_ok : EntOK Tryz.prog CP g_laws_eqPlanEntryS E_laws_eqPlanEntryS := by
  refine ⟨⟨Tryz.f132, by kernel_rfl, by kernel_rfl, by kernel_rfl⟩, fun args H res H' h => ?_⟩
  simp only [E_laws_eqPlanEntryS] at h
  split at h
  · simp only [Option.some.injEq, Prod.mk.injEq] at h
    obtain ⟨hg, rfl, rfl⟩ := h
    exact c_laws_eqPlanEntryS _ _ hg
  · cases h

/-- laws.eqPlanBook -/
noncomputable def R_laws_eqPlanBook : RE Ty El := ⟨Tryz.prog, CP, [(g_laws_eqPlanBase, E_laws_eqPlanBase), (g_laws_eqPlanEntryS, E_laws_eqPlanEntryS)], Tryz.f40, 0, [], []⟩
theorem R_laws_eqPlanBook_ok : REOK R_laws_eqPlanBook g_laws_eqPlanBook := ⟨CP_ok, (TabOK.cons E_laws_eqPlanBase_ok (TabOK.cons E_laws_eqPlanEntryS_ok EOKnil)), by kernel_rfl, by kernel_rfl⟩
theorem t_laws_eqPlanBook (ks : List Kind) (ps : List Point) (es : List Entry) (ks' : List Kind) (ps' : List Point) (es' : List Entry) : aRun R_laws_eqPlanBook 600 false (body0 R_laws_eqPlanBook.fn) (initSt R_laws_eqPlanBook.fn [.agg [.sl .kind ks, .sl .point ps, .sl .entry es], .agg [.sl .kind ks', .sl .point ps', .sl .entry es']] []) =
  ifb (t_PlanBase ks ps) (ifb (!(decide (ks = ks') && (decide (ps = ps') && true))) (some (.ret (.bool false) [])) (ifb (tS_PlanEntry es) (ifb (!decide (es = es')) (some (.ret (.bool false) [])) (some (.ret (.bool true) []))) (none))) (none) := by kernel_rfl
theorem c_laws_eqPlanBook (ks : List Kind) (ps : List Point) (es : List Entry) (ks' : List Kind) (ps' : List Point) (es' : List Entry) (hg : t_PlanBook ks ps es = true) : CallOK Tryz.prog CP g_laws_eqPlanBook [.agg [.sl .kind ks, .sl .point ps, .sl .entry es], .agg [.sl .kind ks', .sl .point ps', .sl .entry es']] [] (.bool (((decide (ks = ks') && (decide (ps = ps') && true)) && (decide (es = es') && true)))) [] := by
  refine CallOK.of R_laws_eqPlanBook_ok (by kernel_rfl) (t_laws_eqPlanBook ks ps es ks' ps' es') ?_
  simp only [t_PlanBook, Bool.and_eq_true] at hg
  obtain ⟨g0, g1, g2, -⟩ := hg
  have n0 : t_PlanBase ks ps = true := by simp only [t_PlanBase, g0, g1, g2, Bool.and_true]
  rw [n0]
  simp only [ifb_true]
  cases q0 : (decide (ks = ks') && (decide (ps = ps') && true)) with
  | false =>
    simp only [Bool.not_false, ifb_true, Bool.false_and]
    exact Sat.retB rfl rfl
  | true =>
  simp only [Bool.not_true, ifb_false, Bool.true_and]
  rw [show tS_PlanEntry es = true by assumption]
  simp only [ifb_true]
  cases q1 : decide (es = es') with
  | false =>
    simp only [Bool.not_false, ifb_true, Bool.false_and]
    exact Sat.retB rfl rfl
  | true =>
  simp only [Bool.not_true, ifb_false, Bool.true_and]
  exact Sat.retB rfl rfl
theorem E_laws_eqPlanBook_ok : EntOK Tryz.prog CP g_laws_eqPlanBook E_laws_eqPlanBook := by
  refine ⟨⟨Tryz.f40, by kernel_rfl, by kernel_rfl, by kernel_rfl⟩, fun args H res H' h => ?_⟩
  simp only [E_laws_eqPlanBook] at h
  split at h
  · simp only [Option.some.injEq, Prod.mk.injEq] at h
    obtain ⟨hg, rfl, rfl⟩ := h
    exact c_laws_eqPlanBook _ _ _ _ _ _ hg
  · cases h
end Lx
/- Arguments read as data. -/
set_option linter.unusedVariables false
set_option linter.unusedSimpArgs false
namespace Lx
open Go Go.Proofs
theorem Rd.mono {P : Program} {Ty : Type} {El : Ty → Type} {C : Cod Ty El} {t : TypeId} {n : Nat} {Φ Ψ : List (AV Ty El) → Prop} (h : Rd P C t n Φ) (hm : ∀ L, Φ L → Ψ L) : Rd P C t n Ψ := fun H enc w fuel cs x hx => by
  obtain ⟨h1, L, h2, h3, h4⟩ := h H enc w fuel cs x hx
  exact ⟨h1, L, h2, hm L h3, h4⟩
theorem lenOk_max {n : Nat} (h : n ≤ maxLen) : lenOk n = true := decide_eq_true (by unfold maxLen at h; omega)
theorem okS_of {α : Type} {l : List α} {f : α → Bool} (h : l.length ≤ maxLen) (hf : ∀ z ∈ l, f z = true) : (lenOk l.length && l.all f) = true := by
  rw [lenOk_max h, List.all_eq_true.2 hf]; rfl
theorem okS_of0 {α : Type} {l : List α} (h : l.length ≤ maxLen) : (lenOk l.length && true) = true := by rw [lenOk_max h]; rfl
theorem rd_int : Rd Tryz.prog CP 3 1 (fun L => ∃ n, L = [.int .i64 n] ∧ (Lit.int .i64 n).wf = true) := Rd.int Tryz.underlying3
theorem rd_str : Rd Tryz.prog CP 9 1 (fun L => ∃ s : Str, L = [.str s] ∧ s.length ≤ maxLen) := Rd.str Tryz.underlying9
theorem rd_bool : Rd Tryz.prog CP 4 1 (fun L => ∃ b, L = [.bool b]) := Rd.bool Tryz.underlying4
theorem rd_PlanKind : Rd Tryz.prog CP 274 3 (fun L => ∃ (name : Str) (quick : Int) (slow : Int), L = [.str name, .int .i64 quick, .int .i64 slow] ∧ ok_PlanKind name quick slow = true) := by
  refine Rd.mono (Rd.struct (fs := _) Tryz.underlying274 (by kernel_rfl) (RdL.cons _ _ 0 1 2 _ _ rfl rd_str (RdL.cons _ _ 1 1 1 _ _ rfl rd_int (RdL.cons _ _ 2 1 0 _ _ rfl rd_int (RdL.nil 3))))) ?_
  rintro L ⟨_, _, rfl, ⟨name, rfl, h0⟩, _, _, rfl, ⟨quick, rfl, _⟩, _, _, rfl, ⟨slow, rfl, _⟩, rfl⟩
  exact ⟨name, quick, slow, rfl, by simp only [ok_PlanKind, Bool.and_eq_true]; exact ⟨lenOk_max h0, trivial⟩⟩
theorem rds_PlanKind : Rd Tryz.prog CP 73 1 (fun L => ∃ xs : List Kind, L = [.sl .lkind xs] ∧ xs.length ≤ maxLen ∧ ∀ z ∈ xs, ok_PlanKind z.name z.quick z.slow = true) := Rd.slice CP_ok (T := .lkind) (Q := fun z : Kind => ok_PlanKind z.name z.quick z.slow = true) Tryz.underlying73 (by kernel_rfl) rd_PlanKind (fun L h => by obtain ⟨name, quick, slow, rfl, h⟩ := h; exact ⟨⟨name, quick, slow⟩, rfl, h⟩)
theorem rd_PlanPoint : Rd Tryz.prog CP 276 3 (fun L => ∃ (name : Str) (x : Int) (y : Int), L = [.str name, .int .i64 x, .int .i64 y] ∧ ok_PlanPoint name x y = true) := by
  refine Rd.mono (Rd.struct (fs := _) Tryz.underlying276 (by kernel_rfl) (RdL.cons _ _ 0 1 2 _ _ rfl rd_str (RdL.cons _ _ 1 1 1 _ _ rfl rd_int (RdL.cons _ _ 2 1 0 _ _ rfl rd_int (RdL.nil 3))))) ?_
  rintro L ⟨_, _, rfl, ⟨name, rfl, h0⟩, _, _, rfl, ⟨x, rfl, _⟩, _, _, rfl, ⟨y, rfl, _⟩, rfl⟩
  exact ⟨name, x, y, rfl, by simp only [ok_PlanPoint, Bool.and_eq_true]; exact ⟨lenOk_max h0, trivial⟩⟩
theorem rds_PlanPoint : Rd Tryz.prog CP 74 1 (fun L => ∃ xs : List Point, L = [.sl .lpoint xs] ∧ xs.length ≤ maxLen ∧ ∀ z ∈ xs, ok_PlanPoint z.name z.x z.y = true) := Rd.slice CP_ok (T := .lpoint) (Q := fun z : Point => ok_PlanPoint z.name z.x z.y = true) Tryz.underlying74 (by kernel_rfl) rd_PlanPoint (fun L h => by obtain ⟨name, x, y, rfl, h⟩ := h; exact ⟨⟨name, x, y⟩, rfl, h⟩)
theorem rd_PlanField : Rd Tryz.prog CP 320 3 (fun L => ∃ (what : Int) (number : Int) (value : Str), L = [.int .i64 what, .int .i64 number, .str value] ∧ ok_PlanField what number value = true) := by
  refine Rd.mono (Rd.struct (fs := _) Tryz.underlying320 (by kernel_rfl) (RdL.cons _ _ 0 1 2 _ _ rfl rd_int (RdL.cons _ _ 1 1 1 _ _ rfl rd_int (RdL.cons _ _ 2 1 0 _ _ rfl rd_str (RdL.nil 3))))) ?_
  rintro L ⟨_, _, rfl, ⟨what, rfl, _⟩, _, _, rfl, ⟨number, rfl, _⟩, _, _, rfl, ⟨value, rfl, h0⟩, rfl⟩
  exact ⟨what, number, value, rfl, by simp only [ok_PlanField, Bool.and_eq_true]; exact ⟨lenOk_max h0, trivial⟩⟩
theorem rds_PlanField : Rd Tryz.prog CP 238 1 (fun L => ∃ xs : List Fld, L = [.sl .lfld xs] ∧ xs.length ≤ maxLen ∧ ∀ z ∈ xs, ok_PlanField z.what z.number z.value = true) := Rd.slice CP_ok (T := .lfld) (Q := fun z : Fld => ok_PlanField z.what z.number z.value = true) Tryz.underlying238 (by kernel_rfl) rd_PlanField (fun L h => by obtain ⟨what, number, value, rfl, h⟩ := h; exact ⟨⟨what, number, value⟩, rfl, h⟩)
theorem rd_PlanEntry : Rd Tryz.prog CP 240 2 (fun L => ∃ (name : Str) (fields : List Fld), L = [.str name, .sl .lfld fields] ∧ ok_PlanEntry name fields = true) := by
  refine Rd.mono (Rd.struct (fs := _) Tryz.underlying240 (by kernel_rfl) (RdL.cons _ _ 0 1 1 _ _ rfl rd_str (RdL.cons _ _ 1 1 0 _ _ rfl rds_PlanField (RdL.nil 2)))) ?_
  rintro L ⟨_, _, rfl, ⟨name, rfl, h0⟩, _, _, rfl, ⟨fields, rfl, h1, m1⟩, rfl⟩
  exact ⟨name, fields, rfl, by simp only [ok_PlanEntry, Bool.and_eq_true]; exact ⟨lenOk_max h0, okS_of h1 m1, trivial⟩⟩
theorem rds_PlanEntry : Rd Tryz.prog CP 77 1 (fun L => ∃ xs : List Entry, L = [.sl .lentry xs] ∧ xs.length ≤ maxLen ∧ ∀ z ∈ xs, ok_PlanEntry z.name z.fields = true) := Rd.slice CP_ok (T := .lentry) (Q := fun z : Entry => ok_PlanEntry z.name z.fields = true) Tryz.underlying77 (by kernel_rfl) rd_PlanEntry (fun L h => by obtain ⟨name, fields, rfl, h⟩ := h; exact ⟨⟨name, fields⟩, rfl, h⟩)
theorem rd_PlanBase : Rd Tryz.prog CP 76 2 (fun L => ∃ (ks : List Kind) (ps : List Point), L = [.sl .lkind ks, .sl .lpoint ps] ∧ ok_PlanBase ks ps = true) := by
  refine Rd.mono (Rd.struct (fs := _) Tryz.underlying76 (by kernel_rfl) (RdL.cons _ _ 0 1 1 _ _ rfl rds_PlanKind (RdL.cons _ _ 1 1 0 _ _ rfl rds_PlanPoint (RdL.nil 2)))) ?_
  rintro L ⟨_, _, rfl, ⟨ks, rfl, h0, m0⟩, _, _, rfl, ⟨ps, rfl, h1, m1⟩, rfl⟩
  exact ⟨ks, ps, rfl, by simp only [ok_PlanBase, Bool.and_eq_true]; exact ⟨okS_of h0 m0, okS_of h1 m1, trivial⟩⟩
theorem rd_PlanBook : Rd Tryz.prog CP 79 3 (fun L => ∃ (ks : List Kind) (ps : List Point) (es : List Entry), L = [.sl .lkind ks, .sl .lpoint ps, .sl .lentry es] ∧ ok_PlanBook ks ps es = true) := by
  refine Rd.mono (Rd.struct (fs := _) Tryz.underlying79 (by kernel_rfl) (RdL.cons _ _ 0 2 1 _ _ rfl rd_PlanBase (RdL.cons _ _ 2 1 0 _ _ rfl rds_PlanEntry (RdL.nil 3)))) ?_
  rintro L ⟨_, _, rfl, ⟨ks, ps, rfl, h0⟩, _, _, rfl, ⟨es, rfl, h1, m1⟩, rfl⟩
  exact ⟨ks, ps, es, rfl, by simp only [ok_PlanBook, Bool.and_eq_true]; exact ⟨h0, okS_of h1 m1, trivial⟩⟩
end Lx
/- Small arguments: what the laws' own measure gives. -/
set_option linter.unusedVariables false
set_option linter.unusedSimpArgs false
namespace Lx
open Go Go.Proofs
theorem sumN_mem {α : Type} (f : α → Nat) {a : α} : ∀ {l : List α}, a ∈ l → f a ≤ sumN f l
  | b :: l, h => by
    rw [sumN_cons]
    rcases List.mem_cons.1 h with rfl | h
    · omega
    · have := sumN_mem f h; omega
theorem flds_small {l : List Fld} {N : Nat} (hN : N ≤ 1000000000) (h : wS_PlanField l ≤ N) : tS_PlanField l = true ∧ l.length ≤ N ∧ l.all (fun f => szV f.value) = true := by
  unfold wS_PlanField at h
  refine ⟨by unfold tS_PlanField; rw [decide_eq_true (by omega)]; rfl, by omega, List.all_eq_true.2 fun z hz => decide_eq_true ?_⟩
  have := sumN_mem (fun z : Fld => w_PlanField z.what z.number z.value) hz
  simp only [w_PlanField] at this
  simp only [w_PlanField] at h
  omega
theorem entry_small {e : Entry} {N : Nat} (hN : N ≤ 1000000000) (h : w_PlanEntry e.name e.fields ≤ N) : t_PlanEntry e.name e.fields = true ∧ szE e = true := by
  unfold w_PlanEntry at h
  obtain ⟨h1, h2, h3⟩ := flds_small hN (by omega : wS_PlanField e.fields ≤ N)
  refine ⟨by unfold t_PlanEntry; rw [h1]; rfl, ?_⟩
  unfold szE
  rw [h3, decide_eq_true (by omega)]; rfl
theorem entries_small {l : List Entry} {N : Nat} (hN : N ≤ 1000000000) (h : wS_PlanEntry l ≤ N) : tS_PlanEntry l = true ∧ szB l = true ∧ l.length ≤ N := by
  unfold wS_PlanEntry at h
  have hm : ∀ z ∈ l, w_PlanEntry z.name z.fields ≤ N := fun z hz => by
    have := sumN_mem (fun z : Entry => w_PlanEntry z.name z.fields) hz
    have this : w_PlanEntry z.name z.fields ≤ sumN (fun z : Entry => w_PlanEntry z.name z.fields) l := this
    omega
  refine ⟨?_, ?_, by omega⟩
  · unfold tS_PlanEntry
    rw [decide_eq_true (by omega), List.all_eq_true.2 fun z hz => (entry_small hN (hm z hz)).1]; rfl
  · unfold szB
    rw [decide_eq_true (by omega), List.all_eq_true.2 fun z hz => (entry_small hN (hm z hz)).2]; rfl
theorem book_small {ks : List Kind} {ps : List Point} {es : List Entry} (h : w_PlanBook ks ps es ≤ 1048576) : t_PlanBook ks ps es = true ∧ szB es = true ∧ es.length ≤ 1048576 ∧ ps.length ≤ 1048576 ∧ ks.length ≤ 1048576 := by
  unfold w_PlanBook w_PlanBase wS_PlanKind wS_PlanPoint at h
  obtain ⟨h1, h2, h3⟩ := entries_small (N := 1048576) (by omega) (by omega : wS_PlanEntry es ≤ 1048576)
  refine ⟨?_, h2, h3, by omega, by omega⟩
  unfold t_PlanBook tS_PlanKind tS_PlanPoint
  rw [decide_eq_true (by omega), decide_eq_true (by omega), h1]; rfl
end Lx
/- The law of PlanOver, exact. -/
set_option linter.unusedVariables false
set_option linter.unusedSimpArgs false
set_option maxRecDepth 4000
namespace Lx
open Go Go.Proofs
/-- laws.FnExactPlanOver -/
noncomputable def R_laws_FnExactPlanOver : RE Ty El := ⟨Tryz.prog, CP, [(g_laws_szPlanBook, E_laws_szPlanBook), (g_laws_toPlanBook, E_laws_toPlanBook), (g_spec_PlanOver, E_spec_PlanOver), (g_impl_PlanOver, E_impl_PlanOver), (g_laws_eqPlanBook, E_laws_eqPlanBook)], Tryz.f6, 0, [], []⟩
theorem R_laws_FnExactPlanOver_ok : REOK R_laws_FnExactPlanOver g_laws_FnExactPlanOver := ⟨CP_ok, (TabOK.cons E_laws_szPlanBook_ok (TabOK.cons E_laws_toPlanBook_ok (TabOK.cons E_spec_PlanOver_ok (TabOK.cons E_impl_PlanOver_ok (TabOK.cons E_laws_eqPlanBook_ok EOKnil))))), by kernel_rfl, by kernel_rfl⟩
theorem t_laws_FnExactPlanOver (ks : List Kind) (ps : List Point) (es : List Entry) (n p : Str) : aRun R_laws_FnExactPlanOver 600 false (body0 R_laws_FnExactPlanOver.fn) (initSt R_laws_FnExactPlanOver.fn [.agg [.sl .lkind ks, .sl .lpoint ps, .sl .lentry es], .str n, .str p] []) =
  ifb (decide ((↑(List.length n) : Int) > (1048576 : Int))) (some (.ret (.bool true) [])) (ifb (decide ((↑(List.length p) : Int) > (1048576 : Int))) (some (.ret (.bool true) [])) (ifb (ok_PlanBook ks ps es && leftOk (1048576 : Int)) (ifb (decide (szL (1048576 : Int) (w_PlanBook ks ps es) < (0 : Int))) (some (.ret (.bool true) [])) (ifb (t_PlanBook ks ps es) (ifb (szB es && decide (es.length < (1000000000 : Nat)) && decide (ps.length < (1000000000 : Nat))) (ifb (t_PlanBook ks ps es) (ifb (szB es && decide (es.length < (1000000000 : Nat)) && decide (ps.length < (1000000000 : Nat))) (ifb (((overF ks ps es n p).getD ((0 : Int), (0 : Int))).fst != ((overF ks ps es n p).getD ((0 : Int), (0 : Int))).fst) (some (.ret (.bool false) [])) (ifb (((overF ks ps es n p).getD ((0 : Int), (0 : Int))).snd != ((overF ks ps es n p).getD ((0 : Int), (0 : Int))).snd) (some (.ret (.bool false) [])) (ifb (!(overF ks ps es n p).isSome == (overF ks ps es n p).isSome) (some (.ret (.bool false) [])) (ifb (t_PlanBook ks ps es) (ifb (t_PlanBook ks ps es) (ifb (!(decide (ks = ks) && (decide (ps = ps) && true) && (decide (es = es) && true))) (some (.ret (.bool false) [])) (some (.ret (.bool true) []))) (none)) (none))))) (none)) (none)) (none)) (none))) (none))) := by kernel_rfl
theorem c_laws_FnExactPlanOver (ks : List Kind) (ps : List Point) (es : List Entry) (n p : Str) (hg : ok_PlanBook ks ps es = true) : CallOK Tryz.prog CP g_laws_FnExactPlanOver [.agg [.sl .lkind ks, .sl .lpoint ps, .sl .lentry es], .str n, .str p] [] (.bool true) [] := by
  refine CallOK.of R_laws_FnExactPlanOver_ok (by kernel_rfl) (t_laws_FnExactPlanOver ks ps es n p) ?_
  have yes : Sat R_laws_FnExactPlanOver g_laws_FnExactPlanOver (.bool true) [] (some (.ret (.bool true) [])) := Sat.ret rfl rfl
  refine Sat.ifb (fun _ => yes) (fun _ => ?_)
  refine Sat.ifb (fun _ => yes) (fun _ => ?_)
  rw [show (ok_PlanBook ks ps es && leftOk 1048576) = true by rw [hg]; rfl]
  simp only [ifb_true]
  by_cases c : (1048576 : Int) - ((w_PlanBook ks ps es : Nat) : Int) < 0
  · rw [szL_lt c]; exact yes
  obtain ⟨s1, s2, s3, s4, s5⟩ := book_small (by omega : w_PlanBook ks ps es ≤ 1048576)
  rw [szL_ge c, decide_eq_false c]
  simp only [ifb_false, s1, s2, decide_eq_true (show es.length < 1000000000 by omega), decide_eq_true (show ps.length < 1000000000 by omega), Bool.and_self, Bool.and_true, ifb_true, bne_self_eq_false, beq_self_eq_true, decide_true, Bool.not_true]
  exact yes
end Lx
