/- Functions, each with its contract. -/
import Derived.Shelf.Strings.Split
import Derived.Shelf.Strconv.Atoi
import Derived.Shelf.Strings.Trim
import Derived.Shelf.Strings.Count
import Derived.Test.YtefjaihaocdpcaaGreatDoorProg
import Derived.KernelRfl
import Derived.Lib.SlTrimSet
import Derived.Lib.Atoi
import Derived.Shelf.Strings.SlTrimAscii
import Derived.Test.YtefjaihaocdpcaaGreatDoorLac
set_option linter.unusedVariables false
set_option linter.unusedSimpArgs false
set_option maxRecDepth 4000
namespace Lx
open Go Go.Proofs
/-- spec.l17Min -/
noncomputable def R_spec_l17Min : RE Ty El := ⟨Tryz.prog, CP, [], Tryz.f87, 0, [], []⟩
theorem R_spec_l17Min_ok : REOK R_spec_l17Min g_spec_l17Min := ⟨CP_ok, EOKnil, by kernel_rfl, by kernel_rfl⟩
theorem t_spec_l17Min (x y : Int) : aRun R_spec_l17Min 600 false (body0 R_spec_l17Min.fn) (initSt R_spec_l17Min.fn [.int .i64 x, .int .i64 y] []) =
  ifb (decide (x < y)) (some (.ret (.int .i64 x) [])) (some (.ret (.int .i64 y) [])) := by kernel_rfl
theorem c_spec_l17Min (x y : Int) : CallOK Tryz.prog CP g_spec_l17Min [.int .i64 x, .int .i64 y] [] (.int .i64 (min x y)) [] := by
  refine CallOK.of R_spec_l17Min_ok (by kernel_rfl) (t_spec_l17Min x y) ?_
  repeat' (first | (refine Sat.ifb (fun h => ?_) (fun h => ?_)) | (refine Sat.retB ?_ rfl; simp_all []; done) | (refine Sat.retI ?_ rfl; simp_all []; done))
  all_goals (first | (refine Sat.no ?_; simp_all; done) | (refine Sat.no ?_; simp_all; omega) | (refine Sat.retB ?_ rfl; simp_all []; omega) | (refine Sat.retI ?_ rfl; simp_all []; omega))
theorem E_spec_l17Min_ok : EntOK Tryz.prog CP g_spec_l17Min E_spec_l17Min := by
  refine ⟨⟨Tryz.f87, by kernel_rfl, by kernel_rfl, by kernel_rfl⟩, fun args H res H' h => ?_⟩
  simp only [E_spec_l17Min] at h
  split at h
  · simp only [Option.some.injEq, Prod.mk.injEq] at h
    obtain ⟨hg, rfl, rfl⟩ := h
    exact c_spec_l17Min _ _
  · cases h

/-- spec.l17Max -/
noncomputable def R_spec_l17Max : RE Ty El := ⟨Tryz.prog, CP, [], Tryz.f88, 0, [], []⟩
theorem R_spec_l17Max_ok : REOK R_spec_l17Max g_spec_l17Max := ⟨CP_ok, EOKnil, by kernel_rfl, by kernel_rfl⟩
theorem t_spec_l17Max (x y : Int) : aRun R_spec_l17Max 600 false (body0 R_spec_l17Max.fn) (initSt R_spec_l17Max.fn [.int .i64 x, .int .i64 y] []) =
  ifb (decide (x > y)) (some (.ret (.int .i64 x) [])) (some (.ret (.int .i64 y) [])) := by kernel_rfl
theorem c_spec_l17Max (x y : Int) : CallOK Tryz.prog CP g_spec_l17Max [.int .i64 x, .int .i64 y] [] (.int .i64 (max x y)) [] := by
  refine CallOK.of R_spec_l17Max_ok (by kernel_rfl) (t_spec_l17Max x y) ?_
  repeat' (first | (refine Sat.ifb (fun h => ?_) (fun h => ?_)) | (refine Sat.retB ?_ rfl; simp_all []; done) | (refine Sat.retI ?_ rfl; simp_all []; done))
  all_goals (first | (refine Sat.no ?_; simp_all; done) | (refine Sat.no ?_; simp_all; omega) | (refine Sat.retB ?_ rfl; simp_all []; omega) | (refine Sat.retI ?_ rfl; simp_all []; omega))
theorem E_spec_l17Max_ok : EntOK Tryz.prog CP g_spec_l17Max E_spec_l17Max := by
  refine ⟨⟨Tryz.f88, by kernel_rfl, by kernel_rfl, by kernel_rfl⟩, fun args H res H' h => ?_⟩
  simp only [E_spec_l17Max] at h
  split at h
  · simp only [Option.some.injEq, Prod.mk.injEq] at h
    obtain ⟨hg, rfl, rfl⟩ := h
    exact c_spec_l17Max _ _
  · cases h

/-- spec.l17Abs -/
noncomputable def R_spec_l17Abs : RE Ty El := ⟨Tryz.prog, CP, [], Tryz.f197, 0, [], []⟩
theorem R_spec_l17Abs_ok : REOK R_spec_l17Abs g_spec_l17Abs := ⟨CP_ok, EOKnil, by kernel_rfl, by kernel_rfl⟩
theorem t_spec_l17Abs (x : Int) : aRun R_spec_l17Abs 600 false (body0 R_spec_l17Abs.fn) (initSt R_spec_l17Abs.fn [.int .i64 x] []) =
  ifb (decide (x < (0 : Int))) (some (.ret (.int .i64 (IntKind.i64.wrap ((0 : Int) - x))) [])) (some (.ret (.int .i64 x) [])) := by kernel_rfl
theorem c_spec_l17Abs (x : Int) (hg : smallI x = true) : CallOK Tryz.prog CP g_spec_l17Abs [.int .i64 x] [] (.int .i64 (x.natAbs : Int)) [] := by
  refine CallOK.of R_spec_l17Abs_ok (by kernel_rfl) (t_spec_l17Abs x) ?_
  simp only [smallI, Bool.and_eq_true, decide_eq_true_eq] at hg
  refine Sat.ifb (fun h => ?_) (fun h => ?_)
  · refine Sat.retI ?_ rfl
    simp at h
    rw [wrap_ok] <;> omega
  · refine Sat.retI ?_ rfl
    simp at h; omega
theorem E_spec_l17Abs_ok : EntOK Tryz.prog CP g_spec_l17Abs E_spec_l17Abs := by
  refine ⟨⟨Tryz.f197, by kernel_rfl, by kernel_rfl, by kernel_rfl⟩, fun args H res H' h => ?_⟩
  simp only [E_spec_l17Abs] at h
  split at h
  · simp only [Option.some.injEq, Prod.mk.injEq] at h
    obtain ⟨hg, rfl, rfl⟩ := h
    exact c_spec_l17Abs _ hg
  · cases h

/-- impl.dist -/
noncomputable def R_impl_dist : RE Ty El := ⟨Tryz.prog, CP, [], Tryz.f192, 0, [], []⟩
theorem R_impl_dist_ok : REOK R_impl_dist g_impl_dist := ⟨CP_ok, EOKnil, by kernel_rfl, by kernel_rfl⟩
theorem t_impl_dist (x y : Int) : aRun R_impl_dist 600 false (body0 R_impl_dist.fn) (initSt R_impl_dist.fn [.int .i64 x, .int .i64 y] []) =
  ifb (decide (x > y)) (some (.ret (.int .i64 (IntKind.i64.wrap (x - y))) [])) (some (.ret (.int .i64 (IntKind.i64.wrap (y - x))) [])) := by kernel_rfl
theorem c_impl_dist (x y : Int) (hg : (smallI x && smallI y) = true) : CallOK Tryz.prog CP g_impl_dist [.int .i64 x, .int .i64 y] [] (.int .i64 ((x - y).natAbs : Int)) [] := by
  refine CallOK.of R_impl_dist_ok (by kernel_rfl) (t_impl_dist x y) ?_
  simp only [smallI, Bool.and_eq_true, decide_eq_true_eq] at hg
  refine Sat.ifb (fun h => ?_) (fun h => ?_)
  · refine Sat.retI ?_ rfl
    simp at h
    rw [wrap_ok] <;> omega
  · refine Sat.retI ?_ rfl
    simp at h
    rw [wrap_ok] <;> omega
theorem E_impl_dist_ok : EntOK Tryz.prog CP g_impl_dist E_impl_dist := by
  refine ⟨⟨Tryz.f192, by kernel_rfl, by kernel_rfl, by kernel_rfl⟩, fun args H res H' h => ?_⟩
  simp only [E_impl_dist] at h
  split at h
  · simp only [Option.some.injEq, Prod.mk.injEq] at h
    obtain ⟨hg, rfl, rfl⟩ := h
    exact c_impl_dist _ _ hg
  · cases h

/-- impl.floorDiv -/
noncomputable def R_impl_floorDiv : RE Ty El := ⟨Tryz.prog, CP, [], Tryz.f193, 0, [], []⟩
theorem R_impl_floorDiv_ok : REOK R_impl_floorDiv g_impl_floorDiv := ⟨CP_ok, EOKnil, by kernel_rfl, by kernel_rfl⟩
theorem t_impl_floorDiv (x y : Int) : aRun R_impl_floorDiv 600 false (body0 R_impl_floorDiv.fn) (initSt R_impl_floorDiv.fn [.int .i64 x, .int .i64 y] []) =
  ifb (!y == (0 : Int)) (ifb (!y == (0 : Int)) (ifb (x.tmod y != (0 : Int)) (ifb (!decide (x < (0 : Int)) == decide (y < (0 : Int))) (some (.ret (.int .i64 (IntKind.i64.wrap (IntKind.i64.wrap (x.tdiv y) - (1 : Int)))) [])) (some (.ret (.int .i64 (IntKind.i64.wrap (x.tdiv y))) []))) (some (.ret (.int .i64 (IntKind.i64.wrap (x.tdiv y))) []))) (none)) (none) := by kernel_rfl
theorem c_impl_floorDiv (x y : Int) (hg : (smallI x && (smallI y && decide (0 < y))) = true) : CallOK Tryz.prog CP g_impl_floorDiv [.int .i64 x, .int .i64 y] [] (.int .i64 (x / y)) [] := by
  refine CallOK.of R_impl_floorDiv_ok (by kernel_rfl) (t_impl_floorDiv x y) ?_
  simp only [smallI, Bool.and_eq_true, decide_eq_true_eq] at hg
  obtain ⟨hx, hy, hy0⟩ := hg
  have h2 := Int.mul_ediv_add_emod x y
  have h3 := Int.emod_nonneg x (by omega : y ≠ 0)
  have h4 := Int.emod_lt_of_pos x hy0
  have h5 : (x.tdiv y).natAbs ≤ x.natAbs := Int.natAbs_tdiv_le_natAbs x y
  have h6 := Int.tdiv_eq_ediv (a := x) (b := y)
  have h7 := Int.tmod_eq_emod (a := x) (b := y)
  have h8 := Int.emod_eq_zero_of_dvd (a := y) (b := x)
  have h9 := Int.dvd_of_emod_eq_zero (a := y) (b := x)
  have hs : y.sign = 1 := Int.sign_eq_one_of_pos hy0
  have hw : IntKind.wrap .i64 (x.tdiv y) = x.tdiv y := by rw [wrap_ok] <;> omega
  have hw1 : IntKind.wrap .i64 (x.tdiv y - 1) = x.tdiv y - 1 := by rw [wrap_ok] <;> omega
  rw [hw, hw1]
  by_cases hx0 : 0 ≤ x
  · simp only [hx0, true_or, if_true] at h6 h7
    have hn1 : ¬ x < 0 := by omega
    have hn2 : ¬ y < 0 := by omega
    repeat' (first | (refine Sat.ifb (fun h => ?_) (fun h => ?_)))
    all_goals (first | (refine Sat.no ?_; simp at h; omega) | (exact Sat.retI (by omega) rfl) | (refine Sat.no ?_; simp_all))
  · have hn1 : x < 0 := by omega
    have hn2 : ¬ y < 0 := by omega
    by_cases hd : y ∣ x
    · have h8 := h8 hd
      simp only [hd, or_true, if_true] at h6 h7
      repeat' (first | (refine Sat.ifb (fun h => ?_) (fun h => ?_)))
      all_goals (first | (refine Sat.no ?_; simp at h; omega) | (exact Sat.retI (by omega) rfl) | (refine Sat.no ?_; simp_all))
    · have h9 : x % y ≠ 0 := fun e => hd (h9 e)
      simp only [hd, hx0, or_self, if_false, hs] at h6 h7
      repeat' (first | (refine Sat.ifb (fun h => ?_) (fun h => ?_)))
      all_goals (first | (refine Sat.no ?_; simp at h; omega) | (exact Sat.retI (by omega) rfl) | (refine Sat.no ?_; simp_all; omega))
theorem E_impl_floorDiv_ok : EntOK Tryz.prog CP g_impl_floorDiv E_impl_floorDiv := by
  refine ⟨⟨Tryz.f193, by kernel_rfl, by kernel_rfl, by kernel_rfl⟩, fun args H res H' h => ?_⟩
  simp only [E_impl_floorDiv] at h
  split at h
  · simp only [Option.some.injEq, Prod.mk.injEq] at h
    obtain ⟨hg, rfl, rfl⟩ := h
    exact c_impl_floorDiv _ _ hg
  · cases h

/-- impl.PlanLevels -/
noncomputable def R_impl_PlanLevels : RE Ty El := ⟨Tryz.prog, CP, [(g_impl_within, E_impl_within)], Tryz.f85, 0, [.ro .int], [(5, [(0, .any), (1, .any), (5, .any), (6, .any)])]⟩
theorem R_impl_PlanLevels_ok : REOK R_impl_PlanLevels g_impl_PlanLevels := ⟨CP_ok, (TabOK.cons E_impl_within_ok EOKnil), by kernel_rfl, by kernel_rfl⟩
theorem t_impl_PlanLevels (n l : Int) : aRun R_impl_PlanLevels 600 false (body0 R_impl_PlanLevels.fn) (initSt R_impl_PlanLevels.fn [.int .i64 n, .int .i64 l] []) =
  ifb (!inR n (1 : Int) (40 : Int)) (some (.ret (.sl .int []) [])) (ifb (!inR l (1 : Int) (6 : Int)) (some (.ret (.sl .int []) [])) (some (.go (todoAt R_impl_PlanLevels.fn 5) [.int .i64 n, .int .i64 l, .own 0 [] 0, .int .i64 (0 : Int)] [.row .int [] 0 0 0 .no]))) := by kernel_rfl
theorem t_impl_PlanLevels_5 (x0 : Int) (x1 : Int) (x2 : Int) (x3 : List (El .int)) : aRun R_impl_PlanLevels 600 true (todoAt R_impl_PlanLevels.fn 5) (cutSt R_impl_PlanLevels.fn (liveOf R_impl_PlanLevels (todoAt R_impl_PlanLevels.fn 5)) [.int .i64 x0, .int .i64 x1, .own 0 [] 0, .int .i64 x2] [.row .int x3 0 0 0 .no]) =
  ifb (decide (x2 < x0)) (ifb (decide ((x3.length + [min2A (min2A x1 x2) (IntKind.i64.wrap (IntKind.i64.wrap (x0 - (1 : Int)) - x2))].length) * bytesOf' R_impl_PlanLevels.P (3 : Nat) ≤ (140737488355328 : Nat))) (some (.go (todoAt R_impl_PlanLevels.fn 5) [.int .i64 x0, .int .i64 x1, .own 0 [] 0, .int .i64 (IntKind.i64.wrap (x2 + (1 : Int)))] [.row .int (x3 ++ [min2A (min2A x1 x2) (IntKind.i64.wrap (IntKind.i64.wrap (x0 - (1 : Int)) - x2))]) 0 0 0 .no])) (none)) (some (.ret (.sl .int x3) [])) := by kernel_rfl
theorem l_impl_PlanLevels (n l : Int) (hn : inR n 1 40 = true) (hl : inR l 1 6 = true) : ∀ (d k : Nat), (k : Int) + d = n → Cut R_impl_PlanLevels g_impl_PlanLevels 5 [.int .i64 n, .int .i64 l, .own 0 [] 0, .int .i64 (k : Int)] [.row .int ((List.range k).map (levelAt n l)) 0 0 0 .no] (.sl .int (levelsF n l)) [] := by
  have hn' := hn
  simp only [inR, Bool.and_eq_true, decide_eq_true_eq] at hn'
  have hb : bytesOf' R_impl_PlanLevels.P 3 = 8 := by kernel_rfl
  intro d
  induction d with
  | zero =>
    intro k hk
    refine Cut.of R_impl_PlanLevels_ok rfl (t_impl_PlanLevels_5 n l k _) ?_
    refine Sat.ifb (fun h => ?_) (fun h => ?_)
    · simp at h; omega
    · refine Sat.ret ?_ rfl
      have : n.toNat = k := by omega
      simp [levelsF, hn, hl, this]
  | succ d ih =>
    intro k hk
    refine Cut.of R_impl_PlanLevels_ok rfl (t_impl_PlanLevels_5 n l k _) ?_
    have hw : IntKind.wrap .i64 ((k : Int) + 1) = ((k + 1 : Nat) : Int) := by rw [wrap_ok] <;> omega
    have hw1 : IntKind.wrap .i64 (n - 1) = n - 1 := by rw [wrap_ok] <;> omega
    have hw2 : IntKind.wrap .i64 (n - 1 - (k : Int)) = n - 1 - (k : Int) := by rw [wrap_ok] <;> omega
    rw [hw, hw1, hw2]
    refine Sat.ifb (fun h => ?_) (fun h => ?_)
    · refine Sat.ifb (fun h => ?_) (fun h => ?_)
      · have hlev : min2A (min2A l (k : Int)) (n - 1 - (k : Int)) = levelAt n l k := by simp only [levelAt, min2A]; (repeat' split) <;> omega
        rw [hlev]
        have := ih (k + 1) (by omega)
        rw [List.range_succ, List.map_append] at this
        exact Sat.cut this
      · simp [hb] at h; omega
    · simp at h; omega
theorem c_impl_PlanLevels (n l : Int) : CallOK Tryz.prog CP g_impl_PlanLevels [.int .i64 n, .int .i64 l] [] (.sl .int (levelsF n l)) [] := by
  refine CallOK.of R_impl_PlanLevels_ok (by kernel_rfl) (t_impl_PlanLevels n l) ?_
  have hne : ∀ x y z, inR x y z = false → ¬ (inR x y z = true) := fun x y z h => by simp [h]
  repeat' (first | (refine Sat.ifb (fun h => ?_) (fun h => ?_)))
  all_goals (first | (refine Sat.ret ?_ rfl; simp_all [levelsF]; done) | (refine Sat.cut (l_impl_PlanLevels n l (by simp_all) (by simp_all) n.toNat 0 ?_); simp_all [inR]; try omega))
theorem E_impl_PlanLevels_ok : EntOK Tryz.prog CP g_impl_PlanLevels E_impl_PlanLevels := by
  refine ⟨⟨Tryz.f85, by kernel_rfl, by kernel_rfl, by kernel_rfl⟩, fun args H res H' h => ?_⟩
  simp only [E_impl_PlanLevels] at h
  split at h
  · simp only [Option.some.injEq, Prod.mk.injEq] at h
    obtain ⟨hg, rfl, rfl⟩ := h
    exact c_impl_PlanLevels _ _
  · cases h

/-- spec.PlanLevels -/
noncomputable def R_spec_PlanLevels : RE Ty El := ⟨Tryz.prog, CP, [(g_spec_l11In, E_spec_l11In), (g_spec_l17Min, E_spec_l17Min)], Tryz.f86, 0, [.ro .int], [(5, [(0, .any), (1, .any), (5, .any), (6, .any)])]⟩
theorem R_spec_PlanLevels_ok : REOK R_spec_PlanLevels g_spec_PlanLevels := ⟨CP_ok, (TabOK.cons E_spec_l11In_ok (TabOK.cons E_spec_l17Min_ok EOKnil)), by kernel_rfl, by kernel_rfl⟩
theorem t_spec_PlanLevels (n l : Int) : aRun R_spec_PlanLevels 600 false (body0 R_spec_PlanLevels.fn) (initSt R_spec_PlanLevels.fn [.int .i64 n, .int .i64 l] []) =
  ifb (!inR n (1 : Int) (40 : Int)) (some (.ret (.sl .int []) [])) (ifb (!inR l (1 : Int) (6 : Int)) (some (.ret (.sl .int []) [])) (some (.go (todoAt R_spec_PlanLevels.fn 5) [.int .i64 n, .int .i64 l, .own 0 [] 0, .int .i64 (0 : Int)] [.row .int [] 0 0 0 .no]))) := by kernel_rfl
theorem t_spec_PlanLevels_5 (x0 : Int) (x1 : Int) (x2 : Int) (x3 : List (El .int)) : aRun R_spec_PlanLevels 600 true (todoAt R_spec_PlanLevels.fn 5) (cutSt R_spec_PlanLevels.fn (liveOf R_spec_PlanLevels (todoAt R_spec_PlanLevels.fn 5)) [.int .i64 x0, .int .i64 x1, .own 0 [] 0, .int .i64 x2] [.row .int x3 0 0 0 .no]) =
  ifb (decide (x2 < x0)) (ifb (decide ((x3.length + [min x1 (min x2 (IntKind.i64.wrap (IntKind.i64.wrap (x0 - (1 : Int)) - x2)))].length) * bytesOf' R_spec_PlanLevels.P (3 : Nat) ≤ (140737488355328 : Nat))) (some (.go (todoAt R_spec_PlanLevels.fn 5) [.int .i64 x0, .int .i64 x1, .own 0 [] 0, .int .i64 (IntKind.i64.wrap (x2 + (1 : Int)))] [.row .int (x3 ++ [min x1 (min x2 (IntKind.i64.wrap (IntKind.i64.wrap (x0 - (1 : Int)) - x2)))]) 0 0 0 .no])) (none)) (some (.ret (.sl .int x3) [])) := by kernel_rfl
theorem l_spec_PlanLevels (n l : Int) (hn : inR n 1 40 = true) (hl : inR l 1 6 = true) : ∀ (d k : Nat), (k : Int) + d = n → Cut R_spec_PlanLevels g_spec_PlanLevels 5 [.int .i64 n, .int .i64 l, .own 0 [] 0, .int .i64 (k : Int)] [.row .int ((List.range k).map (levelAt n l)) 0 0 0 .no] (.sl .int (levelsF n l)) [] := by
  have hn' := hn
  simp only [inR, Bool.and_eq_true, decide_eq_true_eq] at hn'
  have hb : bytesOf' R_spec_PlanLevels.P 3 = 8 := by kernel_rfl
  intro d
  induction d with
  | zero =>
    intro k hk
    refine Cut.of R_spec_PlanLevels_ok rfl (t_spec_PlanLevels_5 n l k _) ?_
    refine Sat.ifb (fun h => ?_) (fun h => ?_)
    · simp at h; omega
    · refine Sat.ret ?_ rfl
      have : n.toNat = k := by omega
      simp [levelsF, hn, hl, this]
  | succ d ih =>
    intro k hk
    refine Cut.of R_spec_PlanLevels_ok rfl (t_spec_PlanLevels_5 n l k _) ?_
    have hw : IntKind.wrap .i64 ((k : Int) + 1) = ((k + 1 : Nat) : Int) := by rw [wrap_ok] <;> omega
    have hw1 : IntKind.wrap .i64 (n - 1) = n - 1 := by rw [wrap_ok] <;> omega
    have hw2 : IntKind.wrap .i64 (n - 1 - (k : Int)) = n - 1 - (k : Int) := by rw [wrap_ok] <;> omega
    rw [hw, hw1, hw2]
    refine Sat.ifb (fun h => ?_) (fun h => ?_)
    · refine Sat.ifb (fun h => ?_) (fun h => ?_)
      · have hlev : min l (min (k : Int) (n - 1 - (k : Int))) = levelAt n l k := by rfl
        rw [hlev]
        have := ih (k + 1) (by omega)
        rw [List.range_succ, List.map_append] at this
        exact Sat.cut this
      · simp [hb] at h; omega
    · simp at h; omega
theorem c_spec_PlanLevels (n l : Int) : CallOK Tryz.prog CP g_spec_PlanLevels [.int .i64 n, .int .i64 l] [] (.sl .int (levelsF n l)) [] := by
  refine CallOK.of R_spec_PlanLevels_ok (by kernel_rfl) (t_spec_PlanLevels n l) ?_
  repeat' (first | (refine Sat.ifb (fun h => ?_) (fun h => ?_)))
  all_goals (first | (refine Sat.ret ?_ rfl; simp_all [levelsF]; done) | (refine Sat.cut (l_spec_PlanLevels n l (by simp_all) (by simp_all) n.toNat 0 ?_); simp_all [inR]; try omega))
theorem E_spec_PlanLevels_ok : EntOK Tryz.prog CP g_spec_PlanLevels E_spec_PlanLevels := by
  refine ⟨⟨Tryz.f86, by kernel_rfl, by kernel_rfl, by kernel_rfl⟩, fun args H res H' h => ?_⟩
  simp only [E_spec_PlanLevels, E_impl_PlanLevels] at h
  split at h
  · simp only [Option.some.injEq, Prod.mk.injEq] at h
    obtain ⟨hg, rfl, rfl⟩ := h
    exact c_spec_PlanLevels _ _
  · cases h
end Lx
/- Meanings, third batch: strings cut and read. -/
set_option linter.unusedVariables false
namespace Lx
open Go Go.Proofs
def cutS (c : Int) : Str → List Str
  | [] => [[]]
  | b :: s => if ((b.toNat : Int) == c) = true then [] :: cutS c s else match cutS c s with
    | [] => [[b]]
    | w :: ws => (b :: w) :: ws
def preF (p : Str) : List Str → List Str
  | [] => [p]
  | w :: ws => (p ++ w) :: ws
theorem cutS_ne (c : Int) (s : Str) : cutS c s ≠ [] := by
  cases s with
  | nil => simp [cutS]
  | cons b s => simp only [cutS]; split; · simp
                split <;> simp
theorem preF_nil {c : Int} {s : Str} : preF [] (cutS c s) = cutS c s := by
  have := cutS_ne c s
  cases h : cutS c s with
  | nil => exact absurd h this
  | cons w ws => simp [preF]
theorem preF_hit {c : Int} {s p : Str} {b : UInt8} (h : ((b.toNat : Int) == c) = true) : preF p (cutS c (b :: s)) = p :: cutS c s := by
  simp only [cutS, h, if_true, preF, List.append_nil]
theorem preF_miss {c : Int} {s p : Str} {b : UInt8} (h : ((b.toNat : Int) == c) = false) : preF p (cutS c (b :: s)) = preF (p ++ [b]) (cutS c s) := by
  have := cutS_ne c s
  simp only [cutS, h, Bool.false_eq_true, if_false]
  cases h : cutS c s with
  | nil => exact absurd h this
  | cons w ws => simp [preF]
/-- The number that a text of digits says; -1: none. -/
def numGo : Int → Str → Int
  | n, [] => n
  | n, b :: s => if (b.toNat : Int) < 48 ∨ (b.toNat : Int) > 57 then -1 else numGo (n * 10 + ((b.toNat : Int) - 48)) s
def numF (s : Str) : Int := if 1 ≤ s.length ∧ s.length ≤ 7 ∧ ¬ (1 < s.length ∧ ((s.getD 0 0).toNat : Int) = 48) then numGo 0 s else -1
def valF (fs : List Fld) (w : Int) : Str := match fs.find? (fun f => f.what == w) with
  | some f => f.value
  | none => []
theorem valF_cons (f : Fld) (fs : List Fld) (w : Int) : valF (f :: fs) w = ifb (f.what == w) f.value (valF fs w) := by
  unfold valF
  rw [List.find?_cons]
  cases h : (f.what == w) <;> rfl
def E_spec_l12Cut : Ent Ty El := ⟨[.ro, .ro], 0, fun a h => match a, h with
  | [.str s, .int .u8 c], [] => some (decide (s.length ≤ 1000000000), .sl .str (cutS c s), [])
  | _, _ => none⟩
def E_spec_l12Number : Ent Ty El := ⟨[.ro], 0, fun a h => match a, h with
  | [.str s], [] => some (true, .int .i64 (numF s), [])
  | _, _ => none⟩
def E_spec_l16Value : Ent Ty El := ⟨[.ro, .ro], 0, fun a h => match a, h with
  | [.agg [.str n, .sl .fld fs], .int .i64 w], [] => some (decide (fs.length ≤ 1000000000), .str (valF fs w), [])
  | _, _ => none⟩
end Lx
/- Functions, each with its contract. -/
set_option linter.unusedVariables false
set_option linter.unusedSimpArgs false
set_option maxRecDepth 4000
namespace Lx
open Go Go.Proofs
/-- spec.l12Cut -/
noncomputable def R_spec_l12Cut : RE Ty El := ⟨Tryz.prog, CP, [], Tryz.f111, 0, [.ro .str], [(4, [(0, .any), (1, .any), (5, .any), (6, .any), (7, .any)])]⟩
theorem R_spec_l12Cut_ok : REOK R_spec_l12Cut g_spec_l12Cut := ⟨CP_ok, EOKnil, by kernel_rfl, by kernel_rfl⟩
theorem t_spec_l12Cut (s : Str) (c : Int) : aRun R_spec_l12Cut 600 false (body0 R_spec_l12Cut.fn) (initSt R_spec_l12Cut.fn [.str s, .int .u8 c] []) =
  some (.go (todoAt R_spec_l12Cut.fn 4) [.str s, .int .u8 c, .own 0 [] 0, .int .i64 (0 : Int), .int .i64 (0 : Int)] [.row .str [] 0 0 0 .no]) := by kernel_rfl
theorem t_spec_l12Cut_4 (x0 : Str) (x1 : Int) (x2 : Int) (x3 : Int) (x4 : List (El .str)) : aRun R_spec_l12Cut 600 true (todoAt R_spec_l12Cut.fn 4) (cutSt R_spec_l12Cut.fn (liveOf R_spec_l12Cut (todoAt R_spec_l12Cut.fn 4)) [.str x0, .int .u8 x1, .own 0 [] 0, .int .i64 x2, .int .i64 x3] [.row .str x4 0 0 0 .no]) =
  ifb (decide (x3 < (↑(List.length x0) : Int))) (ifb (inb x3 (List.length x0)) (ifb ((↑(List.getD x0 x3.toNat (0 : UInt8)).toNat : Int) == x1) (ifb (decide ((0 : Int) ≤ x2) && (decide (x2 ≤ x3) && decide (x3 ≤ (↑(List.length x0) : Int)))) (ifb (decide ((x4.length + [List.take (x3.toNat - x2.toNat) (List.drop x2.toNat x0)].length) * bytesOf' R_spec_l12Cut.P (9 : Nat) ≤ (140737488355328 : Nat))) (some (.go (todoAt R_spec_l12Cut.fn 4) [.str x0, .int .u8 x1, .own 0 [] 0, .int .i64 (IntKind.i64.wrap (x3 + (1 : Int))), .int .i64 (IntKind.i64.wrap (x3 + (1 : Int)))] [.row .str (x4 ++ [List.take (x3.toNat - x2.toNat) (List.drop x2.toNat x0)]) 0 0 0 .no])) (none)) (none)) (some (.go (todoAt R_spec_l12Cut.fn 4) [.str x0, .int .u8 x1, .own 0 [] 0, .int .i64 x2, .int .i64 (IntKind.i64.wrap (x3 + (1 : Int)))] [.row .str x4 0 0 0 .no]))) (none)) (ifb (decide ((0 : Int) ≤ x2) && (decide (x2 ≤ (↑(List.length x0) : Int)) && decide ((↑(List.length x0) : Int) ≤ (↑(List.length x0) : Int)))) (ifb (decide ((x4.length + [List.take ((↑(List.length x0) : Int).toNat - x2.toNat) (List.drop x2.toNat x0)].length) * bytesOf' R_spec_l12Cut.P (9 : Nat) ≤ (140737488355328 : Nat))) (some (.ret (.sl .str (x4 ++ [List.take ((↑(List.length x0) : Int).toNat - x2.toNat) (List.drop x2.toNat x0)])) [])) (none)) (none)) := by kernel_rfl
theorem l_spec_l12Cut (s : Str) (c : Int) (hs : s.length ≤ 1000000000) : ∀ (d i fr : Nat) (acc : List Str), i + d = s.length → fr ≤ i → acc.length ≤ i →
    Cut R_spec_l12Cut g_spec_l12Cut 4 [.str s, .int .u8 c, .own 0 [] 0, .int .i64 (fr : Int), .int .i64 (i : Int)] [.row .str acc 0 0 0 .no] (.sl .str (acc ++ preF ((s.drop fr).take (i - fr)) (cutS c (s.drop i)))) [] := by
  have hb : bytesOf' R_spec_l12Cut.P 9 = 16 := by kernel_rfl
  intro d
  induction d with
  | zero =>
    intro i fr acc hi hf ha
    refine Cut.of R_spec_l12Cut_ok rfl (t_spec_l12Cut_4 s c fr i acc) ?_
    refine Sat.ifb (fun h => ?_) (fun h => ?_)
    · simp at h; omega
    · refine Sat.ifb (fun h => ?_) (fun h => ?_)
      · refine Sat.ifb (fun h => ?_) (fun h => ?_)
        · refine Sat.ret ?_ rfl
          have e : s.drop i = [] := List.drop_of_length_le (by omega)
          have e2 : s.length = i := by omega
          simp [e, cutS, preF, e2]
        · simp [hb] at h; omega
      · simp at h; omega
  | succ d ih =>
    intro i fr acc hi hf ha
    refine Cut.of R_spec_l12Cut_ok rfl (t_spec_l12Cut_4 s c fr i acc) ?_
    have hlt : i < s.length := by omega
    have hw : IntKind.wrap .i64 ((i : Int) + 1) = ((i + 1 : Nat) : Int) := by rw [wrap_ok] <;> omega
    have hd : s.drop i = s.getD i 0 :: s.drop (i + 1) := by rw [List.drop_eq_getElem_cons hlt]; simp [hlt]
    rw [hw, Int.toNat_natCast, Int.toNat_natCast]
    refine Sat.ifb (fun h => ?_) (fun h => ?_)
    · refine Sat.ifb (fun h => ?_) (fun h => ?_)
      · refine Sat.ifb (fun hb1 => ?_) (fun hb1 => ?_)
        · refine Sat.ifb (fun h => ?_) (fun h => ?_)
          · refine Sat.ifb (fun h => ?_) (fun h => ?_)
            · rw [hd, preF_hit hb1]
              have := ih (i + 1) (i + 1) (acc ++ [(s.drop fr).take (i - fr)]) (by omega) (by omega) (by simp; omega)
              rw [Nat.sub_self, List.take_zero, preF_nil, List.append_assoc] at this
              exact Sat.cut this
            · simp [hb] at h; omega
          · simp at h; omega
        · rw [hd, preF_miss hb1]
          have := ih (i + 1) fr acc (by omega) (by omega) (by omega)
          have e : (s.drop fr).take (i + 1 - fr) = (s.drop fr).take (i - fr) ++ [s.getD i 0] := by
            have : i + 1 - fr = (i - fr) + 1 := by omega
            rw [this, List.take_add_one, List.getElem?_drop, show fr + (i - fr) = i by omega, List.getElem?_eq_getElem hlt, List.getD_eq_getElem?_getD, List.getElem?_eq_getElem hlt]
            rfl
          rw [e] at this
          exact Sat.cut this
      · simp [inb] at h; omega
    · simp at h; omega
theorem c_spec_l12Cut (s : Str) (c : Int) (hg : decide (s.length ≤ 1000000000) = true) : CallOK Tryz.prog CP g_spec_l12Cut [.str s, .int .u8 c] [] (.sl .str (cutS c s)) [] := by
  refine CallOK.of R_spec_l12Cut_ok (by kernel_rfl) (t_spec_l12Cut s c) ?_
  have := l_spec_l12Cut s c (of_decide_eq_true hg) s.length 0 0 [] (by omega) (by omega) (by simp)
  rw [List.nil_append, Nat.sub_self, List.take_zero, List.drop_zero, preF_nil] at this
  exact Sat.cut this
theorem E_spec_l12Cut_ok : EntOK Tryz.prog CP g_spec_l12Cut E_spec_l12Cut := by
  refine ⟨⟨Tryz.f111, by kernel_rfl, by kernel_rfl, by kernel_rfl⟩, fun args H res H' h => ?_⟩
  simp only [E_spec_l12Cut] at h
  split at h
  · simp only [Option.some.injEq, Prod.mk.injEq] at h
    obtain ⟨hg, rfl, rfl⟩ := h
    exact c_spec_l12Cut _ _ hg
  · cases h

/-- spec.l12Number -/
noncomputable def R_spec_l12Number : RE Ty El := ⟨Tryz.prog, CP, [(g_spec_l11In, E_spec_l11In)], Tryz.f112, 0, [], [(5, [(0, .any), (3, .any), (4, .any)])]⟩
theorem R_spec_l12Number_ok : REOK R_spec_l12Number g_spec_l12Number := ⟨CP_ok, (TabOK.cons E_spec_l11In_ok EOKnil), by kernel_rfl, by kernel_rfl⟩
theorem t_spec_l12Number (s : Str) : aRun R_spec_l12Number 600 false (body0 R_spec_l12Number.fn) (initSt R_spec_l12Number.fn [.str s] []) =
  ifb (!inR (↑(List.length s) : Int) (1 : Int) (7 : Int)) (some (.ret (.int .i64 (-1 : Int)) [])) (ifb (decide ((↑(List.length s) : Int) > (1 : Int))) (ifb (inb (0 : Int) (List.length s)) (ifb ((↑(List.getD s (Int.toNat (0 : Int)) (0 : UInt8)).toNat : Int) == (48 : Int)) (some (.ret (.int .i64 (-1 : Int)) [])) (some (.go (todoAt R_spec_l12Number.fn 5) [.str s, .int .i64 (0 : Int), .int .i64 (0 : Int)] []))) (none)) (some (.go (todoAt R_spec_l12Number.fn 5) [.str s, .int .i64 (0 : Int), .int .i64 (0 : Int)] []))) := by kernel_rfl
theorem t_spec_l12Number_5 (x0 : Str) (x1 : Int) (x2 : Int) : aRun R_spec_l12Number 600 true (todoAt R_spec_l12Number.fn 5) (cutSt R_spec_l12Number.fn (liveOf R_spec_l12Number (todoAt R_spec_l12Number.fn 5)) [.str x0, .int .i64 x1, .int .i64 x2] []) =
  ifb (decide (x2 < (↑(List.length x0) : Int))) (ifb (inb x2 (List.length x0)) (ifb (decide ((↑(List.getD x0 x2.toNat (0 : UInt8)).toNat : Int) < (48 : Int))) (some (.ret (.int .i64 (-1 : Int)) [])) (ifb (inb x2 (List.length x0)) (ifb (decide ((↑(List.getD x0 x2.toNat (0 : UInt8)).toNat : Int) > (57 : Int))) (some (.ret (.int .i64 (-1 : Int)) [])) (ifb (inb x2 (List.length x0)) (some (.go (todoAt R_spec_l12Number.fn 5) [.str x0, .int .i64 (IntKind.i64.wrap (IntKind.i64.wrap (IntKind.i64.wrap (x1 * (10 : Int)) + IntKind.i64.wrap (↑(List.getD x0 x2.toNat (0 : UInt8)).toNat : Int)) - (48 : Int))), .int .i64 (IntKind.i64.wrap (x2 + (1 : Int)))] [])) (none))) (none))) (none)) (some (.ret (.int .i64 x1) [])) := by kernel_rfl
theorem l_spec_l12Number (s : Str) (hs : s.length ≤ 7) : ∀ (d i : Nat) (n : Int), i + d = s.length → 0 ≤ n → n < 10 ^ i → Cut R_spec_l12Number g_spec_l12Number 5 [.str s, .int .i64 n, .int .i64 (i : Int)] [] (.int .i64 (numGo n (s.drop i))) [] := by
  intro d
  induction d with
  | zero =>
    intro i n hi h0 hn
    refine Cut.of R_spec_l12Number_ok rfl (t_spec_l12Number_5 s n i) ?_
    refine Sat.ifb (fun h => ?_) (fun h => ?_)
    · simp at h; omega
    · refine Sat.retI ?_ rfl
      rw [List.drop_of_length_le (by omega)]; rfl
  | succ d ih =>
    intro i n hi h0 hn
    refine Cut.of R_spec_l12Number_ok rfl (t_spec_l12Number_5 s n i) ?_
    have hlt : i < s.length := by omega
    have hp : (10 : Int) ^ i ≤ 1000000 := by
      have : i = 0 ∨ i = 1 ∨ i = 2 ∨ i = 3 ∨ i = 4 ∨ i = 5 ∨ i = 6 := by omega
      rcases this with rfl | rfl | rfl | rfl | rfl | rfl | rfl <;> decide
    have hw : IntKind.wrap .i64 ((i : Int) + 1) = ((i + 1 : Nat) : Int) := by rw [wrap_ok] <;> omega
    have hd : s.drop i = s.getD i 0 :: s.drop (i + 1) := by rw [List.drop_eq_getElem_cons hlt]; simp [hlt]
    rw [hw, Int.toNat_natCast, hd]
    have hbb : (s.getD i 0).toNat < 256 := UInt8.toNat_lt _
    generalize hbe : s.getD i 0 = b at *
    have w1 : IntKind.wrap .i64 (n * 10) = n * 10 := by rw [wrap_ok] <;> omega
    have w2 : IntKind.wrap .i64 (b.toNat : Int) = (b.toNat : Int) := by rw [wrap_ok] <;> omega
    have w3 : IntKind.wrap .i64 (n * 10 + (b.toNat : Int)) = n * 10 + (b.toNat : Int) := by rw [wrap_ok] <;> omega
    have w4 : IntKind.wrap .i64 (n * 10 + (b.toNat : Int) - 48) = n * 10 + ((b.toNat : Int) - 48) := by rw [wrap_ok] <;> omega
    rw [w1, w2, w3, w4]
    have hin : inb (i : Int) s.length = true := by simp [inb]; omega
    refine Sat.ifb (fun h => ?_) (fun h => ?_)
    · refine Sat.ifb (fun h => ?_) (fun h => ?_)
      · refine Sat.ifb (fun h => ?_) (fun h1 => ?_)
        · refine Sat.retI ?_ rfl
          simp at h
          simp [numGo, h]
        · refine Sat.ifb (fun _ => ?_) (fun h => ?_)
          · refine Sat.ifb (fun h => ?_) (fun h2 => ?_)
            · refine Sat.retI ?_ rfl
              simp at h
              simp [numGo, h]
            · refine Sat.ifb (fun _ => ?_) (fun h => ?_)
              · simp at h1 h2
                have hnot : ¬ ((b.toNat : Int) < 48 ∨ (b.toNat : Int) > 57) := by omega
                have := ih (i + 1) (n * 10 + ((b.toNat : Int) - 48)) (by omega) (by omega) (by rw [Int.pow_succ]; omega)
                simp only [numGo, hnot, if_false]
                exact Sat.cut this
              · rw [hin] at h; cases h
          · rw [hin] at h; cases h
      · rw [hin] at h; cases h
    · simp at h; omega
theorem c_spec_l12Number (s : Str) : CallOK Tryz.prog CP g_spec_l12Number [.str s] [] (.int .i64 (numF s)) [] := by
  refine CallOK.of R_spec_l12Number_ok (by kernel_rfl) (t_spec_l12Number s) ?_
  have go : 1 ≤ s.length → s.length ≤ 7 → ¬ (1 < s.length ∧ ((s.getD 0 0).toNat : Int) = 48) → Cut R_spec_l12Number g_spec_l12Number 5 [.str s, .int .i64 0, .int .i64 0] [] (.int .i64 (numF s)) [] := fun h1 h2 h3 => by
    have := l_spec_l12Number s h2 s.length 0 0 (by omega) (by omega) (by simp)
    rw [List.drop_zero] at this
    rw [show numF s = numGo 0 s by unfold numF; rw [if_pos ⟨h1, h2, h3⟩]]
    exact this
  refine Sat.ifb (fun h => ?_) (fun h => ?_)
  · refine Sat.retI ?_ rfl
    simp [inR] at h
    unfold numF
    rw [if_neg (by omega)]
  · simp [inR] at h
    refine Sat.ifb (fun h1 => ?_) (fun h1 => ?_)
    · simp at h1
      refine Sat.ifb (fun h2 => ?_) (fun h2 => ?_)
      · refine Sat.ifb (fun h3 => ?_) (fun h3 => ?_)
        · refine Sat.retI ?_ rfl
          have h3' : ((s.getD 0 0).toNat : Int) = 48 := eq_of_beq h3
          unfold numF
          rw [if_neg (fun hc => hc.2.2 ⟨by omega, h3'⟩)]
        · have h3' : ¬ ((s.getD 0 0).toNat : Int) = 48 := beq_eq_false_iff_ne.1 h3
          exact Sat.cut (go (by omega) (by omega) (fun hc => h3' hc.2))
      · have h1' : ((s.length : Int) > 1) := h1
        have : inb (0 : Int) s.length = true := by simp only [inb, Bool.and_eq_true, decide_eq_true_eq]; omega
        rw [this] at h2; cases h2
    · have h1 : ¬ ((s.length : Int) > 1) := of_decide_eq_false h1
      exact Sat.cut (go (by omega) (by omega) (fun hc => by have := hc.1; omega))
theorem E_spec_l12Number_ok : EntOK Tryz.prog CP g_spec_l12Number E_spec_l12Number := by
  refine ⟨⟨Tryz.f112, by kernel_rfl, by kernel_rfl, by kernel_rfl⟩, fun args H res H' h => ?_⟩
  simp only [E_spec_l12Number] at h
  split at h
  · simp only [Option.some.injEq, Prod.mk.injEq] at h
    obtain ⟨hg, rfl, rfl⟩ := h
    exact c_spec_l12Number _
  · cases h

/-- spec.l16Value -/
noncomputable def R_spec_l16Value : RE Ty El := ⟨Tryz.prog, CP, [], Tryz.f190, 0, [], [(2, [(1, .any), (2, .any), (5, .any)])]⟩
theorem R_spec_l16Value_ok : REOK R_spec_l16Value g_spec_l16Value := ⟨CP_ok, EOKnil, by kernel_rfl, by kernel_rfl⟩
theorem t_spec_l16Value (n : Str) (fs : List Fld) (w : Int) : aRun R_spec_l16Value 600 false (body0 R_spec_l16Value.fn) (initSt R_spec_l16Value.fn [.agg [.str n, .sl .fld fs], .int .i64 w] []) =
  some (.go (todoAt R_spec_l16Value.fn 2) [.int .i64 w, .ptr 0 0, .int .i64 (0 : Int)] [.box [.str n, .sl .fld fs]]) := by kernel_rfl
theorem t_spec_l16Value_2 (x0 : Int) (x1 : Int) (x2 : Str) (x3 : List (El .fld)) : aRun R_spec_l16Value 600 true (todoAt R_spec_l16Value.fn 2) (cutSt R_spec_l16Value.fn (liveOf R_spec_l16Value (todoAt R_spec_l16Value.fn 2)) [.int .i64 x0, .ptr 0 0, .int .i64 x1] [.box [.str x2, .sl .fld x3]]) =
  ifb (decide (x1 < (↑x3.length : Int))) (ifb (inb x1 x3.length) (ifb ((x3.getD x1.toNat (R_spec_l16Value.C.dflt Ty.fld)).what == x0) (ifb (inb x1 x3.length) (some (.ret (.str ((x3.getD x1.toNat (R_spec_l16Value.C.dflt Ty.fld)).value)) [])) (none)) (some (.go (todoAt R_spec_l16Value.fn 2) [.int .i64 x0, .ptr 0 0, .int .i64 (IntKind.i64.wrap (x1 + (1 : Int)))] [.box [.str x2, .sl .fld x3]]))) (none)) (some (.ret (.str #[].toList) [])) := by kernel_rfl
theorem l_spec_l16Value (n : Str) (fs : List Fld) (w : Int) (hs : fs.length ≤ 1000000000) : ∀ (d i : Nat), i + d = fs.length → Cut R_spec_l16Value g_spec_l16Value 2 [.int .i64 w, .ptr 0 0, .int .i64 (i : Int)] [.box [.str n, .sl .fld fs]] (.str (valF (fs.drop i) w)) [] := by
  intro d
  induction d with
  | zero =>
    intro i hi
    refine Cut.of R_spec_l16Value_ok rfl (t_spec_l16Value_2 w i n fs) ?_
    refine Sat.ifb (fun h => ?_) (fun h => ?_)
    · simp at h; omega
    · refine Sat.ret ?_ rfl
      rw [List.drop_of_length_le (by omega)]; rfl
  | succ d ih =>
    intro i hi
    refine Cut.of R_spec_l16Value_ok rfl (t_spec_l16Value_2 w i n fs) ?_
    have hlt : i < fs.length := by omega
    have hw : IntKind.wrap .i64 ((i : Int) + 1) = ((i + 1 : Nat) : Int) := by rw [wrap_ok] <;> omega
    have hd : fs.drop i = fs[i] :: fs.drop (i + 1) := List.drop_eq_getElem_cons hlt
    have hx : fs.getD (i : Int).toNat (R_spec_l16Value.C.dflt .fld) = fs[i] := by simp [hlt]
    have hin : inb (i : Int) fs.length = true := by simp [inb]; omega
    rw [hw, hx, hd]
    refine Sat.ifb (fun h => ?_) (fun h => ?_)
    · refine Sat.ifb (fun _ => ?_) (fun h => ?_)
      · refine Sat.ifb (fun h => ?_) (fun h => ?_)
        · refine Sat.ifb (fun _ => ?_) (fun h => ?_)
          · refine Sat.ret ?_ rfl
            rw [valF_cons, h]; rfl
          · rw [hin] at h; cases h
        · have := ih (i + 1) (by omega)
          rw [show valF (fs[i] :: fs.drop (i + 1)) w = valF (fs.drop (i + 1)) w by rw [valF_cons, h]; rfl]
          exact Sat.cut this
      · rw [hin] at h; cases h
    · simp at h; omega
theorem c_spec_l16Value (n : Str) (fs : List Fld) (w : Int) (hg : decide (fs.length ≤ 1000000000) = true) : CallOK Tryz.prog CP g_spec_l16Value [.agg [.str n, .sl .fld fs], .int .i64 w] [] (.str (valF fs w)) [] := by
  refine CallOK.of R_spec_l16Value_ok (by kernel_rfl) (t_spec_l16Value n fs w) ?_
  have := l_spec_l16Value n fs w (of_decide_eq_true hg) fs.length 0 (by omega)
  exact Sat.cut this
theorem E_spec_l16Value_ok : EntOK Tryz.prog CP g_spec_l16Value E_spec_l16Value := by
  refine ⟨⟨Tryz.f190, by kernel_rfl, by kernel_rfl, by kernel_rfl⟩, fun args H res H' h => ?_⟩
  simp only [E_spec_l16Value] at h
  split at h
  · simp only [Option.some.injEq, Prod.mk.injEq] at h
    obtain ⟨hg, rfl, rfl⟩ := h
    exact c_spec_l16Value _ _ _ hg
  · cases h
end Lx
/- Meanings: what is ok, what fits. -/
set_option linter.unusedVariables false
namespace Lx
open Go Go.Proofs
def afterB (prev : Option Str) (n : Str) : Bool := match prev with
  | none => true
  | some p => bytesLt p n
def kindsGo : Option Str → List Kind → Bool
  | _, [] => true
  | prev, k :: ks => k.ok && (afterB prev k.name && kindsGo (some k.name) ks)
def freeOf (seen : List Point) (p : Point) : Bool := seen.all fun q => !(q.x == p.x && q.y == p.y)
def pointsGo : List Point → Option Str → List Point → Bool
  | _, _, [] => true
  | seen, prev, p :: ps => p.ok && (afterB prev p.name && (freeOf seen p && pointsGo (seen ++ [p]) (some p.name) ps))
def baseOk (ks : List Kind) (ps : List Point) : Bool := decide (ks.length ≤ 6) && (decide (ps.length ≤ 16) && (kindsGo none ks && pointsGo [] none ps))
def kindIx (ks : List Kind) (n : Str) : Int := idxF (fun k => k.name == n) ks
def pointIx (ps : List Point) (n : Str) : Int := idxF (fun p => p.name == n) ps
def routeGo (ps : List Point) : Option Str → List Str → Bool
  | _, [] => true
  | prev, n :: w => !decide (pointIx ps n < 0) && (!(prev == some n) && routeGo ps (some n) w)
def routeOk (ps : List Point) (w : List Str) : Bool := inR w.length 2 8 && routeGo ps none w
def timeOk (w : List Str) : Bool := match w with
  | [a, b] => decide (0 ≤ numF a) && inR (numF b) (numF a) 10000
  | _ => false
def wOpen : Str := [111, 112, 101, 110]
def wClosed : Str := [99, 108, 111, 115, 101, 100]
def fitsV (ks : List Kind) (ps : List Point) (what : Int) (v : Str) : Bool :=
  if what = 1 then decide (0 ≤ kindIx ks v) else if what = 2 then timeOk (cutS 32 v) else if what = 3 then inR (numF v) 1 6 else if what = 4 then routeOk ps (cutS 32 v)
  else if what = 5 then v == wOpen || v == wClosed else false
def changeV (ks : List Kind) (ps : List Point) (fl : Str) (what num : Int) (v : Str) : Bool := nameOk fl && (inR num 1 1000000 && fitsV ks ps what v)
def fieldsGo (ks : List Kind) (ps : List Point) (n : Str) : Option Int → List Fld → Bool
  | _, [] => true
  | prev, f :: fs => changeV ks ps n f.what f.number f.value && ((match prev with | none => true | some q => decide (q < f.what)) && fieldsGo ks ps n (some f.what) fs)
def entryOk (ks : List Kind) (ps : List Point) (e : Entry) : Bool := nameOk e.name && (!decide (e.fields.length = 0) && fieldsGo ks ps e.name none e.fields)
def entriesGo (ks : List Kind) (ps : List Point) : Option Str → List Entry → Bool
  | _, [] => true
  | prev, e :: es => entryOk ks ps e && (afterB prev e.name && entriesGo ks ps (some e.name) es)
def bookOk (ks : List Kind) (ps : List Point) (es : List Entry) : Bool := baseOk ks ps && (decide (es.length ≤ 12) && entriesGo ks ps none es)
def E_spec_PlanBaseOk : Ent Ty El := ⟨[.ro], 0, fun a h => match a, h with
  | [.agg [.sl .kind ks, .sl .point ps]], [] => some (true, .bool (baseOk ks ps), [])
  | _, _ => none⟩
def E_spec_l12RouteOk : Ent Ty El := ⟨[.ro, .ro], 0, fun a h => match a, h with
  | [.agg [.sl .kind ks, .sl .point ps], .sl .str w], [] => some (decide (ps.length < 1000000000), .bool (routeOk ps w), [])
  | _, _ => none⟩
def E_spec_l12TimeOk : Ent Ty El := ⟨[.ro], 0, fun a h => match a, h with
  | [.sl .str w], [] => some (true, .bool (timeOk w), [])
  | _, _ => none⟩
end Lx
/- Functions, each with its contract. -/
set_option linter.unusedVariables false
set_option linter.unusedSimpArgs false
set_option maxRecDepth 4000
namespace Lx
open Go Go.Proofs
/-- spec.l12RouteOk -/
noncomputable def R_spec_l12RouteOk : RE Ty El := ⟨Tryz.prog, CP, [(g_spec_l11In, E_spec_l11In), (g_spec_l11Point, E_spec_l11Point)], Tryz.f124, 0, [], [(4, [(1, .any), (2, .any), (5, .any)])]⟩
theorem R_spec_l12RouteOk_ok : REOK R_spec_l12RouteOk g_spec_l12RouteOk := ⟨CP_ok, (TabOK.cons E_spec_l11In_ok (TabOK.cons E_spec_l11Point_ok EOKnil)), by kernel_rfl, by kernel_rfl⟩
theorem t_spec_l12RouteOk (ks : List Kind) (ps : List Point) (w : List Str) : aRun R_spec_l12RouteOk 600 false (body0 R_spec_l12RouteOk.fn) (initSt R_spec_l12RouteOk.fn [.agg [.sl .kind ks, .sl .point ps], .sl .str w] []) =
  ifb (!inR (↑w.length : Int) (2 : Int) (8 : Int)) (some (.ret (.bool false) [])) (some (.go (todoAt R_spec_l12RouteOk.fn 4) [.sl .str w, .ptr 0 0, .int .i64 (0 : Int)] [.box [.sl .kind ks, .sl .point ps]])) := by kernel_rfl
theorem t_spec_l12RouteOk_4 (x0 : List (El .str)) (x1 : Int) (x2 : List (El .kind)) (x3 : List (El .point)) : aRun R_spec_l12RouteOk 600 true (todoAt R_spec_l12RouteOk.fn 4) (cutSt R_spec_l12RouteOk.fn (liveOf R_spec_l12RouteOk (todoAt R_spec_l12RouteOk.fn 4)) [.sl .str x0, .ptr 0 0, .int .i64 x1] [.box [.sl .kind x2, .sl .point x3]]) =
  ifb (decide (x1 < (↑x0.length : Int))) (ifb (inb x1 x0.length) (ifb (decide (x3.length < (1000000000 : Nat))) (ifb (decide (idxF (fun p => p.name == x0.getD x1.toNat (R_spec_l12RouteOk.C.dflt Ty.str)) x3 < (0 : Int))) (some (.ret (.bool false) [])) (ifb (decide (x1 > (0 : Int))) (ifb (inb (IntKind.i64.wrap (x1 - (1 : Int))) x0.length) (ifb (inb x1 x0.length) (ifb (x0.getD (IntKind.i64.wrap (x1 - (1 : Int))).toNat (R_spec_l12RouteOk.C.dflt Ty.str) == x0.getD x1.toNat (R_spec_l12RouteOk.C.dflt Ty.str)) (some (.ret (.bool false) [])) (some (.go (todoAt R_spec_l12RouteOk.fn 4) [.sl .str x0, .ptr 0 0, .int .i64 (IntKind.i64.wrap (x1 + (1 : Int)))] [.box [.sl .kind x2, .sl .point x3]]))) (none)) (none)) (some (.go (todoAt R_spec_l12RouteOk.fn 4) [.sl .str x0, .ptr 0 0, .int .i64 (IntKind.i64.wrap (x1 + (1 : Int)))] [.box [.sl .kind x2, .sl .point x3]])))) (none)) (none)) (some (.ret (.bool true) [])) := by kernel_rfl
theorem l_spec_l12RouteOk (ks : List Kind) (ps : List Point) (w : List Str) (hp : ps.length < 1000000000) (hs : w.length ≤ 8) : ∀ (d i : Nat), i + d = w.length →
    Cut R_spec_l12RouteOk g_spec_l12RouteOk 4 [.sl .str w, .ptr 0 0, .int .i64 (i : Int)] [.box [.sl .kind ks, .sl .point ps]] (.bool (routeGo ps (w.take i).getLast? (w.drop i))) [] := by
  intro d
  induction d with
  | zero =>
    intro i hi
    refine Cut.of R_spec_l12RouteOk_ok rfl (t_spec_l12RouteOk_4 w i ks ps) ?_
    refine Sat.ifb (fun h => ?_) (fun h => ?_)
    · simp at h; omega
    · refine Sat.retB ?_ rfl
      rw [List.drop_of_length_le (by omega)]; rfl
  | succ d ih =>
    intro i hi
    refine Cut.of R_spec_l12RouteOk_ok rfl (t_spec_l12RouteOk_4 w i ks ps) ?_
    have hlt : i < w.length := by omega
    have hw : IntKind.wrap .i64 ((i : Int) + 1) = ((i + 1 : Nat) : Int) := by rw [wrap_ok] <;> omega
    have hw1 : IntKind.wrap .i64 ((i : Int) - 1) = (i : Int) - 1 := by rw [wrap_ok] <;> omega
    have hd : w.drop i = w[i] :: w.drop (i + 1) := List.drop_eq_getElem_cons hlt
    have hx : w.getD (i : Int).toNat (R_spec_l12RouteOk.C.dflt .str) = w[i] := by simp [hlt]
    have hin : inb (i : Int) w.length = true := by simp [inb]; omega
    have hl : (w.take (i + 1)).getLast? = some w[i] := by rw [List.take_succ_eq_append_getElem hlt, List.getLast?_concat]
    have ih' := ih (i + 1) (by omega)
    rw [hl] at ih'
    rw [hw, hw1, hx, hd]
    refine Sat.ifb (fun _ => ?_) (fun h => ?_)
    · refine Sat.ifb (fun _ => ?_) (fun h => ?_)
      · refine Sat.ifb (fun _ => ?_) (fun h => ?_)
        · refine Sat.ifb (fun h => ?_) (fun h => ?_)
          · refine Sat.retB ?_ rfl
            have : decide (pointIx ps w[i] < 0) = true := h
            rw [routeGo, this]; rfl
          · have hix : decide (pointIx ps w[i] < 0) = false := h
            refine Sat.ifb (fun h0 => ?_) (fun h0 => ?_)
            · have h0' : ((i : Int) > 0) := of_decide_eq_true h0
              have hi1 : i - 1 < w.length := by omega
              have hx1 : w.getD ((i : Int) - 1).toNat (R_spec_l12RouteOk.C.dflt .str) = w[i - 1] := by
                rw [show ((i : Int) - 1).toNat = i - 1 by omega]; simp [hi1]
              have hl1 : (w.take i).getLast? = some w[i - 1] := by
                have := List.take_succ_eq_append_getElem hi1
                rw [show i - 1 + 1 = i by omega] at this
                rw [this, List.getLast?_concat]
              rw [hx1]
              refine Sat.ifb (fun _ => ?_) (fun h => ?_)
              · refine Sat.ifb (fun _ => ?_) (fun h => ?_)
                · refine Sat.ifb (fun h => ?_) (fun h => ?_)
                  · refine Sat.retB ?_ rfl
                    rw [routeGo, hix, hl1]
                    simp [eq_of_beq h]
                  · rw [routeGo, hix, hl1, show (some w[i - 1] == some w[i]) = false by rw [Option.some_beq_some]; exact h]
                    exact Sat.cut ih'
                · rw [hin] at h; cases h
              · have : inb ((i : Int) - 1) w.length = true := by simp only [inb, Bool.and_eq_true, decide_eq_true_eq]; omega
                rw [this] at h; cases h
            · have h0' : ¬ ((i : Int) > 0) := of_decide_eq_false h0
              have : i = 0 := by omega
              subst this
              rw [routeGo, hix]
              exact Sat.cut ih'
        · simp at h; omega
      · rw [hin] at h; cases h
    · simp at h; omega
theorem c_spec_l12RouteOk (ks : List Kind) (ps : List Point) (w : List Str) (hg : decide (ps.length < 1000000000) = true) : CallOK Tryz.prog CP g_spec_l12RouteOk [.agg [.sl .kind ks, .sl .point ps], .sl .str w] [] (.bool (routeOk ps w)) [] := by
  refine CallOK.of R_spec_l12RouteOk_ok (by kernel_rfl) (t_spec_l12RouteOk ks ps w) ?_
  refine Sat.ifb (fun h => ?_) (fun h => ?_)
  · refine Sat.retB ?_ rfl
    simp at h
    simp [routeOk, h]
  · simp at h
    have h' := h
    simp only [inR, Bool.and_eq_true, decide_eq_true_eq] at h'
    have := l_spec_l12RouteOk ks ps w (of_decide_eq_true hg) (by omega) w.length 0 (by omega)
    rw [show routeOk ps w = routeGo ps (w.take 0).getLast? (w.drop 0) by simp [routeOk, h]]
    exact Sat.cut this
theorem E_spec_l12RouteOk_ok : EntOK Tryz.prog CP g_spec_l12RouteOk E_spec_l12RouteOk := by
  refine ⟨⟨Tryz.f124, by kernel_rfl, by kernel_rfl, by kernel_rfl⟩, fun args H res H' h => ?_⟩
  simp only [E_spec_l12RouteOk] at h
  split at h
  · simp only [Option.some.injEq, Prod.mk.injEq] at h
    obtain ⟨hg, rfl, rfl⟩ := h
    exact c_spec_l12RouteOk _ _ _ hg
  · cases h

/-- spec.l12TimeOk -/
noncomputable def R_spec_l12TimeOk : RE Ty El := ⟨Tryz.prog, CP, [(g_spec_l12Number, E_spec_l12Number), (g_spec_l11In, E_spec_l11In)], Tryz.f174, 0, [], []⟩
theorem R_spec_l12TimeOk_ok : REOK R_spec_l12TimeOk g_spec_l12TimeOk := ⟨CP_ok, (TabOK.cons E_spec_l12Number_ok (TabOK.cons E_spec_l11In_ok EOKnil)), by kernel_rfl, by kernel_rfl⟩
theorem t_spec_l12TimeOk (w : List Str) : aRun R_spec_l12TimeOk 600 false (body0 R_spec_l12TimeOk.fn) (initSt R_spec_l12TimeOk.fn [.sl .str w] []) =
  ifb ((↑w.length : Int) == (2 : Int)) (ifb (inb (0 : Int) w.length) (ifb (decide (numF (w.getD (Int.toNat (0 : Int)) (R_spec_l12TimeOk.C.dflt Ty.str)) ≥ (0 : Int))) (ifb (inb (1 : Int) w.length) (ifb (inb (0 : Int) w.length) (some (.ret (.bool (inR (numF (w.getD (Int.toNat (1 : Int)) (R_spec_l12TimeOk.C.dflt Ty.str))) (numF (w.getD (Int.toNat (0 : Int)) (R_spec_l12TimeOk.C.dflt Ty.str))) (10000 : Int))) [])) (none)) (none)) (some (.ret (.bool false) []))) (none)) (some (.ret (.bool false) [])) := by kernel_rfl
theorem c_spec_l12TimeOk (w : List Str) : CallOK Tryz.prog CP g_spec_l12TimeOk [.sl .str w] [] (.bool (timeOk w)) [] := by
  refine CallOK.of R_spec_l12TimeOk_ok (by kernel_rfl) (t_spec_l12TimeOk w) ?_
  match w with
  | [] => exact Sat.retB rfl rfl
  | [a] => exact Sat.retB rfl rfl
  | a :: b :: c :: l =>
    refine Sat.ifb (fun h => ?_) (fun h => ?_)
    · simp at h; omega
    · exact Sat.retB rfl rfl
  | [a, b] =>
    refine Sat.ifb (fun h => ?_) (fun h => ?_)
    · repeat' (first | (refine Sat.ifb (fun h => ?_) (fun h => ?_)))
      all_goals (first | (refine Sat.retB ?_ rfl; simp_all [timeOk]; done) | (refine Sat.retB ?_ rfl; simp_all [timeOk]; omega) | (refine Sat.no ?_; simp_all [inb]; done))
    · simp at h
theorem E_spec_l12TimeOk_ok : EntOK Tryz.prog CP g_spec_l12TimeOk E_spec_l12TimeOk := by
  refine ⟨⟨Tryz.f174, by kernel_rfl, by kernel_rfl, by kernel_rfl⟩, fun args H res H' h => ?_⟩
  simp only [E_spec_l12TimeOk] at h
  split at h
  · simp only [Option.some.injEq, Prod.mk.injEq] at h
    obtain ⟨hg, rfl, rfl⟩ := h
    exact c_spec_l12TimeOk _
  · cases h
end Lx
/- Functions, each with its contract. -/
set_option linter.unusedVariables false
set_option linter.unusedSimpArgs false
set_option maxRecDepth 4000
namespace Lx
open Go Go.Proofs
/-- spec.PlanBaseOk -/
noncomputable def R_spec_PlanBaseOk : RE Ty El := ⟨Tryz.prog, CP, [(g_spec_l11KindOk, E_spec_l11KindOk), (g_spec_l11PointOk, E_spec_l11PointOk)], Tryz.f123, 0, [], [(4, [(1, .any), (3, .any)]), (9, [(1, .any), (4, .any)]), (14, [(1, .any), (4, .any), (5, .any)])]⟩
theorem R_spec_PlanBaseOk_ok : REOK R_spec_PlanBaseOk g_spec_PlanBaseOk := ⟨CP_ok, (TabOK.cons E_spec_l11KindOk_ok (TabOK.cons E_spec_l11PointOk_ok EOKnil)), by kernel_rfl, by kernel_rfl⟩
theorem t_spec_PlanBaseOk (ks : List Kind) (ps : List Point) : aRun R_spec_PlanBaseOk 600 false (body0 R_spec_PlanBaseOk.fn) (initSt R_spec_PlanBaseOk.fn [.agg [.sl .kind ks, .sl .point ps]] []) =
  ifb (decide ((↑ks.length : Int) > (6 : Int))) (some (.ret (.bool false) [])) (ifb (decide ((↑ps.length : Int) > (16 : Int))) (some (.ret (.bool false) [])) (some (.go (todoAt R_spec_PlanBaseOk.fn 4) [.ptr 0 0, .int .i64 (0 : Int)] [.box [.sl .kind ks, .sl .point ps]]))) := by kernel_rfl
theorem t_spec_PlanBaseOk_4 (x0 : Int) (x1 : List (El .kind)) (x2 : List (El .point)) : aRun R_spec_PlanBaseOk 600 true (todoAt R_spec_PlanBaseOk.fn 4) (cutSt R_spec_PlanBaseOk.fn (liveOf R_spec_PlanBaseOk (todoAt R_spec_PlanBaseOk.fn 4)) [.ptr 0 0, .int .i64 x0] [.box [.sl .kind x1, .sl .point x2]]) =
  ifb (decide (x0 < (↑x1.length : Int))) (ifb (inb x0 x1.length) (ifb (!Kind.ok (x1.getD x0.toNat (R_spec_PlanBaseOk.C.dflt Ty.kind))) (some (.ret (.bool false) [])) (ifb (decide (x0 > (0 : Int))) (ifb (inb (IntKind.i64.wrap (x0 - (1 : Int))) x1.length) (ifb (inb x0 x1.length) (ifb (!bytesLt (x1.getD (IntKind.i64.wrap (x0 - (1 : Int))).toNat (R_spec_PlanBaseOk.C.dflt Ty.kind)).name (x1.getD x0.toNat (R_spec_PlanBaseOk.C.dflt Ty.kind)).name) (some (.ret (.bool false) [])) (some (.go (todoAt R_spec_PlanBaseOk.fn 4) [.ptr 0 0, .int .i64 (IntKind.i64.wrap (x0 + (1 : Int)))] [.box [.sl .kind x1, .sl .point x2]]))) (none)) (none)) (some (.go (todoAt R_spec_PlanBaseOk.fn 4) [.ptr 0 0, .int .i64 (IntKind.i64.wrap (x0 + (1 : Int)))] [.box [.sl .kind x1, .sl .point x2]])))) (none)) (some (.go (todoAt R_spec_PlanBaseOk.fn 9) [.ptr 0 0, .int .i64 (0 : Int)] [.box [.sl .kind x1, .sl .point x2]])) := by kernel_rfl
theorem t_spec_PlanBaseOk_9 (x0 : Int) (x1 : List (El .kind)) (x2 : List (El .point)) : aRun R_spec_PlanBaseOk 600 true (todoAt R_spec_PlanBaseOk.fn 9) (cutSt R_spec_PlanBaseOk.fn (liveOf R_spec_PlanBaseOk (todoAt R_spec_PlanBaseOk.fn 9)) [.ptr 0 0, .int .i64 x0] [.box [.sl .kind x1, .sl .point x2]]) =
  ifb (decide (x0 < (↑x2.length : Int))) (ifb (inb x0 x2.length) (ifb (!Point.ok (x2.getD x0.toNat (R_spec_PlanBaseOk.C.dflt Ty.point))) (some (.ret (.bool false) [])) (ifb (decide (x0 > (0 : Int))) (ifb (inb (IntKind.i64.wrap (x0 - (1 : Int))) x2.length) (ifb (inb x0 x2.length) (ifb (!bytesLt (x2.getD (IntKind.i64.wrap (x0 - (1 : Int))).toNat (R_spec_PlanBaseOk.C.dflt Ty.point)).name (x2.getD x0.toNat (R_spec_PlanBaseOk.C.dflt Ty.point)).name) (some (.ret (.bool false) [])) (some (.go (todoAt R_spec_PlanBaseOk.fn 14) [.ptr 0 0, .int .i64 x0, .int .i64 (0 : Int)] [.box [.sl .kind x1, .sl .point x2]]))) (none)) (none)) (some (.go (todoAt R_spec_PlanBaseOk.fn 14) [.ptr 0 0, .int .i64 x0, .int .i64 (0 : Int)] [.box [.sl .kind x1, .sl .point x2]])))) (none)) (some (.ret (.bool true) [])) := by kernel_rfl
theorem t_spec_PlanBaseOk_14 (x0 : Int) (x1 : Int) (x2 : List (El .kind)) (x3 : List (El .point)) : aRun R_spec_PlanBaseOk 600 true (todoAt R_spec_PlanBaseOk.fn 14) (cutSt R_spec_PlanBaseOk.fn (liveOf R_spec_PlanBaseOk (todoAt R_spec_PlanBaseOk.fn 14)) [.ptr 0 0, .int .i64 x0, .int .i64 x1] [.box [.sl .kind x2, .sl .point x3]]) =
  ifb (decide (x1 < x0)) (ifb (inb x1 x3.length) (ifb (inb x0 x3.length) (ifb ((x3.getD x1.toNat (R_spec_PlanBaseOk.C.dflt Ty.point)).x == (x3.getD x0.toNat (R_spec_PlanBaseOk.C.dflt Ty.point)).x) (ifb (inb x1 x3.length) (ifb (inb x0 x3.length) (ifb ((x3.getD x1.toNat (R_spec_PlanBaseOk.C.dflt Ty.point)).y == (x3.getD x0.toNat (R_spec_PlanBaseOk.C.dflt Ty.point)).y) (some (.ret (.bool false) [])) (some (.go (todoAt R_spec_PlanBaseOk.fn 14) [.ptr 0 0, .int .i64 x0, .int .i64 (IntKind.i64.wrap (x1 + (1 : Int)))] [.box [.sl .kind x2, .sl .point x3]]))) (none)) (none)) (some (.go (todoAt R_spec_PlanBaseOk.fn 14) [.ptr 0 0, .int .i64 x0, .int .i64 (IntKind.i64.wrap (x1 + (1 : Int)))] [.box [.sl .kind x2, .sl .point x3]]))) (none)) (none)) (some (.go (todoAt R_spec_PlanBaseOk.fn 9) [.ptr 0 0, .int .i64 (IntKind.i64.wrap (x0 + (1 : Int)))] [.box [.sl .kind x2, .sl .point x3]])) := by kernel_rfl
theorem l77i (ks : List Kind) (ps : List Point) (hp : ps.length ≤ 16) (i : Nat) (hi : i < ps.length) (nx : Bool) (h9 : Cut R_spec_PlanBaseOk g_spec_PlanBaseOk 9 [.ptr 0 0, .int .i64 ((i + 1 : Nat) : Int)] [.box [.sl .kind ks, .sl .point ps]] (.bool nx) []) : ∀ (d k : Nat), k + d = i →
    Cut R_spec_PlanBaseOk g_spec_PlanBaseOk 14 [.ptr 0 0, .int .i64 (i : Int), .int .i64 (k : Int)] [.box [.sl .kind ks, .sl .point ps]] (.bool (freeOf ((ps.take i).drop k) ps[i] && nx)) [] := by
  have hwi : IntKind.wrap .i64 ((i : Int) + 1) = ((i + 1 : Nat) : Int) := by rw [wrap_ok] <;> omega
  have hxi : ps.getD (i : Int).toNat (R_spec_PlanBaseOk.C.dflt .point) = ps[i] := by simp [hi]
  have hini : inb (i : Int) ps.length = true := by simp only [inb, Bool.and_eq_true, decide_eq_true_eq]; omega
  intro d
  induction d with
  | zero =>
    intro k hk
    refine Cut.of R_spec_PlanBaseOk_ok rfl (t_spec_PlanBaseOk_14 i k ks ps) ?_
    rw [hwi]
    refine Sat.ifb (fun h => ?_) (fun h => ?_)
    · simp at h; omega
    · have : (ps.take i).drop k = [] := List.drop_of_length_le (by simp; omega)
      rw [this]
      exact Sat.cut h9
  | succ d ih =>
    intro k hk
    refine Cut.of R_spec_PlanBaseOk_ok rfl (t_spec_PlanBaseOk_14 i k ks ps) ?_
    have hlt : k < ps.length := by omega
    have hlt2 : k < (ps.take i).length := by simp; omega
    have hw : IntKind.wrap .i64 ((k : Int) + 1) = ((k + 1 : Nat) : Int) := by rw [wrap_ok] <;> omega
    have hx : ps.getD (k : Int).toNat (R_spec_PlanBaseOk.C.dflt .point) = ps[k] := by simp [hlt]
    have hink : inb (k : Int) ps.length = true := by simp only [inb, Bool.and_eq_true, decide_eq_true_eq]; omega
    have hd : (ps.take i).drop k = ps[k] :: (ps.take i).drop (k + 1) := by rw [List.drop_eq_getElem_cons hlt2, List.getElem_take]
    rw [hw, hx, hxi, hd]
    have hcons : ∀ l, freeOf (ps[k] :: l) ps[i] = (!(ps[k].x == ps[i].x && ps[k].y == ps[i].y) && freeOf l ps[i]) := fun l => rfl
    rw [hcons]
    refine Sat.ifb (fun _ => ?_) (fun h => ?_)
    · refine Sat.ifb (fun _ => ?_) (fun h => ?_)
      · refine Sat.ifb (fun _ => ?_) (fun h => ?_)
        · refine Sat.ifb (fun ha => ?_) (fun ha => ?_)
          · refine Sat.ifb (fun _ => ?_) (fun h => ?_)
            · refine Sat.ifb (fun _ => ?_) (fun h => ?_)
              · refine Sat.ifb (fun hb => ?_) (fun hb => ?_)
                · refine Sat.retB ?_ rfl
                  rw [ha, hb]; rfl
                · rw [ha, hb]
                  exact Sat.cut (ih (k + 1) (by omega))
              · rw [hini] at h; cases h
            · rw [hink] at h; cases h
          · rw [ha]
            exact Sat.cut (ih (k + 1) (by omega))
        · rw [hini] at h; cases h
      · rw [hink] at h; cases h
    · simp at h; omega
theorem l77p (ks : List Kind) (ps : List Point) (hp : ps.length ≤ 16) : ∀ (d i : Nat), i + d = ps.length →
    Cut R_spec_PlanBaseOk g_spec_PlanBaseOk 9 [.ptr 0 0, .int .i64 (i : Int)] [.box [.sl .kind ks, .sl .point ps]] (.bool (pointsGo (ps.take i) ((ps.take i).getLast?.map (·.name)) (ps.drop i))) [] := by
  intro d
  induction d with
  | zero =>
    intro i hi
    refine Cut.of R_spec_PlanBaseOk_ok rfl (t_spec_PlanBaseOk_9 i ks ps) ?_
    refine Sat.ifb (fun h => ?_) (fun h => ?_)
    · simp at h; omega
    · refine Sat.retB ?_ rfl
      rw [List.drop_of_length_le (by omega)]; rfl
  | succ d ih =>
    intro i hi
    refine Cut.of R_spec_PlanBaseOk_ok rfl (t_spec_PlanBaseOk_9 i ks ps) ?_
    have hlt : i < ps.length := by omega
    have hw1 : IntKind.wrap .i64 ((i : Int) - 1) = (i : Int) - 1 := by rw [wrap_ok] <;> omega
    have hd : ps.drop i = ps[i] :: ps.drop (i + 1) := List.drop_eq_getElem_cons hlt
    have hx : ps.getD (i : Int).toNat (R_spec_PlanBaseOk.C.dflt .point) = ps[i] := by simp [hlt]
    have hin : inb (i : Int) ps.length = true := by simp only [inb, Bool.and_eq_true, decide_eq_true_eq]; omega
    have hl : (ps.take (i + 1)).getLast? = some ps[i] := by rw [List.take_succ_eq_append_getElem hlt, List.getLast?_concat]
    have ih' := ih (i + 1) (by omega)
    rw [hl, Option.map_some] at ih'
    have inner := l77i ks ps hp i hlt _ ih' i 0 (by omega)
    rw [List.drop_zero] at inner
    rw [hw1, hx, hd, pointsGo, ← List.take_succ_eq_append_getElem hlt]
    refine Sat.ifb (fun _ => ?_) (fun h => ?_)
    · refine Sat.ifb (fun _ => ?_) (fun h => ?_)
      · refine Sat.ifb (fun h => ?_) (fun h => ?_)
        · refine Sat.retB ?_ rfl
          simp at h
          rw [h]; rfl
        · simp at h
          rw [h, Bool.true_and]
          refine Sat.ifb (fun h0 => ?_) (fun h0 => ?_)
          · have h0' : ((i : Int) > 0) := of_decide_eq_true h0
            have hi1 : i - 1 < ps.length := by omega
            have hx1 : ps.getD ((i : Int) - 1).toNat (R_spec_PlanBaseOk.C.dflt .point) = ps[i - 1] := by
              rw [show ((i : Int) - 1).toNat = i - 1 by omega]; simp [hi1]
            have hl1 : (ps.take i).getLast? = some ps[i - 1] := by
              have := List.take_succ_eq_append_getElem hi1
              rw [show i - 1 + 1 = i by omega] at this
              rw [this, List.getLast?_concat]
            rw [hx1, hl1]
            refine Sat.ifb (fun _ => ?_) (fun h => ?_)
            · refine Sat.ifb (fun _ => ?_) (fun h => ?_)
              · refine Sat.ifb (fun h => ?_) (fun h => ?_)
                · refine Sat.retB ?_ rfl
                  simp at h
                  simp only [Option.map_some, afterB]
                  rw [h]; rfl
                · simp at h
                  simp only [Option.map_some, afterB]
                  rw [h, Bool.true_and]
                  exact Sat.cut inner
              · rw [hin] at h; cases h
            · have : inb ((i : Int) - 1) ps.length = true := by simp only [inb, Bool.and_eq_true, decide_eq_true_eq]; omega
              rw [this] at h; cases h
          · have h0' : ¬ ((i : Int) > 0) := of_decide_eq_false h0
            have : i = 0 := by omega
            subst this
            exact Sat.cut inner
      · rw [hin] at h; cases h
    · simp at h; omega
theorem l77k (ks : List Kind) (ps : List Point) (hk : ks.length ≤ 6) (hp : ps.length ≤ 16) : ∀ (d i : Nat), i + d = ks.length →
    Cut R_spec_PlanBaseOk g_spec_PlanBaseOk 4 [.ptr 0 0, .int .i64 (i : Int)] [.box [.sl .kind ks, .sl .point ps]] (.bool (kindsGo ((ks.take i).getLast?.map (·.name)) (ks.drop i) && pointsGo [] none ps)) [] := by
  intro d
  induction d with
  | zero =>
    intro i hi
    refine Cut.of R_spec_PlanBaseOk_ok rfl (t_spec_PlanBaseOk_4 i ks ps) ?_
    refine Sat.ifb (fun h => ?_) (fun h => ?_)
    · simp at h; omega
    · rw [List.drop_of_length_le (by omega)]
      have := l77p ks ps hp ps.length 0 (by omega)
      exact Sat.cut this
  | succ d ih =>
    intro i hi
    refine Cut.of R_spec_PlanBaseOk_ok rfl (t_spec_PlanBaseOk_4 i ks ps) ?_
    have hlt : i < ks.length := by omega
    have hw : IntKind.wrap .i64 ((i : Int) + 1) = ((i + 1 : Nat) : Int) := by rw [wrap_ok] <;> omega
    have hw1 : IntKind.wrap .i64 ((i : Int) - 1) = (i : Int) - 1 := by rw [wrap_ok] <;> omega
    have hd : ks.drop i = ks[i] :: ks.drop (i + 1) := List.drop_eq_getElem_cons hlt
    have hx : ks.getD (i : Int).toNat (R_spec_PlanBaseOk.C.dflt .kind) = ks[i] := by simp [hlt]
    have hin : inb (i : Int) ks.length = true := by simp only [inb, Bool.and_eq_true, decide_eq_true_eq]; omega
    have hl : (ks.take (i + 1)).getLast? = some ks[i] := by rw [List.take_succ_eq_append_getElem hlt, List.getLast?_concat]
    have ih' := ih (i + 1) (by omega)
    rw [hl, Option.map_some] at ih'
    rw [hw, hw1, hx, hd, kindsGo]
    refine Sat.ifb (fun _ => ?_) (fun h => ?_)
    · refine Sat.ifb (fun _ => ?_) (fun h => ?_)
      · refine Sat.ifb (fun h => ?_) (fun h => ?_)
        · refine Sat.retB ?_ rfl
          simp at h
          rw [h]; rfl
        · simp at h
          rw [h, Bool.true_and]
          refine Sat.ifb (fun h0 => ?_) (fun h0 => ?_)
          · have h0' : ((i : Int) > 0) := of_decide_eq_true h0
            have hi1 : i - 1 < ks.length := by omega
            have hx1 : ks.getD ((i : Int) - 1).toNat (R_spec_PlanBaseOk.C.dflt .kind) = ks[i - 1] := by
              rw [show ((i : Int) - 1).toNat = i - 1 by omega]; simp [hi1]
            have hl1 : (ks.take i).getLast? = some ks[i - 1] := by
              have := List.take_succ_eq_append_getElem hi1
              rw [show i - 1 + 1 = i by omega] at this
              rw [this, List.getLast?_concat]
            rw [hx1, hl1]
            refine Sat.ifb (fun _ => ?_) (fun h => ?_)
            · refine Sat.ifb (fun _ => ?_) (fun h => ?_)
              · refine Sat.ifb (fun h => ?_) (fun h => ?_)
                · refine Sat.retB ?_ rfl
                  simp at h
                  simp only [Option.map_some, afterB]
                  rw [h]; rfl
                · simp at h
                  simp only [Option.map_some, afterB]
                  rw [h, Bool.true_and]
                  exact Sat.cut ih'
              · rw [hin] at h; cases h
            · have : inb ((i : Int) - 1) ks.length = true := by simp only [inb, Bool.and_eq_true, decide_eq_true_eq]; omega
              rw [this] at h; cases h
          · have h0' : ¬ ((i : Int) > 0) := of_decide_eq_false h0
            have : i = 0 := by omega
            subst this
            exact Sat.cut ih'
      · rw [hin] at h; cases h
    · simp at h; omega
theorem c_spec_PlanBaseOk (ks : List Kind) (ps : List Point) : CallOK Tryz.prog CP g_spec_PlanBaseOk [.agg [.sl .kind ks, .sl .point ps]] [] (.bool (baseOk ks ps)) [] := by
  refine CallOK.of R_spec_PlanBaseOk_ok (by kernel_rfl) (t_spec_PlanBaseOk ks ps) ?_
  refine Sat.ifb (fun h => ?_) (fun h => ?_)
  · refine Sat.retB ?_ rfl
    simp at h
    have : ¬ ks.length ≤ 6 := by omega
    simp [baseOk, this]
  · refine Sat.ifb (fun h2 => ?_) (fun h2 => ?_)
    · refine Sat.retB ?_ rfl
      simp at h2
      have : ¬ ps.length ≤ 16 := by omega
      simp [baseOk, this]
    · simp at h h2
      have a : ks.length ≤ 6 := by omega
      have b : ps.length ≤ 16 := by omega
      have := l77k ks ps a b ks.length 0 (by omega)
      rw [show baseOk ks ps = (kindsGo ((ks.take 0).getLast?.map (·.name)) (ks.drop 0) && pointsGo [] none ps) by simp [baseOk, a, b]]
      exact Sat.cut this
theorem E_spec_PlanBaseOk_ok : EntOK Tryz.prog CP g_spec_PlanBaseOk E_spec_PlanBaseOk := by
  refine ⟨⟨Tryz.f123, by kernel_rfl, by kernel_rfl, by kernel_rfl⟩, fun args H res H' h => ?_⟩
  simp only [E_spec_PlanBaseOk] at h
  split at h
  · simp only [Option.some.injEq, Prod.mk.injEq] at h
    obtain ⟨hg, rfl, rfl⟩ := h
    exact c_spec_PlanBaseOk _ _
  · cases h
end Lx
/- Meanings: what fits, entries. -/
set_option linter.unusedVariables false
namespace Lx
open Go Go.Proofs
def szV (v : Str) : Bool := decide (v.length ≤ 1000000000)
def szE (e : Entry) : Bool := decide (e.fields.length ≤ 1000000000) && e.fields.all (fun f => szV f.value)
def szB (es : List Entry) : Bool := decide (es.length ≤ 1000000000) && es.all szE
def E_spec_PlanFits : Ent Ty El := ⟨[.ro, .ro, .ro], 0, fun a h => match a, h with
  | [.agg [.sl .kind ks, .sl .point ps], .int .i64 what, .str v], [] => some (szV v, .bool (baseOk ks ps && fitsV ks ps what v), [])
  | _, _ => none⟩
def E_spec_PlanChangeOk : Ent Ty El := ⟨[.ro, .ro], 0, fun a h => match a, h with
  | [.agg [.sl .kind ks, .sl .point ps], .agg [.str fl, .int .i64 what, .int .i64 num, .str v]], [] => some (szV v, .bool (nameOk fl && (inR num 1 1000000 && (baseOk ks ps && fitsV ks ps what v))), [])
  | _, _ => none⟩
end Lx
/- Functions, each with its contract. -/
set_option linter.unusedVariables false
set_option linter.unusedSimpArgs false
set_option maxRecDepth 4000
namespace Lx
open Go Go.Proofs
/-- spec.PlanFits -/
noncomputable def R_spec_PlanFits : RE Ty El := ⟨Tryz.prog, CP, [(g_spec_PlanBaseOk, E_spec_PlanBaseOk), (g_spec_l12Cut, E_spec_l12Cut), (g_spec_l11Kind, E_spec_l11Kind), (g_spec_l12TimeOk, E_spec_l12TimeOk), (g_spec_l12Number, E_spec_l12Number), (g_spec_l11In, E_spec_l11In), (g_spec_l12RouteOk, E_spec_l12RouteOk)], Tryz.f96, 0, [], []⟩
theorem R_spec_PlanFits_ok : REOK R_spec_PlanFits g_spec_PlanFits := ⟨CP_ok, (TabOK.cons E_spec_PlanBaseOk_ok (TabOK.cons E_spec_l12Cut_ok (TabOK.cons E_spec_l11Kind_ok (TabOK.cons E_spec_l12TimeOk_ok (TabOK.cons E_spec_l12Number_ok (TabOK.cons E_spec_l11In_ok (TabOK.cons E_spec_l12RouteOk_ok EOKnil))))))), by kernel_rfl, by kernel_rfl⟩
theorem t_spec_PlanFits (ks : List Kind) (ps : List Point) (what : Int) (v : Str) : aRun R_spec_PlanFits 600 false (body0 R_spec_PlanFits.fn) (initSt R_spec_PlanFits.fn [.agg [.sl .kind ks, .sl .point ps], .int .i64 what, .str v] []) =
  ifb (!baseOk ks ps) (some (.ret (.bool false) [])) (ifb (decide (List.length v ≤ (1000000000 : Nat))) (ifb (what == (1 : Int)) (ifb (decide (ks.length < (1000000000 : Nat))) (some (.ret (.bool (decide (idxF (fun p => p.name == v) ks ≥ (0 : Int)))) [])) (none)) (ifb (what == (2 : Int)) (some (.ret (.bool (timeOk (cutS (32 : Int) v))) [])) (ifb (what == (3 : Int)) (some (.ret (.bool (inR (numF v) (1 : Int) (6 : Int))) [])) (ifb (what == (4 : Int)) (ifb (decide (ps.length < (1000000000 : Nat))) (some (.ret (.bool (routeOk ps (cutS (32 : Int) v))) [])) (none)) (ifb (what == (5 : Int)) (ifb (v == #[(111 : UInt8), (112 : UInt8), (101 : UInt8), (110 : UInt8)].toList) (some (.ret (.bool true) [])) (some (.ret (.bool (v == #[(99 : UInt8), (108 : UInt8), (111 : UInt8), (115 : UInt8), (101 : UInt8), (100 : UInt8)].toList)) []))) (some (.ret (.bool false) []))))))) (none)) := by kernel_rfl
theorem c_spec_PlanFits (ks : List Kind) (ps : List Point) (what : Int) (v : Str) (hg : szV v = true) : CallOK Tryz.prog CP g_spec_PlanFits [.agg [.sl .kind ks, .sl .point ps], .int .i64 what, .str v] [] (.bool (baseOk ks ps && fitsV ks ps what v)) [] := by
  refine CallOK.of R_spec_PlanFits_ok (by kernel_rfl) (t_spec_PlanFits ks ps what v) ?_
  have hv : decide (v.length ≤ 1000000000) = true := hg
  refine Sat.ifb (fun h => ?_) (fun h => ?_)
  · refine Sat.retB ?_ rfl
    simp at h
    rw [h]; rfl
  · simp at h
    have hlen : ks.length < 1000000000 ∧ ps.length < 1000000000 := by
      simp only [baseOk, Bool.and_eq_true, decide_eq_true_eq] at h; omega
    rw [h, Bool.true_and]
    repeat' (first | (refine Sat.ifb (fun h => ?_) (fun h => ?_)))
    all_goals (first | (refine Sat.no ?_; simp_all; done) | (refine Sat.no ?_; simp_all; omega) | (refine Sat.retB ?_ rfl; simp_all [fitsV, kindIx, wOpen, wClosed]; done) | (refine Sat.retB ?_ rfl; simp_all [fitsV, kindIx, wOpen, wClosed]; rfl) | (refine Sat.retB ?_ rfl; simp_all [fitsV, kindIx, wOpen, wClosed]; congr))
theorem E_spec_PlanFits_ok : EntOK Tryz.prog CP g_spec_PlanFits E_spec_PlanFits := by
  refine ⟨⟨Tryz.f96, by kernel_rfl, by kernel_rfl, by kernel_rfl⟩, fun args H res H' h => ?_⟩
  simp only [E_spec_PlanFits] at h
  split at h
  · simp only [Option.some.injEq, Prod.mk.injEq] at h
    obtain ⟨hg, rfl, rfl⟩ := h
    exact c_spec_PlanFits _ _ _ _ hg
  · cases h

/-- spec.PlanChangeOk -/
noncomputable def R_spec_PlanChangeOk : RE Ty El := ⟨Tryz.prog, CP, [(g_spec_l11NameOk, E_spec_l11NameOk), (g_spec_l11In, E_spec_l11In), (g_spec_PlanFits, E_spec_PlanFits)], Tryz.f24, 0, [], []⟩
theorem R_spec_PlanChangeOk_ok : REOK R_spec_PlanChangeOk g_spec_PlanChangeOk := ⟨CP_ok, (TabOK.cons E_spec_l11NameOk_ok (TabOK.cons E_spec_l11In_ok (TabOK.cons E_spec_PlanFits_ok EOKnil))), by kernel_rfl, by kernel_rfl⟩
theorem t_spec_PlanChangeOk (ks : List Kind) (ps : List Point) (fl : Str) (what num : Int) (v : Str) : aRun R_spec_PlanChangeOk 600 false (body0 R_spec_PlanChangeOk.fn) (initSt R_spec_PlanChangeOk.fn [.agg [.sl .kind ks, .sl .point ps], .agg [.str fl, .int .i64 what, .int .i64 num, .str v]] []) =
  ifb (nameOk fl) (ifb (inR num (1 : Int) (1000000 : Int)) (ifb (szV v) (some (.ret (.bool (baseOk ks ps && fitsV ks ps what v)) [])) (none)) (some (.ret (.bool false) []))) (some (.ret (.bool false) [])) := by kernel_rfl
theorem c_spec_PlanChangeOk (ks : List Kind) (ps : List Point) (fl : Str) (what num : Int) (v : Str) (hg : szV v = true) : CallOK Tryz.prog CP g_spec_PlanChangeOk [.agg [.sl .kind ks, .sl .point ps], .agg [.str fl, .int .i64 what, .int .i64 num, .str v]] [] (.bool (nameOk fl && (inR num 1 1000000 && (baseOk ks ps && fitsV ks ps what v)))) [] := by
  refine CallOK.of R_spec_PlanChangeOk_ok (by kernel_rfl) (t_spec_PlanChangeOk ks ps fl what num v) ?_
  repeat' (first | (refine Sat.ifb (fun h => ?_) (fun h => ?_)) | (refine Sat.retB ?_ rfl; simp_all []; done) | (refine Sat.retI ?_ rfl; simp_all []; done))
  all_goals (first | (refine Sat.no ?_; simp_all; done) | (refine Sat.no ?_; simp_all; omega) | (refine Sat.retB ?_ rfl; simp_all []; omega) | (refine Sat.retI ?_ rfl; simp_all []; omega))
theorem E_spec_PlanChangeOk_ok : EntOK Tryz.prog CP g_spec_PlanChangeOk E_spec_PlanChangeOk := by
  refine ⟨⟨Tryz.f24, by kernel_rfl, by kernel_rfl, by kernel_rfl⟩, fun args H res H' h => ?_⟩
  simp only [E_spec_PlanChangeOk] at h
  split at h
  · simp only [Option.some.injEq, Prod.mk.injEq] at h
    obtain ⟨hg, rfl, rfl⟩ := h
    exact c_spec_PlanChangeOk _ _ _ _ _ _ hg
  · cases h
end Lx
/- Meanings: entries and books. -/
set_option linter.unusedVariables false
namespace Lx
open Go Go.Proofs
/-- As the spec says it: each change asks for the base again. -/
def fieldsGoS (ks : List Kind) (ps : List Point) (n : Str) : Option Int → List Fld → Bool
  | _, [] => true
  | prev, f :: fs => (nameOk n && (inR f.number 1 1000000 && (baseOk ks ps && fitsV ks ps f.what f.value))) && ((match prev with | none => true | some q => decide (q < f.what)) && fieldsGoS ks ps n (some f.what) fs)
theorem fieldsGoS_cons {ks : List Kind} {ps : List Point} {n : Str} {prev : Option Int} {f : Fld} {fs : List Fld} : fieldsGoS ks ps n prev (f :: fs) = ((nameOk n && (inR f.number 1 1000000 && (baseOk ks ps && fitsV ks ps f.what f.value))) && ((match prev with | none => true | some q => decide (q < f.what)) && fieldsGoS ks ps n (some f.what) fs)) := by cases prev <;> rfl
def entryOkS (ks : List Kind) (ps : List Point) (e : Entry) : Bool := nameOk e.name && (!decide (e.fields.length = 0) && fieldsGoS ks ps e.name none e.fields)
theorem fieldsGoS_eq {ks : List Kind} {ps : List Point} {n : Str} (h : baseOk ks ps = true) : ∀ (fs : List Fld) (prev : Option Int), fieldsGoS ks ps n prev fs = fieldsGo ks ps n prev fs
  | [], _ => rfl
  | f :: fs, prev => by cases prev <;> simp only [fieldsGoS, fieldsGo, fieldsGoS_eq h fs, changeV, h, Bool.true_and]
theorem entryOkS_eq {ks : List Kind} {ps : List Point} (h : baseOk ks ps = true) (e : Entry) : entryOkS ks ps e = entryOk ks ps e := by rw [entryOkS, entryOk, fieldsGoS_eq h]
def E_spec_l13EntryOk : Ent Ty El := ⟨[.ro, .ro], 0, fun a h => match a, h with
  | [.agg [.sl .kind ks, .sl .point ps], .agg [.str n, .sl .fld fs]], [] => some (szE ⟨n, fs⟩, .bool (entryOkS ks ps ⟨n, fs⟩), [])
  | _, _ => none⟩
def E_spec_PlanBookOk : Ent Ty El := ⟨[.ro], 0, fun a h => match a, h with
  | [.agg [.sl .kind ks, .sl .point ps, .sl .entry es]], [] => some (szB es, .bool (bookOk ks ps es), [])
  | _, _ => none⟩
end Lx
/- Functions, each with its contract. -/
set_option linter.unusedVariables false
set_option linter.unusedSimpArgs false
set_option maxRecDepth 4000
namespace Lx
open Go Go.Proofs
/-- spec.l13EntryOk -/
noncomputable def R_spec_l13EntryOk : RE Ty El := ⟨Tryz.prog, CP, [(g_spec_l11NameOk, E_spec_l11NameOk), (g_spec_PlanChangeOk, E_spec_PlanChangeOk)], Tryz.f141, 0, [], [(4, [(2, .any), (3, .any), (5, .any)])]⟩
theorem R_spec_l13EntryOk_ok : REOK R_spec_l13EntryOk g_spec_l13EntryOk := ⟨CP_ok, (TabOK.cons E_spec_l11NameOk_ok (TabOK.cons E_spec_PlanChangeOk_ok EOKnil)), by kernel_rfl, by kernel_rfl⟩
theorem t_spec_l13EntryOk (ks : List Kind) (ps : List Point) (n : Str) (fs : List Fld) : aRun R_spec_l13EntryOk 600 false (body0 R_spec_l13EntryOk.fn) (initSt R_spec_l13EntryOk.fn [.agg [.sl .kind ks, .sl .point ps], .agg [.str n, .sl .fld fs]] []) =
  ifb (!nameOk n) (some (.ret (.bool false) [])) (ifb ((↑fs.length : Int) == (0 : Int)) (some (.ret (.bool false) [])) (some (.go (todoAt R_spec_l13EntryOk.fn 4) [.ptr 0 0, .ptr 1 0, .int .i64 (0 : Int)] [.box [.sl .kind ks, .sl .point ps], .box [.str n, .sl .fld fs]]))) := by kernel_rfl
theorem t_spec_l13EntryOk_4 (x0 : Int) (x1 : List (El .kind)) (x2 : List (El .point)) (x3 : Str) (x4 : List (El .fld)) : aRun R_spec_l13EntryOk 600 true (todoAt R_spec_l13EntryOk.fn 4) (cutSt R_spec_l13EntryOk.fn (liveOf R_spec_l13EntryOk (todoAt R_spec_l13EntryOk.fn 4)) [.ptr 0 0, .ptr 1 0, .int .i64 x0] [.box [.sl .kind x1, .sl .point x2], .box [.str x3, .sl .fld x4]]) =
  ifb (decide (x0 < (↑x4.length : Int))) (ifb (inb x0 x4.length) (ifb (szV (x4.getD x0.toNat (R_spec_l13EntryOk.C.dflt Ty.fld)).value) (ifb (!(nameOk x3 && (inR (x4.getD x0.toNat (R_spec_l13EntryOk.C.dflt Ty.fld)).number (1 : Int) (1000000 : Int) && (baseOk x1 x2 && fitsV x1 x2 (x4.getD x0.toNat (R_spec_l13EntryOk.C.dflt Ty.fld)).what (x4.getD x0.toNat (R_spec_l13EntryOk.C.dflt Ty.fld)).value)))) (some (.ret (.bool false) [])) (ifb (decide (x0 > (0 : Int))) (ifb (inb (IntKind.i64.wrap (x0 - (1 : Int))) x4.length) (ifb (decide ((x4.getD (IntKind.i64.wrap (x0 - (1 : Int))).toNat (R_spec_l13EntryOk.C.dflt Ty.fld)).what ≥ (x4.getD x0.toNat (R_spec_l13EntryOk.C.dflt Ty.fld)).what)) (some (.ret (.bool false) [])) (some (.go (todoAt R_spec_l13EntryOk.fn 4) [.ptr 0 0, .ptr 1 0, .int .i64 (IntKind.i64.wrap (x0 + (1 : Int)))] [.box [.sl .kind x1, .sl .point x2], .box [.str x3, .sl .fld x4]]))) (none)) (some (.go (todoAt R_spec_l13EntryOk.fn 4) [.ptr 0 0, .ptr 1 0, .int .i64 (IntKind.i64.wrap (x0 + (1 : Int)))] [.box [.sl .kind x1, .sl .point x2], .box [.str x3, .sl .fld x4]])))) (none)) (none)) (some (.ret (.bool true) [])) := by kernel_rfl
theorem l_spec_l13EntryOk (ks : List Kind) (ps : List Point) (n : Str) (fs : List Fld) (hl : fs.length ≤ 1000000000) (hz : ∀ f ∈ fs, szV f.value = true) : ∀ (d i : Nat), i + d = fs.length → Cut R_spec_l13EntryOk g_spec_l13EntryOk 4 [.ptr 0 0, .ptr 1 0, .int .i64 (i : Int)] [.box [.sl .kind ks, .sl .point ps], .box [.str n, .sl .fld fs]] (.bool (fieldsGoS ks ps n ((fs.take i).getLast?.map (·.what)) (fs.drop i))) [] := by
  intro d
  induction d with
  | zero =>
    intro i hi
    refine Cut.of R_spec_l13EntryOk_ok rfl (t_spec_l13EntryOk_4 i ks ps n fs) ?_
    refine Sat.ifb (fun h => ?_) (fun h => ?_)
    · simp at h; omega
    · refine Sat.retB ?_ rfl
      rw [List.drop_of_length_le (by omega)]; rfl
  | succ d ih =>
    intro i hi
    refine Cut.of R_spec_l13EntryOk_ok rfl (t_spec_l13EntryOk_4 i ks ps n fs) ?_
    have hlt : i < fs.length := by omega
    have hw : IntKind.wrap .i64 ((i : Int) + 1) = ((i + 1 : Nat) : Int) := by rw [wrap_ok] <;> omega
    have hw1 : IntKind.wrap .i64 ((i : Int) - 1) = (i : Int) - 1 := by rw [wrap_ok] <;> omega
    have hd : fs.drop i = fs[i] :: fs.drop (i + 1) := List.drop_eq_getElem_cons hlt
    have hx : fs.getD (i : Int).toNat (R_spec_l13EntryOk.C.dflt .fld) = fs[i] := by simp [hlt]
    have hin : inb (i : Int) fs.length = true := by simp only [inb, Bool.and_eq_true, decide_eq_true_eq]; omega
    have hl : (fs.take (i + 1)).getLast? = some fs[i] := by rw [List.take_succ_eq_append_getElem hlt, List.getLast?_concat]
    have hsz : szV fs[i].value = true := hz _ (List.getElem_mem hlt)
    have ih' := ih (i + 1) (by omega)
    rw [hl, Option.map_some] at ih'
    rw [hw, hw1, hx, hd, fieldsGoS_cons]
    refine Sat.ifb (fun _ => ?_) (fun h => ?_)
    · refine Sat.ifb (fun _ => ?_) (fun h => ?_)
      · refine Sat.ifb (fun _ => ?_) (fun h => ?_)
        · refine Sat.ifb (fun h => ?_) (fun h => ?_)
          · refine Sat.retB ?_ rfl
            rw [Bool.not_eq_true'] at h
            skip
            rw [h]; rfl
          · rw [Bool.not_eq_false'] at h
            skip
            rw [h, Bool.true_and]
            refine Sat.ifb (fun h0 => ?_) (fun h0 => ?_)
            · have h0' : ((i : Int) > 0) := of_decide_eq_true h0
              have hi1 : i - 1 < fs.length := by omega
              have hx1 : fs.getD ((i : Int) - 1).toNat (R_spec_l13EntryOk.C.dflt .fld) = fs[i - 1] := by
                rw [show ((i : Int) - 1).toNat = i - 1 by omega]; simp [hi1]
              have hl1 : (fs.take i).getLast? = some fs[i - 1] := by
                have := List.take_succ_eq_append_getElem hi1
                rw [show i - 1 + 1 = i by omega] at this
                rw [this, List.getLast?_concat]
              rw [hx1, hl1]
              refine Sat.ifb (fun _ => ?_) (fun h => ?_)
              · refine Sat.ifb (fun h => ?_) (fun h => ?_)
                · refine Sat.retB ?_ rfl
                  have h' : fs[i - 1].what ≥ fs[i].what := of_decide_eq_true h
                  have : decide (fs[i - 1].what < fs[i].what) = false := by simp; omega
                  simp only [Option.map_some]
                  rw [this]; rfl
                · have h' : ¬ fs[i - 1].what ≥ fs[i].what := of_decide_eq_false h
                  have : decide (fs[i - 1].what < fs[i].what) = true := by simp; omega
                  simp only [Option.map_some]
                  rw [this, Bool.true_and]
                  exact Sat.cut ih'
              · have : inb ((i : Int) - 1) fs.length = true := by simp only [inb, Bool.and_eq_true, decide_eq_true_eq]; omega
                rw [this] at h; cases h
            · have h0' : ¬ ((i : Int) > 0) := of_decide_eq_false h0
              have : i = 0 := by omega
              subst this
              exact Sat.cut ih'
        · rw [hsz] at h; cases h
      · rw [hin] at h; cases h
    · simp at h; omega
theorem c_spec_l13EntryOk (ks : List Kind) (ps : List Point) (n : Str) (fs : List Fld) (hg : szE ⟨n, fs⟩ = true) : CallOK Tryz.prog CP g_spec_l13EntryOk [.agg [.sl .kind ks, .sl .point ps], .agg [.str n, .sl .fld fs]] [] (.bool (entryOkS ks ps ⟨n, fs⟩)) [] := by
  refine CallOK.of R_spec_l13EntryOk_ok (by kernel_rfl) (t_spec_l13EntryOk ks ps n fs) ?_
  have hg' := hg
  simp only [szE, Bool.and_eq_true, decide_eq_true_eq, List.all_eq_true] at hg'
  refine Sat.ifb (fun h => ?_) (fun h => ?_)
  · refine Sat.retB ?_ rfl
    rw [Bool.not_eq_true'] at h
    simp only [entryOkS]
    rw [h]; rfl
  · rw [Bool.not_eq_false'] at h
    refine Sat.ifb (fun h2 => ?_) (fun h2 => ?_)
    · refine Sat.retB ?_ rfl
      have : fs.length = 0 := by have := eq_of_beq h2; omega
      simp [entryOkS, this]
    · have : ¬ fs.length = 0 := fun e => by rw [e] at h2; simp at h2
      have key := l_spec_l13EntryOk ks ps n fs hg'.1 hg'.2 fs.length 0 (by omega)
      rw [show entryOkS ks ps ⟨n, fs⟩ = fieldsGoS ks ps n ((fs.take 0).getLast?.map (·.what)) (fs.drop 0) by simp only [entryOkS]; rw [h]; simp [this]]
      exact Sat.cut key
theorem E_spec_l13EntryOk_ok : EntOK Tryz.prog CP g_spec_l13EntryOk E_spec_l13EntryOk := by
  refine ⟨⟨Tryz.f141, by kernel_rfl, by kernel_rfl, by kernel_rfl⟩, fun args H res H' h => ?_⟩
  simp only [E_spec_l13EntryOk] at h
  split at h
  · simp only [Option.some.injEq, Prod.mk.injEq] at h
    obtain ⟨hg, rfl, rfl⟩ := h
    exact c_spec_l13EntryOk _ _ _ _ hg
  · cases h

/-- spec.PlanBookOk -/
noncomputable def R_spec_PlanBookOk : RE Ty El := ⟨Tryz.prog, CP, [(g_spec_PlanBaseOk, E_spec_PlanBaseOk), (g_spec_l13EntryOk, E_spec_l13EntryOk)], Tryz.f49, 0, [], [(4, [(1, .any), (3, .any)])]⟩
theorem R_spec_PlanBookOk_ok : REOK R_spec_PlanBookOk g_spec_PlanBookOk := ⟨CP_ok, (TabOK.cons E_spec_PlanBaseOk_ok (TabOK.cons E_spec_l13EntryOk_ok EOKnil)), by kernel_rfl, by kernel_rfl⟩
theorem t_spec_PlanBookOk (ks : List Kind) (ps : List Point) (es : List Entry) : aRun R_spec_PlanBookOk 600 false (body0 R_spec_PlanBookOk.fn) (initSt R_spec_PlanBookOk.fn [.agg [.sl .kind ks, .sl .point ps, .sl .entry es]] []) =
  ifb (!baseOk ks ps) (some (.ret (.bool false) [])) (ifb (decide ((↑es.length : Int) > (12 : Int))) (some (.ret (.bool false) [])) (some (.go (todoAt R_spec_PlanBookOk.fn 4) [.ptr 0 0, .int .i64 (0 : Int)] [.box [.sl .kind ks, .sl .point ps, .sl .entry es]]))) := by kernel_rfl
theorem t_spec_PlanBookOk_4 (x0 : Int) (x1 : List (El .kind)) (x2 : List (El .point)) (x3 : List (El .entry)) : aRun R_spec_PlanBookOk 600 true (todoAt R_spec_PlanBookOk.fn 4) (cutSt R_spec_PlanBookOk.fn (liveOf R_spec_PlanBookOk (todoAt R_spec_PlanBookOk.fn 4)) [.ptr 0 0, .int .i64 x0] [.box [.sl .kind x1, .sl .point x2, .sl .entry x3]]) =
  ifb (decide (x0 < (↑x3.length : Int))) (ifb (inb x0 x3.length) (ifb (szE (x3.getD x0.toNat (R_spec_PlanBookOk.C.dflt Ty.entry))) (ifb (!entryOkS x1 x2 (x3.getD x0.toNat (R_spec_PlanBookOk.C.dflt Ty.entry))) (some (.ret (.bool false) [])) (ifb (decide (x0 > (0 : Int))) (ifb (inb (IntKind.i64.wrap (x0 - (1 : Int))) x3.length) (ifb (inb x0 x3.length) (ifb (!bytesLt (x3.getD (IntKind.i64.wrap (x0 - (1 : Int))).toNat (R_spec_PlanBookOk.C.dflt Ty.entry)).name (x3.getD x0.toNat (R_spec_PlanBookOk.C.dflt Ty.entry)).name) (some (.ret (.bool false) [])) (some (.go (todoAt R_spec_PlanBookOk.fn 4) [.ptr 0 0, .int .i64 (IntKind.i64.wrap (x0 + (1 : Int)))] [.box [.sl .kind x1, .sl .point x2, .sl .entry x3]]))) (none)) (none)) (some (.go (todoAt R_spec_PlanBookOk.fn 4) [.ptr 0 0, .int .i64 (IntKind.i64.wrap (x0 + (1 : Int)))] [.box [.sl .kind x1, .sl .point x2, .sl .entry x3]])))) (none)) (none)) (some (.ret (.bool true) [])) := by kernel_rfl
theorem l_spec_PlanBookOk (ks : List Kind) (ps : List Point) (es : List Entry) (hbase : baseOk ks ps = true) (hl : es.length ≤ 1000000000) (hz : ∀ e ∈ es, szE e = true) : ∀ (d i : Nat), i + d = es.length → Cut R_spec_PlanBookOk g_spec_PlanBookOk 4 [.ptr 0 0, .int .i64 (i : Int)] [.box [.sl .kind ks, .sl .point ps, .sl .entry es]] (.bool (entriesGo ks ps ((es.take i).getLast?.map (·.name)) (es.drop i))) [] := by
  intro d
  induction d with
  | zero =>
    intro i hi
    refine Cut.of R_spec_PlanBookOk_ok rfl (t_spec_PlanBookOk_4 i ks ps es) ?_
    refine Sat.ifb (fun h => ?_) (fun h => ?_)
    · simp at h; omega
    · refine Sat.retB ?_ rfl
      rw [List.drop_of_length_le (by omega)]; rfl
  | succ d ih =>
    intro i hi
    refine Cut.of R_spec_PlanBookOk_ok rfl (t_spec_PlanBookOk_4 i ks ps es) ?_
    have hlt : i < es.length := by omega
    have hw : IntKind.wrap .i64 ((i : Int) + 1) = ((i + 1 : Nat) : Int) := by rw [wrap_ok] <;> omega
    have hw1 : IntKind.wrap .i64 ((i : Int) - 1) = (i : Int) - 1 := by rw [wrap_ok] <;> omega
    have hd : es.drop i = es[i] :: es.drop (i + 1) := List.drop_eq_getElem_cons hlt
    have hx : es.getD (i : Int).toNat (R_spec_PlanBookOk.C.dflt .entry) = es[i] := by simp [hlt]
    have hin : inb (i : Int) es.length = true := by simp only [inb, Bool.and_eq_true, decide_eq_true_eq]; omega
    have hl : (es.take (i + 1)).getLast? = some es[i] := by rw [List.take_succ_eq_append_getElem hlt, List.getLast?_concat]
    have hsz : szE es[i] = true := hz _ (List.getElem_mem hlt)
    have ih' := ih (i + 1) (by omega)
    rw [hl, Option.map_some] at ih'
    rw [hw, hw1, hx, hd, entriesGo]
    refine Sat.ifb (fun _ => ?_) (fun h => ?_)
    · refine Sat.ifb (fun _ => ?_) (fun h => ?_)
      · refine Sat.ifb (fun _ => ?_) (fun h => ?_)
        · refine Sat.ifb (fun h => ?_) (fun h => ?_)
          · refine Sat.retB ?_ rfl
            rw [Bool.not_eq_true'] at h
            rw [entryOkS_eq hbase] at h
            rw [h]; rfl
          · rw [Bool.not_eq_false'] at h
            rw [entryOkS_eq hbase] at h
            rw [h, Bool.true_and]
            refine Sat.ifb (fun h0 => ?_) (fun h0 => ?_)
            · have h0' : ((i : Int) > 0) := of_decide_eq_true h0
              have hi1 : i - 1 < es.length := by omega
              have hx1 : es.getD ((i : Int) - 1).toNat (R_spec_PlanBookOk.C.dflt .entry) = es[i - 1] := by
                rw [show ((i : Int) - 1).toNat = i - 1 by omega]; simp [hi1]
              have hl1 : (es.take i).getLast? = some es[i - 1] := by
                have := List.take_succ_eq_append_getElem hi1
                rw [show i - 1 + 1 = i by omega] at this
                rw [this, List.getLast?_concat]
              rw [hx1, hl1]
              refine Sat.ifb (fun _ => ?_) (fun h => ?_)
              · refine Sat.ifb (fun _ => ?_) (fun h => ?_)
                · refine Sat.ifb (fun h => ?_) (fun h => ?_)
                  · refine Sat.retB ?_ rfl
                    rw [Bool.not_eq_true'] at h
                    simp only [Option.map_some, afterB]
                    rw [h]; rfl
                  · rw [Bool.not_eq_false'] at h
                    simp only [Option.map_some, afterB]
                    rw [h, Bool.true_and]
                    exact Sat.cut ih'
                · rw [hin] at h; cases h
              · have : inb ((i : Int) - 1) es.length = true := by simp only [inb, Bool.and_eq_true, decide_eq_true_eq]; omega
                rw [this] at h; cases h
            · have h0' : ¬ ((i : Int) > 0) := of_decide_eq_false h0
              have : i = 0 := by omega
              subst this
              exact Sat.cut ih'
        · rw [hsz] at h; cases h
      · rw [hin] at h; cases h
    · simp at h; omega
theorem c_spec_PlanBookOk (ks : List Kind) (ps : List Point) (es : List Entry) (hg : szB es = true) : CallOK Tryz.prog CP g_spec_PlanBookOk [.agg [.sl .kind ks, .sl .point ps, .sl .entry es]] [] (.bool (bookOk ks ps es)) [] := by
  refine CallOK.of R_spec_PlanBookOk_ok (by kernel_rfl) (t_spec_PlanBookOk ks ps es) ?_
  have hg' := hg
  simp only [szB, Bool.and_eq_true, decide_eq_true_eq, List.all_eq_true] at hg'
  refine Sat.ifb (fun h => ?_) (fun h => ?_)
  · refine Sat.retB ?_ rfl
    rw [Bool.not_eq_true'] at h
    simp only [bookOk]
    rw [h]; rfl
  · rw [Bool.not_eq_false'] at h
    refine Sat.ifb (fun h2 => ?_) (fun h2 => ?_)
    · refine Sat.retB ?_ rfl
      have : ¬ es.length ≤ 12 := by have := of_decide_eq_true h2; omega
      simp [bookOk, this]
    · have h12 : es.length ≤ 12 := by have := of_decide_eq_false h2; omega
      have key := l_spec_PlanBookOk ks ps es h hg'.1 hg'.2 es.length 0 (by omega)
      rw [show bookOk ks ps es = entriesGo ks ps ((es.take 0).getLast?.map (·.name)) (es.drop 0) by simp [bookOk, h, h12]]
      exact Sat.cut key
theorem E_spec_PlanBookOk_ok : EntOK Tryz.prog CP g_spec_PlanBookOk E_spec_PlanBookOk := by
  refine ⟨⟨Tryz.f49, by kernel_rfl, by kernel_rfl, by kernel_rfl⟩, fun args H res H' h => ?_⟩
  simp only [E_spec_PlanBookOk] at h
  split at h
  · simp only [Option.some.injEq, Prod.mk.injEq] at h
    obtain ⟨hg, rfl, rfl⟩ := h
    exact c_spec_PlanBookOk _ _ _ hg
  · cases h
end Lx
/- Meanings: the reader. -/
set_option linter.unusedVariables false
namespace Lx
open Go Go.Proofs
def E_spec_l17At : Ent Ty El := ⟨[.ro, .ro], 0, fun a h => match a, h with
  | [.agg [.sl .kind ks, .sl .point ps], .str n], [] => some (decide (ps.length < 1000000000) && decide (0 ≤ pointIx ps n), .agg [.int .i64 (ps.getD (pointIx ps n).toNat default).x, .int .i64 (ps.getD (pointIx ps n).toNat default).y], [])
  | _, _ => none⟩
def E_spec_l11Open : Ent Ty El := ⟨[.ro], 1, fun a h => match a, h with
  | [.sl .u8 c], [] => some (true, .ptr 0 0, [.box [.sl .u8 (c.take 2000), .int .i64 0]])
  | _, _ => none⟩
def wr (n : Int) : Int := IntKind.wrap .i64 n
def pickX (bs : List Int) (k : Int) : Int :=
  wr (wr (wr (wr (wr (bs.getD (k.tmod bs.length).toNat (dfltP .u8)) * 131) + wr (wr (bs.getD ((wr (wr (k * 7) + 3)).tmod bs.length).toNat (dfltP .u8)) * 1117)) + wr (k * 29)) + wr (wr (k.tdiv bs.length) * 53))
def pickV (bs : List Int) (p n : Int) : Int :=
  if n < 1 then 0 else if (bs.length : Int) = 0 then 0 else if p < bs.length then (wr (bs.getD p.toNat (dfltP .u8))).tmod n
  else (wr ((BitVec.ofInt 64 (pickX bs p) ^^^ BitVec.ofInt 64 (wr ((pickX bs p).tdiv 64))).toNat : Int)).tmod n
def posOk (p : Int) : Bool := decide (0 ≤ p) && decide (p < 1000000)
def E_spec_l11Rd_pick : Ent Ty El := ⟨[.io, .ro], 0, fun a h => match a, h with
  | [.ptr 0 0, .int .i64 n], [.box [.sl .u8 bs, .int .i64 p]] => some (posOk p, .int .i64 (pickV bs p n), [.box [.sl .u8 bs, .int .i64 (p + 1)]])
  | _, _ => none⟩
end Lx
/- Functions, each with its contract. -/
set_option linter.unusedVariables false
set_option linter.unusedSimpArgs false
set_option maxRecDepth 4000
namespace Lx
open Go Go.Proofs
/-- spec.l17At -/
noncomputable def R_spec_l17At : RE Ty El := ⟨Tryz.prog, CP, [(g_spec_l11Point, E_spec_l11Point)], Tryz.f125, 0, [], []⟩
theorem R_spec_l17At_ok : REOK R_spec_l17At g_spec_l17At := ⟨CP_ok, (TabOK.cons E_spec_l11Point_ok EOKnil), by kernel_rfl, by kernel_rfl⟩
theorem t_spec_l17At (ks : List Kind) (ps : List Point) (n : Str) : aRun R_spec_l17At 600 false (body0 R_spec_l17At.fn) (initSt R_spec_l17At.fn [.agg [.sl .kind ks, .sl .point ps], .str n] []) =
  ifb (decide (ps.length < (1000000000 : Nat))) (ifb (inb (idxF (fun p => p.name == n) ps) ps.length) (some (.ret (.agg [.int .i64 ((ps.getD (idxF (fun p => p.name == n) ps).toNat (R_spec_l17At.C.dflt Ty.point)).x), .int .i64 ((ps.getD (idxF (fun p => p.name == n) ps).toNat (R_spec_l17At.C.dflt Ty.point)).y)]) [])) (none)) (none) := by kernel_rfl
theorem c_spec_l17At (ks : List Kind) (ps : List Point) (n : Str) (hg : (decide (ps.length < 1000000000) && decide (0 ≤ pointIx ps n)) = true) : CallOK Tryz.prog CP g_spec_l17At [.agg [.sl .kind ks, .sl .point ps], .str n] [] (.agg [.int .i64 (ps.getD (pointIx ps n).toNat default).x, .int .i64 (ps.getD (pointIx ps n).toNat default).y]) [] := by
  refine CallOK.of R_spec_l17At_ok (by kernel_rfl) (t_spec_l17At ks ps n) ?_
  simp only [Bool.and_eq_true] at hg
  obtain ⟨hl, hp⟩ := hg
  refine Sat.ifb (fun _ => ?_) (fun h => ?_)
  · refine Sat.ifb (fun _ => ?_) (fun h => ?_)
    · exact Sat.ret rfl rfl
    · refine Sat.no ?_
      have h1 := of_decide_eq_true hp
      have h2 := idxF_lt (p := fun q : Point => q.name == n) (l := ps)
      have h3 : pointIx ps n = idxF (fun q : Point => q.name == n) ps := rfl
      have : inb (idxF (fun p => p.name == n) ps) ps.length = true := by simp only [inb, Bool.and_eq_true, decide_eq_true_eq]; omega
      rw [this] at h; cases h
  · rw [hl] at h; cases h
theorem E_spec_l17At_ok : EntOK Tryz.prog CP g_spec_l17At E_spec_l17At := by
  refine ⟨⟨Tryz.f125, by kernel_rfl, by kernel_rfl, by kernel_rfl⟩, fun args H res H' h => ?_⟩
  simp only [E_spec_l17At] at h
  split at h
  · simp only [Option.some.injEq, Prod.mk.injEq] at h
    obtain ⟨hg, rfl, rfl⟩ := h
    exact c_spec_l17At _ _ _ hg
  · cases h

/-- spec.l11Open -/
noncomputable def R_spec_l11Open : RE Ty El := ⟨Tryz.prog, CP, [], Tryz.f80, 0, [], []⟩
theorem R_spec_l11Open_ok : REOK R_spec_l11Open g_spec_l11Open := ⟨CP_ok, EOKnil, by kernel_rfl, by kernel_rfl⟩
theorem t_spec_l11Open (c : List Int) : aRun R_spec_l11Open 600 false (body0 R_spec_l11Open.fn) (initSt R_spec_l11Open.fn [.sl .u8 c] []) =
  ifb (decide ((↑c.length : Int) > (2000 : Int))) (ifb (decide ((0 : Int) ≤ (0 : Int)) && (decide ((0 : Int) ≤ (2000 : Int)) && decide ((2000 : Int) ≤ (↑c.length : Int)))) (some (.ret (.ptr 0 0) [.box [.sl .u8 (List.take (Int.toNat (2000 : Int) - Int.toNat (0 : Int)) (List.drop (Int.toNat (0 : Int)) c)), .int .i64 (0 : Int)]])) (none)) (some (.ret (.ptr 0 0) [.box [.sl .u8 c, .int .i64 (0 : Int)]])) := by kernel_rfl
theorem c_spec_l11Open (c : List Int) : CallOK Tryz.prog CP g_spec_l11Open [.sl .u8 c] [] (.ptr 0 0) [.box [.sl .u8 (c.take 2000), .int .i64 0]] := by
  refine CallOK.of R_spec_l11Open_ok (by kernel_rfl) (t_spec_l11Open c) ?_
  refine Sat.ifb (fun h => ?_) (fun h => ?_)
  · have h' := of_decide_eq_true h
    refine Sat.ifb (fun _ => ?_) (fun h => ?_)
    · exact Sat.ret rfl rfl
    · refine Sat.no ?_
      simp at h; omega
  · have h' := of_decide_eq_false h
    refine Sat.ret rfl ?_
    rw [List.take_of_length_le (by omega)]
theorem E_spec_l11Open_ok : EntOK Tryz.prog CP g_spec_l11Open E_spec_l11Open := by
  refine ⟨⟨Tryz.f80, by kernel_rfl, by kernel_rfl, by kernel_rfl⟩, fun args H res H' h => ?_⟩
  simp only [E_spec_l11Open] at h
  split at h
  · simp only [Option.some.injEq, Prod.mk.injEq] at h
    obtain ⟨hg, rfl, rfl⟩ := h
    exact c_spec_l11Open _
  · cases h

/-- (*spec.l11Rd).pick -/
noncomputable def R_spec_l11Rd_pick : RE Ty El := ⟨Tryz.prog, CP, [], Tryz.f83, 1, [], []⟩
theorem R_spec_l11Rd_pick_ok : REOK R_spec_l11Rd_pick g_spec_l11Rd_pick := ⟨CP_ok, EOKnil, by kernel_rfl, by kernel_rfl⟩
theorem t_spec_l11Rd_pick (bs : List Int) (p n : Int) : aRun R_spec_l11Rd_pick 600 false (body0 R_spec_l11Rd_pick.fn) (initSt R_spec_l11Rd_pick.fn [.ptr 0 0, .int .i64 n] [.box [.sl .u8 bs, .int .i64 p]]) =
  ifb (decide (n < (1 : Int))) (some (.ret (.int .i64 (0 : Int)) [.box [.sl .u8 bs, .int .i64 (IntKind.i64.wrap (p + (1 : Int)))]])) (ifb ((↑bs.length : Int) == (0 : Int)) (some (.ret (.int .i64 (0 : Int)) [.box [.sl .u8 bs, .int .i64 (IntKind.i64.wrap (p + (1 : Int)))]])) (ifb (decide (IntKind.i64.wrap (IntKind.i64.wrap (p + (1 : Int)) - (1 : Int)) < (↑bs.length : Int))) (ifb (inb (IntKind.i64.wrap (IntKind.i64.wrap (p + (1 : Int)) - (1 : Int))) bs.length) (ifb (!n == (0 : Int)) (some (.ret (.int .i64 ((IntKind.i64.wrap (bs.getD (IntKind.i64.wrap (IntKind.i64.wrap (p + (1 : Int)) - (1 : Int))).toNat (R_spec_l11Rd_pick.C.dflt Ty.u8))).tmod n)) [.box [.sl .u8 bs, .int .i64 (IntKind.i64.wrap (p + (1 : Int)))]])) (none)) (none)) (ifb (!(↑bs.length : Int) == (0 : Int)) (ifb (inb ((IntKind.i64.wrap (IntKind.i64.wrap (p + (1 : Int)) - (1 : Int))).tmod (↑bs.length : Int)) bs.length) (ifb (!(↑bs.length : Int) == (0 : Int)) (ifb (inb ((IntKind.i64.wrap (IntKind.i64.wrap (IntKind.i64.wrap (IntKind.i64.wrap (p + (1 : Int)) - (1 : Int)) * (7 : Int)) + (3 : Int))).tmod (↑bs.length : Int)) bs.length) (ifb (!(↑bs.length : Int) == (0 : Int)) (ifb (!n == (0 : Int)) (some (.ret (.int .i64 ((IntKind.i64.wrap (↑(BitVec.ofInt IntKind.i64.bits (IntKind.i64.wrap (IntKind.i64.wrap (IntKind.i64.wrap (IntKind.i64.wrap (IntKind.i64.wrap (bs.getD ((IntKind.i64.wrap (IntKind.i64.wrap (p + (1 : Int)) - (1 : Int))).tmod (↑bs.length : Int)).toNat (R_spec_l11Rd_pick.C.dflt Ty.u8)) * (131 : Int)) + IntKind.i64.wrap (IntKind.i64.wrap (bs.getD ((IntKind.i64.wrap (IntKind.i64.wrap (IntKind.i64.wrap (IntKind.i64.wrap (p + (1 : Int)) - (1 : Int)) * (7 : Int)) + (3 : Int))).tmod (↑bs.length : Int)).toNat (R_spec_l11Rd_pick.C.dflt Ty.u8)) * (1117 : Int))) + IntKind.i64.wrap (IntKind.i64.wrap (IntKind.i64.wrap (p + (1 : Int)) - (1 : Int)) * (29 : Int))) + IntKind.i64.wrap (IntKind.i64.wrap ((IntKind.i64.wrap (IntKind.i64.wrap (p + (1 : Int)) - (1 : Int))).tdiv (↑bs.length : Int)) * (53 : Int)))) ^^^ BitVec.ofInt IntKind.i64.bits (IntKind.i64.wrap ((IntKind.i64.wrap (IntKind.i64.wrap (IntKind.i64.wrap (IntKind.i64.wrap (IntKind.i64.wrap (bs.getD ((IntKind.i64.wrap (IntKind.i64.wrap (p + (1 : Int)) - (1 : Int))).tmod (↑bs.length : Int)).toNat (R_spec_l11Rd_pick.C.dflt Ty.u8)) * (131 : Int)) + IntKind.i64.wrap (IntKind.i64.wrap (bs.getD ((IntKind.i64.wrap (IntKind.i64.wrap (IntKind.i64.wrap (IntKind.i64.wrap (p + (1 : Int)) - (1 : Int)) * (7 : Int)) + (3 : Int))).tmod (↑bs.length : Int)).toNat (R_spec_l11Rd_pick.C.dflt Ty.u8)) * (1117 : Int))) + IntKind.i64.wrap (IntKind.i64.wrap (IntKind.i64.wrap (p + (1 : Int)) - (1 : Int)) * (29 : Int))) + IntKind.i64.wrap (IntKind.i64.wrap ((IntKind.i64.wrap (IntKind.i64.wrap (p + (1 : Int)) - (1 : Int))).tdiv (↑bs.length : Int)) * (53 : Int)))).tdiv (64 : Int)))).toNat : Int)).tmod n)) [.box [.sl .u8 bs, .int .i64 (IntKind.i64.wrap (p + (1 : Int)))]])) (none)) (none)) (none)) (none)) (none)) (none)))) := by kernel_rfl
theorem c_spec_l11Rd_pick (bs : List Int) (p n : Int) (hg : posOk p = true) : CallOK Tryz.prog CP g_spec_l11Rd_pick [.ptr 0 0, .int .i64 n] [.box [.sl .u8 bs, .int .i64 p]] (.int .i64 (pickV bs p n)) [.box [.sl .u8 bs, .int .i64 (p + 1)]] := by
  refine CallOK.of R_spec_l11Rd_pick_ok (by kernel_rfl) (t_spec_l11Rd_pick bs p n) ?_
  simp only [posOk, Bool.and_eq_true, decide_eq_true_eq] at hg
  have k1 : IntKind.wrap .i64 (p + 1) = p + 1 := by rw [wrap_ok] <;> omega
  have k2 : IntKind.wrap .i64 (p + 1 - 1) = p := by rw [wrap_ok] <;> omega
  have k3 : IntKind.wrap .i64 (p * 7) = p * 7 := by rw [wrap_ok] <;> omega
  have k4 : IntKind.wrap .i64 (p * 7 + 3) = p * 7 + 3 := by rw [wrap_ok] <;> omega
  rw [k1, k2]
  have inm : ∀ q : Int, 0 ≤ q → ¬ (bs.length : Int) = 0 → inb (q.tmod (bs.length : Int)) bs.length = true := fun q hq hb => by
    have h1 := Int.tmod_nonneg (bs.length : Int) hq
    have h2 := Int.tmod_lt_of_pos q (show (0 : Int) < (bs.length : Int) by omega)
    simp only [inb, Bool.and_eq_true, decide_eq_true_eq]; exact ⟨h1, h2⟩
  refine Sat.ifb (fun h => ?_) (fun h => ?_)
  · refine Sat.retI ?_ rfl
    unfold pickV; rw [if_pos (of_decide_eq_true h)]
  · have hn := of_decide_eq_false h
    have hn0 : (!n == (0 : Int)) = true := by simp; omega
    refine Sat.ifb (fun h => ?_) (fun h => ?_)
    · refine Sat.retI ?_ rfl
      unfold pickV; rw [if_neg hn, if_pos (eq_of_beq h)]
    · have hb : ¬ (bs.length : Int) = 0 := beq_eq_false_iff_ne.1 h
      have hb0 : (!(bs.length : Int) == (0 : Int)) = true := by rw [h]; rfl
      refine Sat.ifb (fun h => ?_) (fun h => ?_)
      · have hlt := of_decide_eq_true h
        refine Sat.ifb (fun _ => ?_) (fun h => ?_)
        · refine Sat.ifb (fun _ => ?_) (fun h => ?_)
          · refine Sat.retI ?_ rfl
            unfold pickV; rw [if_neg hn, if_neg hb, if_pos hlt]; rfl
          · rw [hn0] at h; cases h
        · have : inb p bs.length = true := by simp only [inb, Bool.and_eq_true, decide_eq_true_eq]; omega
          rw [this] at h; cases h
      · have hlt := of_decide_eq_false h
        refine Sat.ifb (fun _ => ?_) (fun h => ?_)
        · refine Sat.ifb (fun _ => ?_) (fun h => ?_)
          · refine Sat.ifb (fun _ => ?_) (fun h => ?_)
            · refine Sat.ifb (fun _ => ?_) (fun h => ?_)
              · refine Sat.ifb (fun _ => ?_) (fun h => ?_)
                · refine Sat.ifb (fun _ => ?_) (fun h => ?_)
                  · refine Sat.retI ?_ rfl
                    unfold pickV; rw [if_neg hn, if_neg hb, if_neg hlt]; rfl
                  · rw [hn0] at h; cases h
                · rw [hb0] at h; cases h
              · rw [k3, k4, inm _ (by omega) hb] at h; cases h
            · rw [hb0] at h; cases h
          · rw [inm p hg.1 hb] at h; cases h
        · rw [hb0] at h; cases h
theorem E_spec_l11Rd_pick_ok : EntOK Tryz.prog CP g_spec_l11Rd_pick E_spec_l11Rd_pick := by
  refine ⟨⟨Tryz.f83, by kernel_rfl, by kernel_rfl, by kernel_rfl⟩, fun args H res H' h => ?_⟩
  simp only [E_spec_l11Rd_pick] at h
  split at h
  · simp only [Option.some.injEq, Prod.mk.injEq] at h
    obtain ⟨hg, rfl, rfl⟩ := h
    exact c_spec_l11Rd_pick _ _ _ hg
  · cases h
end Lx
/- What a pick can be. -/
set_option linter.unusedVariables false
namespace Lx
open Go Go.Proofs
def bytesOk (bs : List Int) : Bool := bs.all fun b => decide (0 ≤ b) && decide (b ≤ 255)
theorem getD_byte {bs : List Int} (h : bytesOk bs = true) (i : Nat) : 0 ≤ bs.getD i (dfltP .u8) ∧ bs.getD i (dfltP .u8) ≤ 255 := by
  rw [List.getD_eq_getElem?_getD]
  cases hi : bs[i]? with
  | none => exact ⟨by decide, by decide⟩
  | some b =>
    have := List.all_eq_true.1 h b (List.mem_of_getElem? hi)
    simpa using this
theorem pickX_bound {bs : List Int} {k : Int} (h : bytesOk bs = true) (hk : 0 ≤ k) (hk2 : k < 1000000) : 0 ≤ pickX bs k ∧ pickX bs k < 1000000000 := by
  unfold pickX
  obtain ⟨a1, a2⟩ := getD_byte h (k.tmod bs.length).toNat
  obtain ⟨b1, b2⟩ := getD_byte h ((wr (wr (k * 7) + 3)).tmod bs.length).toNat
  have q0 : 0 ≤ k.tdiv bs.length := Int.tdiv_nonneg hk (Int.natCast_nonneg _)
  have q1 : k.tdiv bs.length ≤ k := Int.tdiv_le_self _ hk
  generalize bs.getD (k.tmod bs.length).toNat (dfltP .u8) = b at *
  generalize bs.getD ((wr (wr (k * 7) + 3)).tmod bs.length).toNat (dfltP .u8) = c at *
  generalize k.tdiv bs.length = q at *
  change Int at b
  change Int at c
  have e1 : wr b = b := wrap_ok (by omega) (by omega)
  have e2 : wr c = c := wrap_ok (by omega) (by omega)
  have e3 : wr q = q := wrap_ok (by omega) (by omega)
  rw [e1, e2, e3]
  have e4 : wr (b * 131) = b * 131 := wrap_ok (by omega) (by omega)
  have e5 : wr (c * 1117) = c * 1117 := wrap_ok (by omega) (by omega)
  have e6 : wr (k * 29) = k * 29 := wrap_ok (by omega) (by omega)
  have e7 : wr (q * 53) = q * 53 := wrap_ok (by omega) (by omega)
  rw [e4, e5, e6, e7]
  have e8 : wr (b * 131 + c * 1117) = b * 131 + c * 1117 := wrap_ok (by omega) (by omega)
  rw [e8]
  have e9 : wr (b * 131 + c * 1117 + k * 29) = b * 131 + c * 1117 + k * 29 := wrap_ok (by omega) (by omega)
  rw [e9]
  have e10 : wr (b * 131 + c * 1117 + k * 29 + q * 53) = b * 131 + c * 1117 + k * 29 + q * 53 := wrap_ok (by omega) (by omega)
  rw [e10]
  omega
theorem xor_small {x y : Int} (hx : 0 ≤ x) (hx2 : x < 4611686018427387904) (hy : 0 ≤ y) (hy2 : y < 4611686018427387904) : (BitVec.ofInt 64 x ^^^ BitVec.ofInt 64 y).toNat < 4611686018427387904 := by
  rw [BitVec.toNat_xor, BitVec.toNat_ofInt, BitVec.toNat_ofInt]
  have h1 : (x % ((2 : Nat) ^ 64 : Nat)).toNat < 2 ^ 62 := by
    rw [Int.emod_eq_of_lt hx (by omega)]; omega
  have h2 : (y % ((2 : Nat) ^ 64 : Nat)).toNat < 2 ^ 62 := by
    rw [Int.emod_eq_of_lt hy (by omega)]; omega
  exact Nat.xor_lt_two_pow h1 h2
theorem pickV_range {bs : List Int} {p n : Int} (h : bytesOk bs = true) (hp : posOk p = true) (hn : 1 ≤ n) : 0 ≤ pickV bs p n ∧ pickV bs p n < n := by
  simp only [posOk, Bool.and_eq_true, decide_eq_true_eq] at hp
  have tm : ∀ a : Int, 0 ≤ a → 0 ≤ a.tmod n ∧ a.tmod n < n := fun a ha => ⟨Int.tmod_nonneg n ha, Int.tmod_lt_of_pos a (by omega)⟩
  unfold pickV
  rw [if_neg (by omega)]
  split
  · omega
  · split
    · obtain ⟨a1, a2⟩ := getD_byte h p.toNat
      have : wr (bs.getD p.toNat (dfltP .u8)) = bs.getD p.toNat (dfltP .u8) := wrap_ok (Int.le_trans (by decide) a1) (Int.lt_of_le_of_lt a2 (by decide))
      rw [this]
      exact tm _ a1
    · obtain ⟨x1, x2⟩ := pickX_bound h hp.1 hp.2
      generalize pickX bs p = x at *
      have y1 : 0 ≤ x.tdiv 64 := Int.tdiv_nonneg x1 (by omega)
      have y2 : x.tdiv 64 ≤ x := Int.tdiv_le_self _ x1
      have ey : wr (x.tdiv 64) = x.tdiv 64 := wrap_ok (by omega) (by omega)
      rw [ey]
      have := xor_small x1 (by omega) y1 (by omega)
      generalize (BitVec.ofInt 64 x ^^^ BitVec.ofInt 64 (x.tdiv 64)).toNat = z at *
      have ez : wr (z : Int) = (z : Int) := wrap_ok (by omega) (by omega)
      rw [ez]
      exact tm _ (by omega)
end Lx
/- Meanings: one of a list. -/
set_option linter.unusedVariables false
namespace Lx
open Go Go.Proofs
def rdOk (bs : List Int) (p : Int) : Bool := bytesOk bs && posOk p
def ofV (bs : List Int) (p : Int) (l : List Str) : Str := l.getD (pickV bs p l.length).toNat []
def E_spec_l11Rd_of : Ent Ty El := ⟨[.io, .ro], 0, fun a h => match a, h with
  | [.ptr 0 0, .sl .str l], [.box [.sl .u8 bs, .int .i64 p]] => some (rdOk bs p && decide (0 < l.length), .str (ofV bs p l), [.box [.sl .u8 bs, .int .i64 (p + 1)]])
  | _, _ => none⟩
end Lx
/- Functions, each with its contract. -/
set_option linter.unusedVariables false
set_option linter.unusedSimpArgs false
set_option maxRecDepth 4000
namespace Lx
open Go Go.Proofs
/-- (*spec.l11Rd).of -/
noncomputable def R_spec_l11Rd_of : RE Ty El := ⟨Tryz.prog, CP, [(g_spec_l11Rd_pick, E_spec_l11Rd_pick)], Tryz.f113, 1, [], []⟩
theorem R_spec_l11Rd_of_ok : REOK R_spec_l11Rd_of g_spec_l11Rd_of := ⟨CP_ok, (TabOK.cons E_spec_l11Rd_pick_ok EOKnil), by kernel_rfl, by kernel_rfl⟩
theorem t_spec_l11Rd_of (bs : List Int) (p : Int) (l : List Str) : aRun R_spec_l11Rd_of 600 false (body0 R_spec_l11Rd_of.fn) (initSt R_spec_l11Rd_of.fn [.ptr 0 0, .sl .str l] [.box [.sl .u8 bs, .int .i64 p]]) =
  ifb (posOk p) (ifb (inb (pickV bs p (↑l.length : Int)) l.length) (some (.ret (.str (l.getD (pickV bs p (↑l.length : Int)).toNat (R_spec_l11Rd_of.C.dflt Ty.str))) [.box [.sl .u8 bs, .int .i64 (p + (1 : Int))]])) (none)) (none) := by kernel_rfl
theorem c_spec_l11Rd_of (bs : List Int) (p : Int) (l : List Str) (hg : (rdOk bs p && decide (0 < l.length)) = true) : CallOK Tryz.prog CP g_spec_l11Rd_of [.ptr 0 0, .sl .str l] [.box [.sl .u8 bs, .int .i64 p]] (.str (ofV bs p l)) [.box [.sl .u8 bs, .int .i64 (p + 1)]] := by
  refine CallOK.of R_spec_l11Rd_of_ok (by kernel_rfl) (t_spec_l11Rd_of bs p l) ?_
  simp only [rdOk, Bool.and_eq_true, decide_eq_true_eq] at hg
  obtain ⟨⟨hb, hp⟩, hl⟩ := hg
  refine Sat.ifb (fun _ => ?_) (fun h => ?_)
  · refine Sat.ifb (fun _ => ?_) (fun h => ?_)
    · exact Sat.ret rfl rfl
    · obtain ⟨h1, h2⟩ := pickV_range (n := (l.length : Int)) hb hp (by omega)
      have : inb (pickV bs p (l.length : Int)) l.length = true := by simp only [inb, Bool.and_eq_true, decide_eq_true_eq]; exact ⟨h1, h2⟩
      rw [this] at h; cases h
  · rw [hp] at h; cases h
theorem E_spec_l11Rd_of_ok : EntOK Tryz.prog CP g_spec_l11Rd_of E_spec_l11Rd_of := by
  refine ⟨⟨Tryz.f113, by kernel_rfl, by kernel_rfl, by kernel_rfl⟩, fun args H res H' h => ?_⟩
  simp only [E_spec_l11Rd_of] at h
  split at h
  · simp only [Option.some.injEq, Prod.mk.injEq] at h
    obtain ⟨hg, rfl, rfl⟩ := h
    exact c_spec_l11Rd_of _ _ _ hg
  · cases h
end Lx
/- Meanings: names drawn. -/
set_option linter.unusedVariables false
namespace Lx
open Go Go.Proofs
def names16 : List Str := [[107, 108, 49], [107, 108, 49], [107, 108, 49], [98, 97, 45, 50], [108, 104, 51], [120], [110, 111, 110, 101], []]
def E_spec_l16Name : Ent Ty El := ⟨[.io], 0, fun a h => match a, h with
  | [.ptr 0 0], [.box [.sl .u8 bs, .int .i64 p]] => some (rdOk bs p, .str (ofV bs p names16), [.box [.sl .u8 bs, .int .i64 (p + 1)]])
  | _, _ => none⟩
end Lx
/- Functions, each with its contract. -/
set_option linter.unusedVariables false
set_option linter.unusedSimpArgs false
set_option maxRecDepth 4000
namespace Lx
open Go Go.Proofs
/-- spec.l16Name -/
noncomputable def R_spec_l16Name : RE Ty El := ⟨Tryz.prog, CP, [(g_spec_l11Rd_of, E_spec_l11Rd_of)], Tryz.f82, 1, [], []⟩
theorem R_spec_l16Name_ok : REOK R_spec_l16Name g_spec_l16Name := ⟨CP_ok, (TabOK.cons E_spec_l11Rd_of_ok EOKnil), by kernel_rfl, by kernel_rfl⟩
theorem t_spec_l16Name (bs : List Int) (p : Int) : aRun R_spec_l16Name 600 false (body0 R_spec_l16Name.fn) (initSt R_spec_l16Name.fn [.ptr 0 0] [.box [.sl .u8 bs, .int .i64 p]]) =
  ifb (rdOk bs p && decide ((0 : Nat) < [#[(107 : UInt8), (108 : UInt8), (49 : UInt8)].toList, #[(107 : UInt8), (108 : UInt8), (49 : UInt8)].toList, #[(107 : UInt8), (108 : UInt8), (49 : UInt8)].toList, #[(98 : UInt8), (97 : UInt8), (45 : UInt8), (50 : UInt8)].toList, #[(108 : UInt8), (104 : UInt8), (51 : UInt8)].toList, #[(120 : UInt8)].toList, #[(110 : UInt8), (111 : UInt8), (110 : UInt8), (101 : UInt8)].toList, #[].toList].length)) (some (.ret (.str (ofV bs p [#[(107 : UInt8), (108 : UInt8), (49 : UInt8)].toList, #[(107 : UInt8), (108 : UInt8), (49 : UInt8)].toList, #[(107 : UInt8), (108 : UInt8), (49 : UInt8)].toList, #[(98 : UInt8), (97 : UInt8), (45 : UInt8), (50 : UInt8)].toList, #[(108 : UInt8), (104 : UInt8), (51 : UInt8)].toList, #[(120 : UInt8)].toList, #[(110 : UInt8), (111 : UInt8), (110 : UInt8), (101 : UInt8)].toList, #[].toList])) [.box [.sl .u8 bs, .int .i64 (p + (1 : Int))]])) (none) := by kernel_rfl
theorem c_spec_l16Name (bs : List Int) (p : Int) (hg : rdOk bs p = true) : CallOK Tryz.prog CP g_spec_l16Name [.ptr 0 0] [.box [.sl .u8 bs, .int .i64 p]] (.str (ofV bs p names16)) [.box [.sl .u8 bs, .int .i64 (p + 1)]] := by
  refine CallOK.of R_spec_l16Name_ok (by kernel_rfl) (t_spec_l16Name bs p) ?_
  refine Sat.ifb (fun _ => ?_) (fun h => ?_)
  · exact Sat.ret rfl rfl
  · rw [hg] at h; cases h
theorem E_spec_l16Name_ok : EntOK Tryz.prog CP g_spec_l16Name E_spec_l16Name := by
  refine ⟨⟨Tryz.f82, by kernel_rfl, by kernel_rfl, by kernel_rfl⟩, fun args H res H' h => ?_⟩
  simp only [E_spec_l16Name] at h
  split at h
  · simp only [Option.some.injEq, Prod.mk.injEq] at h
    obtain ⟨hg, rfl, rfl⟩ := h
    exact c_spec_l16Name _ _ hg
  · cases h
end Lx
/- Meanings: a part of a leg. -/
set_option linter.unusedVariables false
namespace Lx
open Go Go.Proofs
def partF (d k n : Int) : Int := (2 * k * d + n) / (2 * n)
def partOk (d k n : Int) : Bool := (decide (-1000 ≤ d) && decide (d ≤ 1000)) && ((decide (0 ≤ k) && decide (k ≤ 1000)) && (decide (0 < n) && decide (n ≤ 1000)))
def E_spec_l17Part : Ent Ty El := ⟨[.ro, .ro, .ro], 0, fun a h => match a, h with
  | [.int .i64 d, .int .i64 k, .int .i64 n], [] => some (partOk d k n, .int .i64 (partF d k n), [])
  | _, _ => none⟩
theorem tdiv_floor {x y : Int} (hy : 0 < y) : x / y = if x < 0 ∧ x.tdiv y * y ≠ x then x.tdiv y - 1 else x.tdiv y := by
  have h2 := Int.mul_ediv_add_emod x y
  have h6 := Int.tdiv_eq_ediv (a := x) (b := y)
  have hs : y.sign = 1 := Int.sign_eq_one_of_pos hy
  by_cases hx0 : 0 ≤ x
  · simp only [hx0, true_or, if_true] at h6
    rw [if_neg (by omega)]; omega
  · by_cases hd : y ∣ x
    · simp only [hd, or_true, if_true] at h6
      have : x.tdiv y * y = x := Int.tdiv_mul_cancel hd
      rw [if_neg (by simp [this])]; omega
    · simp only [hd, hx0, or_self, if_false, hs] at h6
      have : x.tdiv y * y ≠ x := fun e => hd ⟨x.tdiv y, by rw [Int.mul_comm]; exact e.symm⟩
      rw [if_pos ⟨by omega, this⟩]; omega
end Lx
/- What the library's functions do, as contracts of the evaluator's: the bridge. -/
set_option linter.unusedVariables false
set_option linter.unusedSimpArgs false
namespace Lx
open Go
section
variable {Ty : Type} {El : Ty → Type} {C : Cod Ty El} {P : Program}

/-- A call that writes into nothing that was there, and answers with what hangs on new memory alone. -/
theorem CallOK.quiet {g : FuncId} {args : List (AV Ty El)} {res : AV Ty El} (hC : CodOK P C) (hc : ∀ (w : World) (N : Nm) (vs : Array Value), vs.size = args.length → (∀ (j : Nat) v x, vs[j]? = some v → args[j]? = some x → RepA C N w v x) →
    Calls P g vs w fun en w' => ∃ v, en = .returned v ∧ Fr w w' (fun _ => False) ∧ ∀ N' : Nm, (∀ b, N.ro b → N'.ro b) → (∀ b, w.heap.size ≤ b → b < w'.heap.size → N'.ro b) → RepA C N' w' v res) : CallOK P C g args [] res [] := by
  intro w N vs hH hsz hrep
  refine (hc w N vs hsz hrep).mono ?_
  rintro en w' ⟨v, rfl, hF, hr⟩
  have hno : ∀ k b, ¬ N.F k b := fun k b hb => by
    have := hH.obj k
    exact this b hb
  have hnG : ∀ r p v u, ¬ N.G r p v u := fun r p v u hg => hH.reg r p v u hg
  refine ⟨v, { N with ro := fun b => N.ro b ∨ (w.heap.size ≤ b ∧ b < w'.heap.size) }, rfl, ⟨fun k => ?_, fun r p v u hg => (hnG r p v u hg).elim, fun r => trivial, fun r p v u hg => (hnG r p v u hg).elim, fun r r' b h => (hno r b h).elim, fun r b h => (hno r b h).elim, fun b hb => ?_⟩, hr _ (fun b hb => .inl hb) (fun b h1 h2 => .inr ⟨h1, h2⟩), fun k hk => (by simp at hk), fun b hb => .inl hb, fun b hb => hb.imp id (fun h => .inl h.1), ⟨hF.os, hF.tape, hF.output, hF.size, fun b hb _ => hF.block b hb (fun h => h)⟩, fun k b hb => (hno k b hb).elim⟩
  · exact fun b hb => hno k b hb
  · rcases hb with hb | hb
    · exact Nat.lt_of_lt_of_le (hH.roLt b hb) hF.size
    · exact hb.2

theorem Fr.refl' (w : World) (m : Nat → Prop) : Fr w w m := ⟨rfl, rfl, rfl, Nat.le_refl _, fun _ _ _ => rfl⟩
theorem Fr.trans' {w0 w1 w2 : World} (h : Fr w0 w1 (fun _ => False)) (h' : Fr w1 w2 (fun _ => False)) : Fr w0 w2 (fun _ => False) :=
  ⟨h'.os.trans h.os, h'.tape.trans h.tape, h'.output.trans h.output, Nat.le_trans h.size h'.size, fun b hb _ => (h'.block b (Nat.lt_of_lt_of_le hb h.size) (fun h => h)).trans (h.block b hb (fun h => h))⟩
theorem Fr.alloc (w : World) (o : Obj) : Fr w (w.alloc o) (fun _ => False) := ⟨rfl, rfl, rfl, by rw [alloc_size]; omega, fun b hb _ => alloc_old w o hb⟩

/-- One string among the arguments. -/
theorem arg_str {N : Nm} {w : World} {vs : Array Value} {args : List (AV Ty El)} (h : ∀ (j : Nat) v x, vs[j]? = some v → args[j]? = some x → RepA C N w v x) (hsz : vs.size = args.length) {j : Nat} {l : List UInt8} (hj : args[j]? = some (.str l)) : ∃ s : ByteArray, vs[j]? = some (.string s) ∧ s.data.toList = l := by
  have hlt : j < vs.size := by rw [hsz]; exact (List.getElem?_eq_some_iff.1 hj).1
  have hv : vs[j]? = some vs[j] := Array.getElem?_eq_getElem hlt
  obtain ⟨s, e, hs⟩ := (h j _ _ hv hj).inv_str
  exact ⟨s, by rw [hv, e], hs⟩
theorem arg_int {N : Nm} {w : World} {vs : Array Value} {args : List (AV Ty El)} (h : ∀ (j : Nat) v x, vs[j]? = some v → args[j]? = some x → RepA C N w v x) (hsz : vs.size = args.length) {j : Nat} {k : IntKind} {n : Int} (hj : args[j]? = some (.int k n)) : vs[j]? = some (.int k n) := by
  have hlt : j < vs.size := by rw [hsz]; exact (List.getElem?_eq_some_iff.1 hj).1
  have hv : vs[j]? = some vs[j] := Array.getElem?_eq_getElem hlt
  rw [hv, (h j _ _ hv hj).inv_int]
theorem arr1 {vs : Array Value} {a : Value} (hsz : vs.size = 1) (h0 : vs[0]? = some a) : vs = #[a] := by
  apply Array.ext_getElem?
  intro i
  match i with
  | 0 => exact h0
  | i + 1 => rw [Array.getElem?_eq_none (by omega), Array.getElem?_eq_none (by simp)]
theorem arr2 {vs : Array Value} {a b : Value} (hsz : vs.size = 2) (h0 : vs[0]? = some a) (h1 : vs[1]? = some b) : vs = #[a, b] := by
  apply Array.ext_getElem?
  intro i
  match i with
  | 0 => exact h0
  | 1 => exact h1
  | i + 2 => rw [Array.getElem?_eq_none (by omega), Array.getElem?_eq_none (by simp)]
theorem arr4 {vs : Array Value} {a b c d : Value} (hsz : vs.size = 4) (h0 : vs[0]? = some a) (h1 : vs[1]? = some b) (h2 : vs[2]? = some c) (h3 : vs[3]? = some d) : vs = #[a, b, c, d] := by
  apply Array.ext_getElem?
  intro i
  match i with
  | 0 => exact h0
  | 1 => exact h1
  | 2 => exact h2
  | 3 => exact h3
  | i + 4 => rw [Array.getElem?_eq_none (by omega), Array.getElem?_eq_none (by simp)]
theorem ba_ext {s t : ByteArray} (h : s.data.toList = t.data.toList) : s = t := by
  obtain ⟨⟨l⟩⟩ := s
  obtain ⟨⟨m⟩⟩ := t
  simp at h
  subst h; rfl

/-- A new row of strings, read. -/
theorem RepA.newStrs (hC : CodOK P C) {T : Ty} {f : El T → List UInt8} {g : List UInt8 → El T} (hT : ∀ x, C.row T x = [.str (f x)]) (hfg : ∀ l, f (g l) = l) {N : Nm} {w : World} {t : TypeId} {ss : List ByteArray} {n cap : Nat} {arr : Array Value} (hn : n = ss.length) (hcap : n ≤ cap) (hro : N.ro w.heap.size)
    (harr : ∀ (i : Nat) s, ss[i]? = some s → arr[i]? = some (.string s)) : RepA C N (w.alloc (.cells arr t)) (.slice (some ⟨w.heap.size, 0, none⟩) n cap) (.sl T (ss.map fun s => g s.data.toList)) := by
  have hsz : C.sz T = 1 := by unfold Cod.sz; rw [hT]; rfl
  refine .sl T _ w.heap.size 0 n cap (fun i j => arr.getD i undef) (by simpa using hn) hcap hro (fun i j hi hj => ?_) (fun i j c hi hc => ?_)
  · rw [hsz] at hj ⊢
    obtain rfl : j = 0 := by omega
    have hs := harr i _ (List.getElem?_eq_getElem (hn ▸ hi))
    have hlt := (Array.getElem?_eq_some_iff.1 hs).1
    unfold World.cell?
    rw [alloc_new]
    simp only [Nat.mul_one, Nat.add_zero, Nat.zero_add]
    rw [Array.getElem?_eq_getElem hlt]
    simp [Array.getD, hlt]
  · rw [hT] at hc
    have hj0 : j = 0 := by
      have := (List.getElem?_eq_some_iff.1 hc).1
      simp at this; omega
    subst hj0
    simp only [List.getElem?_cons_zero, Option.some.injEq] at hc
    subst hc
    have hi' : i < ss.length := hn ▸ hi
    have hs := harr i _ (List.getElem?_eq_getElem hi')
    have hlt := (Array.getElem?_eq_some_iff.1 hs).1
    have e : arr.getD i undef = .string ss[i] := by
      simp [Array.getD, hlt, (Array.getElem?_eq_some_iff.1 hs).2]
    show RepA C N _ (arr.getD i undef) _
    rw [e]
    refine .str _ _ ?_
    simp [List.getD, hi', hfg]
end
end Lx
/- The library's contracts, laid at the program by the kit's tool, in plain words: those that are used. -/
namespace Go.Proofs
open Go.Shelf
def Tryz.lays143_ren : Go.Shelf.Ren := ⟨fun | 143 => 182 | 219 => 235 | 217 => 279 | 225 => 280 | 224 => 281 | 267 => 282 | 266 => 325 | 314 => 326 | n => n, fun | 9 => 9 | 3 => 3 | 4 => 4 | 5 => 5 | 46 => 261 | 146 => 340 | 51 => 296 | n => n, fun | 1 => 1 | n => n⟩
theorem Tryz.lays143 : Go.Proofs.Lays.n143 Tryz.prog Tryz.lays143_ren := {
  mixed := by kernel_rfl
  f143 := Tryz.func182.trans (congrArg some (by kernel_rfl))
  f217 := Tryz.func279.trans (congrArg some (by kernel_rfl))
  f219 := Tryz.func235.trans (congrArg some (by kernel_rfl))
  f224 := Tryz.func281.trans (congrArg some (by kernel_rfl))
  f225 := Tryz.func280.trans (congrArg some (by kernel_rfl))
  f266 := Tryz.func325.trans (congrArg some (by kernel_rfl))
  f267 := Tryz.func282.trans (congrArg some (by kernel_rfl))
  f314 := Tryz.func326.trans (congrArg some (by kernel_rfl))
  t3 := Tryz.underlying3
  a3 := Tryz.isAgg3
  z3 := Tryz.sizeOf3
  v3 := Tryz.zeroValue3
  t4 := Tryz.underlying4
  a4 := Tryz.isAgg4
  z4 := Tryz.sizeOf4
  v4 := Tryz.zeroValue4
  t5 := Tryz.underlying5
  a5 := Tryz.isAgg5
  z5 := Tryz.sizeOf5
  v5 := Tryz.zeroValue5
  t9 := Tryz.underlying9
  a9 := Tryz.isAgg9
  z9 := Tryz.sizeOf9
  v9 := Tryz.zeroValue9
  t46 := Tryz.underlying261
  a46 := Tryz.isAgg261
  z46 := Tryz.sizeOf261
  v46 := Tryz.zeroValue261
  t51 := Tryz.underlying296
  a51 := Tryz.isAgg296
  z51 := Tryz.sizeOf296
  v51 := Tryz.zeroValue296
  t146 := Tryz.underlying340
  a146 := Tryz.isAgg340
  z146 := Tryz.sizeOf340
  v146 := Tryz.zeroValue340
  g1 := by kernel_rfl }
def Tryz.lays138_ren : Go.Shelf.Ren := ⟨fun | 138 => 238 | 195 => 287 | 218 => 289 | 143 => 182 | 219 => 235 | 217 => 279 | 225 => 280 | 224 => 281 | 267 => 282 | 266 => 325 | 314 => 326 | n => n, fun | 9 => 9 | 3 => 3 | 4 => 4 | 5 => 5 | 0 => 0 | 46 => 261 | 146 => 340 | 51 => 296 | n => n, fun | 1 => 1 | n => n⟩
theorem Tryz.lays138 : Go.Proofs.Lays.n138 Tryz.prog Tryz.lays138_ren := {
  mixed := by kernel_rfl
  f138 := Tryz.func238.trans (congrArg some (by kernel_rfl))
  f143 := Tryz.func182.trans (congrArg some (by kernel_rfl))
  f195 := Tryz.func287.trans (congrArg some (by kernel_rfl))
  f217 := Tryz.func279.trans (congrArg some (by kernel_rfl))
  f218 := Tryz.func289.trans (congrArg some (by kernel_rfl))
  f219 := Tryz.func235.trans (congrArg some (by kernel_rfl))
  f224 := Tryz.func281.trans (congrArg some (by kernel_rfl))
  f225 := Tryz.func280.trans (congrArg some (by kernel_rfl))
  f266 := Tryz.func325.trans (congrArg some (by kernel_rfl))
  f267 := Tryz.func282.trans (congrArg some (by kernel_rfl))
  f314 := Tryz.func326.trans (congrArg some (by kernel_rfl))
  t0 := Tryz.underlying0
  a0 := Tryz.isAgg0
  z0 := Tryz.sizeOf0
  v0 := Tryz.zeroValue0
  t3 := Tryz.underlying3
  a3 := Tryz.isAgg3
  z3 := Tryz.sizeOf3
  v3 := Tryz.zeroValue3
  t4 := Tryz.underlying4
  a4 := Tryz.isAgg4
  z4 := Tryz.sizeOf4
  v4 := Tryz.zeroValue4
  t5 := Tryz.underlying5
  a5 := Tryz.isAgg5
  z5 := Tryz.sizeOf5
  v5 := Tryz.zeroValue5
  t9 := Tryz.underlying9
  a9 := Tryz.isAgg9
  z9 := Tryz.sizeOf9
  v9 := Tryz.zeroValue9
  t46 := Tryz.underlying261
  a46 := Tryz.isAgg261
  z46 := Tryz.sizeOf261
  v46 := Tryz.zeroValue261
  t51 := Tryz.underlying296
  a51 := Tryz.isAgg296
  z51 := Tryz.sizeOf296
  v51 := Tryz.zeroValue296
  t146 := Tryz.underlying340
  a146 := Tryz.isAgg340
  z146 := Tryz.sizeOf340
  v146 := Tryz.zeroValue340
  g1 := by kernel_rfl }
def Tryz.lays221_ren : Go.Shelf.Ren := ⟨fun | 221 => 184 | 268 => 237 | 138 => 238 | 143 => 182 | 195 => 287 | 197 => 288 | 218 => 289 | 219 => 235 | 260 => 331 | 217 => 279 | 225 => 280 | 224 => 281 | 267 => 282 | 266 => 325 | 314 => 326 | n => n, fun | 9 => 9 | 3 => 3 | 31 => 41 | 4 => 4 | 0 => 0 | 105 => 309 | 21 => 21 | 5 => 5 | 46 => 261 | 119 => 360 | 139 => 363 | 138 => 362 | 146 => 340 | 51 => 296 | n => n, fun | 1 => 1 | 3 => 5 | 4 => 6 | n => n⟩
theorem Tryz.lays221 : Go.Proofs.Lays.n221 Tryz.prog Tryz.lays221_ren := {
  mixed := by kernel_rfl
  f138 := Tryz.func238.trans (congrArg some (by kernel_rfl))
  f143 := Tryz.func182.trans (congrArg some (by kernel_rfl))
  f195 := Tryz.func287.trans (congrArg some (by kernel_rfl))
  f197 := Tryz.func288.trans (congrArg some (by kernel_rfl))
  f217 := Tryz.func279.trans (congrArg some (by kernel_rfl))
  f218 := Tryz.func289.trans (congrArg some (by kernel_rfl))
  f219 := Tryz.func235.trans (congrArg some (by kernel_rfl))
  f221 := Tryz.func184.trans (congrArg some (by kernel_rfl))
  f224 := Tryz.func281.trans (congrArg some (by kernel_rfl))
  f225 := Tryz.func280.trans (congrArg some (by kernel_rfl))
  f260 := Tryz.func331.trans (congrArg some (by kernel_rfl))
  f266 := Tryz.func325.trans (congrArg some (by kernel_rfl))
  f267 := Tryz.func282.trans (congrArg some (by kernel_rfl))
  f268 := Tryz.func237.trans (congrArg some (by kernel_rfl))
  f314 := Tryz.func326.trans (congrArg some (by kernel_rfl))
  t0 := Tryz.underlying0
  a0 := Tryz.isAgg0
  z0 := Tryz.sizeOf0
  v0 := Tryz.zeroValue0
  t3 := Tryz.underlying3
  a3 := Tryz.isAgg3
  z3 := Tryz.sizeOf3
  v3 := Tryz.zeroValue3
  t4 := Tryz.underlying4
  a4 := Tryz.isAgg4
  z4 := Tryz.sizeOf4
  v4 := Tryz.zeroValue4
  t5 := Tryz.underlying5
  a5 := Tryz.isAgg5
  z5 := Tryz.sizeOf5
  v5 := Tryz.zeroValue5
  t9 := Tryz.underlying9
  a9 := Tryz.isAgg9
  z9 := Tryz.sizeOf9
  v9 := Tryz.zeroValue9
  t21 := Tryz.underlying21
  a21 := Tryz.isAgg21
  z21 := Tryz.sizeOf21
  v21 := Tryz.zeroValue21
  t31 := Tryz.underlying41
  a31 := Tryz.isAgg41
  z31 := Tryz.sizeOf41
  v31 := Tryz.zeroValue41
  t46 := Tryz.underlying261
  a46 := Tryz.isAgg261
  z46 := Tryz.sizeOf261
  v46 := Tryz.zeroValue261
  t51 := Tryz.underlying296
  a51 := Tryz.isAgg296
  z51 := Tryz.sizeOf296
  v51 := Tryz.zeroValue296
  t105 := Tryz.underlying309
  a105 := Tryz.isAgg309
  z105 := Tryz.sizeOf309
  v105 := Tryz.zeroValue309
  t119 := Tryz.underlying360
  a119 := Tryz.isAgg360
  z119 := Tryz.sizeOf360
  t138 := Tryz.underlying362
  a138 := Tryz.isAgg362
  z138 := Tryz.sizeOf362
  v138 := Tryz.zeroValue362
  t139 := Tryz.underlying363
  a139 := Tryz.isAgg363
  z139 := Tryz.sizeOf363
  v139 := Tryz.zeroValue363
  t146 := Tryz.underlying340
  a146 := Tryz.isAgg340
  z146 := Tryz.sizeOf340
  v146 := Tryz.zeroValue340
  g1 := by kernel_rfl
  g3 := by kernel_rfl
  g4 := by kernel_rfl }
def Tryz.lays160_ren : Go.Shelf.Ren := ⟨fun | 160 => 185 | 232 => 240 | 231 => 239 | 227 => 241 | 234 => 243 | 233 => 242 | 236 => 245 | 235 => 244 | 228 => 290 | 271 => 292 | 151 => 291 | 197 => 288 | 120 => 333 | 152 => 332 | 260 => 331 | 137 => 346 | 119 => 347 | 224 => 281 | 225 => 280 | 217 => 279 | 266 => 325 | n => n, fun | 9 => 9 | 4 => 4 | 3 => 3 | 5 => 5 | 117 => 268 | 116 => 267 | 0 => 0 | 124 => 271 | 21 => 21 | 105 => 309 | 46 => 261 | 119 => 360 | 139 => 363 | 138 => 362 | n => n, fun | 3 => 5 | 4 => 6 | n => n⟩
theorem Tryz.lays160 : Go.Proofs.Lays.n160 Tryz.prog Tryz.lays160_ren := {
  mixed := by kernel_rfl
  f119 := Tryz.func347.trans (congrArg some (by kernel_rfl))
  f120 := Tryz.func333.trans (congrArg some (by kernel_rfl))
  f137 := Tryz.func346.trans (congrArg some (by kernel_rfl))
  f151 := Tryz.func291.trans (congrArg some (by kernel_rfl))
  f152 := Tryz.func332.trans (congrArg some (by kernel_rfl))
  f160 := Tryz.func185.trans (congrArg some (by kernel_rfl))
  f197 := Tryz.func288.trans (congrArg some (by kernel_rfl))
  f217 := Tryz.func279.trans (congrArg some (by kernel_rfl))
  f224 := Tryz.func281.trans (congrArg some (by kernel_rfl))
  f225 := Tryz.func280.trans (congrArg some (by kernel_rfl))
  f227 := Tryz.func241.trans (congrArg some (by kernel_rfl))
  f228 := Tryz.func290.trans (congrArg some (by kernel_rfl))
  f231 := Tryz.func239.trans (congrArg some (by kernel_rfl))
  f232 := Tryz.func240.trans (congrArg some (by kernel_rfl))
  f233 := Tryz.func242.trans (congrArg some (by kernel_rfl))
  f234 := Tryz.func243.trans (congrArg some (by kernel_rfl))
  f235 := Tryz.func244.trans (congrArg some (by kernel_rfl))
  f236 := Tryz.func245.trans (congrArg some (by kernel_rfl))
  f260 := Tryz.func331.trans (congrArg some (by kernel_rfl))
  f266 := Tryz.func325.trans (congrArg some (by kernel_rfl))
  f271 := Tryz.func292.trans (congrArg some (by kernel_rfl))
  t0 := Tryz.underlying0
  a0 := Tryz.isAgg0
  z0 := Tryz.sizeOf0
  v0 := Tryz.zeroValue0
  t3 := Tryz.underlying3
  a3 := Tryz.isAgg3
  z3 := Tryz.sizeOf3
  v3 := Tryz.zeroValue3
  t4 := Tryz.underlying4
  a4 := Tryz.isAgg4
  z4 := Tryz.sizeOf4
  v4 := Tryz.zeroValue4
  t5 := Tryz.underlying5
  a5 := Tryz.isAgg5
  z5 := Tryz.sizeOf5
  v5 := Tryz.zeroValue5
  t9 := Tryz.underlying9
  a9 := Tryz.isAgg9
  z9 := Tryz.sizeOf9
  v9 := Tryz.zeroValue9
  t21 := Tryz.underlying21
  a21 := Tryz.isAgg21
  z21 := Tryz.sizeOf21
  v21 := Tryz.zeroValue21
  t46 := Tryz.underlying261
  a46 := Tryz.isAgg261
  z46 := Tryz.sizeOf261
  v46 := Tryz.zeroValue261
  t105 := Tryz.underlying309
  a105 := Tryz.isAgg309
  z105 := Tryz.sizeOf309
  v105 := Tryz.zeroValue309
  t116 := Tryz.underlying267
  a116 := Tryz.isAgg267
  z116 := Tryz.sizeOf267
  t117 := Tryz.underlying268
  a117 := Tryz.isAgg268
  z117 := Tryz.sizeOf268
  v117 := Tryz.zeroValue268
  t119 := Tryz.underlying360
  a119 := Tryz.isAgg360
  z119 := Tryz.sizeOf360
  t124 := Tryz.underlying271
  a124 := Tryz.isAgg271
  z124 := Tryz.sizeOf271
  v124 := Tryz.zeroValue271
  t138 := Tryz.underlying362
  a138 := Tryz.isAgg362
  z138 := Tryz.sizeOf362
  v138 := Tryz.zeroValue362
  t139 := Tryz.underlying363
  a139 := Tryz.isAgg363
  z139 := Tryz.sizeOf363
  v139 := Tryz.zeroValue363
  g3 := by kernel_rfl
  g4 := by kernel_rfl }
def Tryz.lays172_ren : Go.Shelf.Ren := ⟨fun | 172 => 186 | 244 => 246 | 245 => 247 | 247 => 293 | 279 => 294 | 280 => 295 | 281 => 296 | 282 => 297 | 287 => 334 | 316 => 187 | 171 => 102 | 205 => 335 | 321 => 348 | 322 => 349 | 243 => 183 | 246 => 236 | 283 => 283 | 284 => 284 | 285 => 285 | 286 => 286 | 129 => 269 | 317 => 327 | 318 => 328 | 319 => 329 | 320 => 330 | 337 => 344 | 338 => 345 | n => n, fun | 9 => 9 | 3 => 3 | 75 => 198 | 76 => 199 | 4 => 4 | 5 => 5 | 167 => 313 | 37 => 22 | 0 => 0 | 85 => 314 | 2 => 2 | 168 => 316 | 53 => 298 | 175 => 347 | 46 => 261 | 210 => 350 | 127 => 250 | 145 => 368 | 143 => 366 | 21 => 21 | 171 => 305 | 173 => 307 | 212 => 343 | 51 => 296 | 20 => 20 | 213 => 344 | 232 => 371 | 233 => 372 | 80 => 201 | n => n, fun | 15 => 3 | 16 => 4 | 17 => 2 | 18 => 7 | 19 => 8 | n => n⟩
theorem Tryz.lays172 : Go.Proofs.Lays.n172 Tryz.prog Tryz.lays172_ren := {
  mixed := by kernel_rfl
  f129 := Tryz.func269.trans (congrArg some (by kernel_rfl))
  f171 := Tryz.func102.trans (congrArg some (by kernel_rfl))
  f172 := Tryz.func186.trans (congrArg some (by kernel_rfl))
  f205 := Tryz.func335.trans (congrArg some (by kernel_rfl))
  f243 := Tryz.func183.trans (congrArg some (by kernel_rfl))
  f244 := Tryz.func246.trans (congrArg some (by kernel_rfl))
  f245 := Tryz.func247.trans (congrArg some (by kernel_rfl))
  f246 := Tryz.func236.trans (congrArg some (by kernel_rfl))
  f247 := Tryz.func293.trans (congrArg some (by kernel_rfl))
  f279 := Tryz.func294.trans (congrArg some (by kernel_rfl))
  f280 := Tryz.func295.trans (congrArg some (by kernel_rfl))
  f281 := Tryz.func296.trans (congrArg some (by kernel_rfl))
  f282 := Tryz.func297.trans (congrArg some (by kernel_rfl))
  f283 := Tryz.func283.trans (congrArg some (by kernel_rfl))
  f284 := Tryz.func284.trans (congrArg some (by kernel_rfl))
  f285 := Tryz.func285.trans (congrArg some (by kernel_rfl))
  f286 := Tryz.func286.trans (congrArg some (by kernel_rfl))
  f287 := Tryz.func334.trans (congrArg some (by kernel_rfl))
  f316 := Tryz.func187.trans (congrArg some (by kernel_rfl))
  f317 := Tryz.func327.trans (congrArg some (by kernel_rfl))
  f318 := Tryz.func328.trans (congrArg some (by kernel_rfl))
  f319 := Tryz.func329.trans (congrArg some (by kernel_rfl))
  f320 := Tryz.func330.trans (congrArg some (by kernel_rfl))
  f321 := Tryz.func348.trans (congrArg some (by kernel_rfl))
  f322 := Tryz.func349.trans (congrArg some (by kernel_rfl))
  f337 := Tryz.func344.trans (congrArg some (by kernel_rfl))
  f338 := Tryz.func345.trans (congrArg some (by kernel_rfl))
  t0 := Tryz.underlying0
  a0 := Tryz.isAgg0
  z0 := Tryz.sizeOf0
  v0 := Tryz.zeroValue0
  t2 := Tryz.underlying2
  a2 := Tryz.isAgg2
  z2 := Tryz.sizeOf2
  v2 := Tryz.zeroValue2
  t3 := Tryz.underlying3
  a3 := Tryz.isAgg3
  z3 := Tryz.sizeOf3
  v3 := Tryz.zeroValue3
  t4 := Tryz.underlying4
  a4 := Tryz.isAgg4
  z4 := Tryz.sizeOf4
  v4 := Tryz.zeroValue4
  t5 := Tryz.underlying5
  a5 := Tryz.isAgg5
  z5 := Tryz.sizeOf5
  v5 := Tryz.zeroValue5
  t9 := Tryz.underlying9
  a9 := Tryz.isAgg9
  z9 := Tryz.sizeOf9
  v9 := Tryz.zeroValue9
  t20 := Tryz.underlying20
  a20 := Tryz.isAgg20
  z20 := Tryz.sizeOf20
  v20 := Tryz.zeroValue20
  t21 := Tryz.underlying21
  a21 := Tryz.isAgg21
  z21 := Tryz.sizeOf21
  v21 := Tryz.zeroValue21
  t37 := Tryz.underlying22
  a37 := Tryz.isAgg22
  z37 := Tryz.sizeOf22
  v37 := Tryz.zeroValue22
  t46 := Tryz.underlying261
  a46 := Tryz.isAgg261
  z46 := Tryz.sizeOf261
  v46 := Tryz.zeroValue261
  t51 := Tryz.underlying296
  a51 := Tryz.isAgg296
  z51 := Tryz.sizeOf296
  v51 := Tryz.zeroValue296
  t53 := Tryz.underlying298
  a53 := Tryz.isAgg298
  z53 := Tryz.sizeOf298
  v53 := Tryz.zeroValue298
  t75 := Tryz.underlying198
  a75 := Tryz.isAgg198
  z75 := Tryz.sizeOf198
  v75 := Tryz.zeroValue198
  t76 := Tryz.underlying199
  a76 := Tryz.isAgg199
  z76 := Tryz.sizeOf199
  v76 := Tryz.zeroValue199
  t85 := Tryz.underlying314
  a85 := Tryz.isAgg314
  z85 := Tryz.sizeOf314
  v85 := Tryz.zeroValue314
  t127 := Tryz.underlying250
  a127 := Tryz.isAgg250
  z127 := Tryz.sizeOf250
  v127 := Tryz.zeroValue250
  t143 := Tryz.underlying366
  a143 := Tryz.isAgg366
  z143 := Tryz.sizeOf366
  v143 := Tryz.zeroValue366
  t145 := Tryz.underlying368
  a145 := Tryz.isAgg368
  z145 := Tryz.sizeOf368
  v145 := Tryz.zeroValue368
  t167 := Tryz.underlying313
  a167 := Tryz.isAgg313
  z167 := Tryz.sizeOf313
  v167 := Tryz.zeroValue313
  t168 := Tryz.underlying316
  a168 := Tryz.isAgg316
  z168 := Tryz.sizeOf316
  v168 := Tryz.zeroValue316
  t171 := Tryz.underlying305
  a171 := Tryz.isAgg305
  z171 := Tryz.sizeOf305
  v171 := Tryz.zeroValue305
  t173 := Tryz.underlying307
  a173 := Tryz.isAgg307
  z173 := Tryz.sizeOf307
  v173 := Tryz.zeroValue307
  t175 := Tryz.underlying347
  a175 := Tryz.isAgg347
  z175 := Tryz.sizeOf347
  v175 := Tryz.zeroValue347
  t210 := Tryz.underlying350
  a210 := Tryz.isAgg350
  z210 := Tryz.sizeOf350
  v210 := Tryz.zeroValue350
  t212 := Tryz.underlying343
  a212 := Tryz.isAgg343
  z212 := Tryz.sizeOf343
  v212 := Tryz.zeroValue343
  t213 := Tryz.underlying344
  a213 := Tryz.isAgg344
  z213 := Tryz.sizeOf344
  t232 := Tryz.underlying371
  a232 := Tryz.isAgg371
  z232 := Tryz.sizeOf371
  v232 := Tryz.zeroValue371
  t233 := Tryz.underlying372
  a233 := Tryz.isAgg372
  z233 := Tryz.sizeOf372
  v233 := Tryz.zeroValue372
  g15 := by kernel_rfl
  g16 := by kernel_rfl
  g17 := by kernel_rfl
  g18 := by kernel_rfl
  g19 := by kernel_rfl }
open Go.RowKit in
theorem Tryz.strconv_Atoi (s : ByteArray) (n : Int) (hl : s.size ≤ 18) (h : Lib.atoi s.data.toList = some n) (w : World) :
    Calls Tryz.prog 186 #[.string s] w fun e w' => e = .returned (.tuple #[.int .i64 n, .nilIface]) ∧ ∃ t, w' = Lib.bytesWorld w 5 t := Any.strconv_Atoi Tryz.lays172 s n hl h w
end Go.Proofs
/- The library's cutting of strings: its meaning, its contract. -/
set_option linter.unusedVariables false
set_option linter.unusedSimpArgs false
namespace Lx
open Go Go.Proofs

theorem splitK_eq (c : UInt8) (k : Nat) (s : Str) : Lib.splitK [c] 0 (k + 1) (c :: s) = [] :: Lib.splitK [c] 0 k s := by
  have h : Lib.index (c :: s) [c] = 0 := by rw [Lib.index]; simp [List.isPrefixOf]
  rw [Lib.splitK, h]
  simp
theorem splitK_ne {c b : UInt8} (h : b ≠ c) (k : Nat) (s : Str) : ∃ w ws, Lib.splitK [c] 0 k s = w :: ws ∧ Lib.splitK [c] 0 k (b :: s) = (b :: w) :: ws := by
  cases k with
  | zero => exact ⟨s, [], rfl, rfl⟩
  | succ k =>
    have hp : ([c] : List UInt8).isPrefixOf (b :: s) = false := by simp [List.isPrefixOf, Ne.symm h]
    have hix : Lib.index (b :: s) [c] = if Lib.index s [c] == -1 then -1 else Lib.index s [c] + 1 := by rw [Lib.index, hp]; simp
    by_cases hm : Lib.index s [c] = -1
    · refine ⟨s, [], ?_, ?_⟩
      · rw [Lib.splitK, if_pos (beq_iff_eq.2 hm)]
      · rw [Lib.splitK, if_pos (beq_iff_eq.2 (by rw [hix, if_pos (beq_iff_eq.2 hm)]))]
    · have hge := Lib.index_ge s [c]
      obtain ⟨j, hj⟩ : ∃ j : Nat, Lib.index s [c] = j := ⟨(Lib.index s [c]).toNat, by omega⟩
      have hix' : Lib.index (b :: s) [c] = ((j + 1 : Nat) : Int) := by rw [hix, if_neg (fun e => hm (beq_iff_eq.1 e)), hj]; omega
      refine ⟨s.take j, Lib.splitK [c] 0 k (s.drop (j + 1)), ?_, ?_⟩
      · rw [Lib.splitK, if_neg (fun e => hm (beq_iff_eq.1 e)), hj]; simp
      · rw [Lib.splitK, if_neg (fun e => by have := beq_iff_eq.1 e; omega), hix']
        have e : ((j + 1 : Nat) : Int).toNat = j + 1 := by omega
        rw [e]
        simp
theorem splitK_all (c : UInt8) : ∀ (s : Str), Lib.splitK [c] 0 (s.count c) s = cutS (c.toNat : Int) s
  | [] => rfl
  | b :: s => by
    by_cases h : b = c
    · subst h
      rw [List.count_cons_self, splitK_eq, splitK_all b s]
      simp [cutS]
    · obtain ⟨w, ws, h1, h2⟩ := splitK_ne h (s.count c) s
      rw [List.count_cons_of_ne (by simpa using h), h2]
      have : ¬ ((b.toNat : Int) == (c.toNat : Int)) = true := fun e => h (UInt8.toNat_inj.1 (by have := eq_of_beq e; omega))
      rw [cutS, if_neg this, ← splitK_all c s, h1]

def szS (s : Str) : Bool := decide (s.length ≤ 1000000000)
/-- How many pieces at most, behind the first cut. -/
def cutsOf (s : Str) (c : UInt8) (n : Int) : Nat := if n < 0 then s.count c else min n.toNat (s.length + 1) - 1
def E_strings_genSplit : Ent Ty El := ⟨[.ro, .ro, .ro, .ro], 0, fun a h => match a, h with
  | [.str s, .str [c], .int .i64 0, .int .i64 n], [] => some (szS s && (!decide (n = 0) && decide (n ≤ 1000000000)), .sl .str (Lib.splitK [c] 0 (cutsOf s c n) s), [])
  | _, _ => none⟩
def E_strings_Split : Ent Ty El := ⟨[.ro, .ro], 0, fun a h => match a, h with
  | [.str s, .str [c]], [] => some (szS s, .sl .str (cutS (c.toNat : Int) s), [])
  | _, _ => none⟩
def E_strings_SplitN : Ent Ty El := ⟨[.ro, .ro, .ro], 0, fun a h => match a, h with
  | [.str s, .str [c], .int .i64 n], [] => some (szS s && (!decide (n = 0) && decide (n ≤ 1000000000)), .sl .str (Lib.splitK [c] 0 (cutsOf s c n) s), [])
  | _, _ => none⟩

theorem cutB (s : ByteArray) (c : UInt8) (k : Nat) : (Lib.splitB ⟨#[c]⟩ 0 k s).map (fun x => x.data.toList) = Lib.splitK [c] 0 k s.data.toList := Lib.splitB_data ⟨#[c]⟩ 0 k s

theorem c_strings_genSplit (s : Str) (c : UInt8) (n : Int) (hg : (szS s && (!decide (n = 0) && decide (n ≤ 1000000000))) = true) : CallOK Tryz.prog CP g_strings_genSplit [.str s, .str [c], .int .i64 0, .int .i64 n] [] (.sl .str (Lib.splitK [c] 0 (cutsOf s c n) s)) [] := by
  simp only [szS, Bool.and_eq_true, decide_eq_true_eq, Bool.not_eq_true', decide_eq_false_iff_not] at hg
  obtain ⟨hs, hn0, hn⟩ := hg
  refine CallOK.quiet CP_ok fun w N vs hsz hrep => ?_
  obtain ⟨sb, h0, hsb⟩ := arg_str hrep hsz (j := 0) rfl
  obtain ⟨cb, h1, hcb⟩ := arg_str hrep hsz (j := 1) rfl
  have h2 := arg_int hrep hsz (j := 2) rfl
  have h3 := arg_int hrep hsz (j := 3) rfl
  obtain rfl : cb = ⟨#[c]⟩ := ba_ext hcb
  rw [arr4 hsz h0 h1 h2 h3]
  have hsize : sb.size = s.length := by rw [Lib.size_eq, hsb]
  have hcnt : Lib.countB sb ⟨#[c]⟩ = s.count c := by
    show Lib.count sb.data.toList [c] = _
    rw [Lib.count_one, hsb]
  have hle : s.count c ≤ s.length := List.count_le_length
  have hN : ((cutsOf s c n + 1 : Nat) : Int) = min (if n < 0 then (Lib.countB sb ⟨#[c]⟩ : Int) + 1 else n) ((sb.size : Int) + 1) := by
    rw [hcnt, hsize]
    unfold cutsOf
    by_cases h : n < 0
    · rw [if_pos h, if_pos h]; omega
    · rw [if_neg h, if_neg h]; omega
  have hc := Any.strings_genSplit_core Tryz.lays221 (by kernel_rfl) sb ⟨#[c]⟩ 0 n (cutsOf s c n + 1) w (by omega) (Nat.le_refl 1) (Nat.zero_le _)
    (fun x cc hx => by
      have := Any.strings_Index_one Tryz.lays143 x c (w.alloc (.cells cc 9))
      refine Calls.mono this ?_
      rintro e w' ⟨rfl, rfl⟩
      refine ⟨?_, rfl⟩
      rw [← Lib.index_one])
    (by
      refine Calls.mono (Any.strings_Count_one Tryz.lays138 sb c w) ?_
      rintro e w' ⟨rfl, rfl⟩
      refine ⟨?_, rfl⟩
      rw [hcnt, ← hsb]; rfl) hn0 (by omega) hN
  refine Calls.mono hc ?_
  rintro e w' ⟨rfl, rfl⟩
  refine ⟨_, rfl, Fr.alloc w _, fun N' hro hN' => ?_⟩
  have hlen := Lib.splitB_length_le ⟨#[c]⟩ 0 (cutsOf s c n) sb
  have := RepA.newStrs (El := El) CP_ok (T := .str) (f := fun x => x) (g := fun x => x) (fun x => rfl) (fun _ => rfl) (N := N') (w := w) (t := 9) (ss := Lib.splitB ⟨#[c]⟩ 0 (cutsOf s c n) sb) (n := (Lib.splitB ⟨#[c]⟩ 0 (cutsOf s c n) sb).length) (cap := cutsOf s c n + 1)
    (arr := Lib.cellsOf (Lib.splitB ⟨#[c]⟩ 0 (cutsOf s c n) sb) (cutsOf s c n + 1)) rfl (by omega) (hN' _ (Nat.le_refl _) (by rw [alloc_size]; omega)) (fun i x hx => by
      unfold Lib.cellsOf
      have hi := (List.getElem?_eq_some_iff.1 hx).1
      rw [List.getElem?_toArray, List.getElem?_append_left (by simpa using hi), List.getElem?_map, hx]; rfl)
  rw [cutB, hsb] at this
  exact this
theorem E_strings_genSplit_ok : EntOK Tryz.prog CP g_strings_genSplit E_strings_genSplit := by
  refine ⟨⟨Tryz.f184, by kernel_rfl, by kernel_rfl, by kernel_rfl⟩, fun args H res H' h => ?_⟩
  simp only [E_strings_genSplit] at h
  split at h
  · simp only [Option.some.injEq, Prod.mk.injEq] at h
    obtain ⟨hg, rfl, rfl⟩ := h
    exact c_strings_genSplit _ _ _ hg
  · cases h
end Lx
/- Strings cut by the library. -/
set_option linter.unusedVariables false
set_option linter.unusedSimpArgs false
set_option maxRecDepth 4000
namespace Lx
open Go Go.Proofs
/-- strings.Split -/
noncomputable def R_strings_Split : RE Ty El := ⟨Tryz.prog, CP, [(g_strings_genSplit, E_strings_genSplit)], Tryz.f168, 0, [], []⟩
theorem R_strings_Split_ok : REOK R_strings_Split g_strings_Split := ⟨CP_ok, (TabOK.cons E_strings_genSplit_ok EOKnil), by kernel_rfl, by kernel_rfl⟩
theorem t_strings_Split (s : Str) (c : UInt8) : aRun R_strings_Split 600 false (body0 R_strings_Split.fn) (initSt R_strings_Split.fn [.str s, .str [c]] []) =
  ifb (szS s && (!decide ((-1 : Int) = (0 : Int)) && decide ((-1 : Int) ≤ (1000000000 : Int)))) (some (.ret (.sl .str (Lib.splitK [c] (0 : Nat) (cutsOf s c (-1 : Int)) s)) [])) (none) := by kernel_rfl
theorem c_strings_Split (s : Str) (c : UInt8) (hg : szS s = true) : CallOK Tryz.prog CP g_strings_Split [.str s, .str [c]] [] (.sl .str (cutS (c.toNat : Int) s)) [] := by
  refine CallOK.of R_strings_Split_ok (by kernel_rfl) (t_strings_Split s c) ?_
  refine Sat.ifb (fun _ => ?_) (fun h => ?_)
  · refine Sat.ret ?_ rfl
    rw [← splitK_all]; rfl
  · refine Sat.no ?_
    simp [hg] at h
theorem E_strings_Split_ok : EntOK Tryz.prog CP g_strings_Split E_strings_Split := by
  refine ⟨⟨Tryz.f168, by kernel_rfl, by kernel_rfl, by kernel_rfl⟩, fun args H res H' h => ?_⟩
  simp only [E_strings_Split] at h
  split at h
  · simp only [Option.some.injEq, Prod.mk.injEq] at h
    obtain ⟨hg, rfl, rfl⟩ := h
    exact c_strings_Split _ _ hg
  · cases h

/-- strings.SplitN -/
noncomputable def R_strings_SplitN : RE Ty El := ⟨Tryz.prog, CP, [(g_strings_genSplit, E_strings_genSplit)], Tryz.f103, 0, [], []⟩
theorem R_strings_SplitN_ok : REOK R_strings_SplitN g_strings_SplitN := ⟨CP_ok, (TabOK.cons E_strings_genSplit_ok EOKnil), by kernel_rfl, by kernel_rfl⟩
theorem t_strings_SplitN (s : Str) (c : UInt8) (n : Int) : aRun R_strings_SplitN 600 false (body0 R_strings_SplitN.fn) (initSt R_strings_SplitN.fn [.str s, .str [c], .int .i64 n] []) =
  ifb (szS s && (!decide (n = (0 : Int)) && decide (n ≤ (1000000000 : Int)))) (some (.ret (.sl .str (Lib.splitK [c] (0 : Nat) (cutsOf s c n) s)) [])) (none) := by kernel_rfl
theorem c_strings_SplitN (s : Str) (c : UInt8) (n : Int) (hg : (szS s && (!decide (n = 0) && decide (n ≤ 1000000000))) = true) : CallOK Tryz.prog CP g_strings_SplitN [.str s, .str [c], .int .i64 n] [] (.sl .str (Lib.splitK [c] 0 (cutsOf s c n) s)) [] := by
  refine CallOK.of R_strings_SplitN_ok (by kernel_rfl) (t_strings_SplitN s c n) ?_
  refine Sat.ifb (fun _ => ?_) (fun h => ?_)
  · exact Sat.ret rfl rfl
  · rw [hg] at h; cases h
theorem E_strings_SplitN_ok : EntOK Tryz.prog CP g_strings_SplitN E_strings_SplitN := by
  refine ⟨⟨Tryz.f103, by kernel_rfl, by kernel_rfl, by kernel_rfl⟩, fun args H res H' h => ?_⟩
  simp only [E_strings_SplitN] at h
  split at h
  · simp only [Option.some.injEq, Prod.mk.injEq] at h
    obtain ⟨hg, rfl, rfl⟩ := h
    exact c_strings_SplitN _ _ _ hg
  · cases h
end Lx
/- Maps: what is put is found; the base, as the program asks it. -/
set_option linter.unusedVariables false
set_option linter.unusedSimpArgs false
namespace Lx
open Go Go.Proofs
theorem getK_putK {K V : Ty} (hk : ∀ a b : El K, CP.keq K a b = true ↔ a = b) (c c' : El K) (y : El V) : ∀ m : List (El K × El V), getK CP K V c' (putK CP K V c y m) = if CP.keq K c' c = true then y else getK CP K V c' m
  | [] => by simp only [putK, getK]
  | p :: m => by
    simp only [putK]
    by_cases h : CP.keq K c p.1 = true
    · rw [if_pos h]
      simp only [getK]
      by_cases h2 : CP.keq K c' c = true
      · rw [if_pos h2, if_pos h2]
      · rw [if_neg h2, if_neg h2]
        have : ¬ CP.keq K c' p.1 = true := fun e => h2 ((hk _ _).2 (((hk _ _).1 e).trans ((hk _ _).1 h).symm))
        rw [if_neg this]
    · rw [if_neg h]
      simp only [getK]
      rw [getK_putK hk c c' y m]
      by_cases h2 : CP.keq K c' p.1 = true
      · have : ¬ CP.keq K c' c = true := fun e => h ((hk _ _).2 (((hk _ _).1 e).symm.trans ((hk _ _).1 h2)))
        rw [if_pos h2, if_neg this, if_pos h2]
      · rw [if_neg h2, if_neg h2]
theorem pair_eq (a b : Cell) : CP.keq .pair a b = true ↔ a = b := by
  obtain ⟨ax, ay⟩ := a
  obtain ⟨bx, b_y⟩ := b
  show ((ax == bx && ay == b_y) = true) ↔ _
  simp
/-- The map knows the points that were seen. -/
def knows (m : List (El .pair × El .bool)) (seen : List Point) : Prop := ∀ p : Point, getK CP .pair .bool (⟨p.x, p.y⟩ : Cell) m = !freeOf seen p
theorem knows_nil : knows [] [] := fun p => rfl
theorem knows_put {m : List (El .pair × El .bool)} {seen : List Point} (h : knows m seen) (q : Point) : knows (putK CP .pair .bool (⟨q.x, q.y⟩ : Cell) true m) (seen ++ [q]) := fun p => by
  rw [getK_putK pair_eq, h p]
  have e : CP.keq .pair (⟨p.x, p.y⟩ : Cell) (⟨q.x, q.y⟩ : Cell) = (q.x == p.x && q.y == p.y) := by
    show (p.x == q.x && p.y == q.y) = _
    rw [Bool.beq_comm (a := p.x), Bool.beq_comm (a := p.y)]
  rw [e]
  simp only [freeOf, List.all_append, List.all_cons, List.all_nil, Bool.and_true]
  by_cases hc : (q.x == p.x && q.y == p.y) = true
  · rw [if_pos hc, hc]; simp
  · rw [if_neg hc]
    have : (q.x == p.x && q.y == p.y) = false := by simpa using hc
    rw [this]; simp
def E_impl_PlanBaseOk : Ent Ty El := E_spec_PlanBaseOk
theorem le_lt (a b : Str) : (bytesLt a b || a == b) = !bytesLt b a := by
  have tot : ∀ a b : Str, (bytesLt a b || a == b) = !bytesLt b a := by
    intro a
    induction a with
    | nil => intro b; cases b <;> rfl
    | cons x a ih =>
      intro b
      cases b with
      | nil => rfl
      | cons y b =>
        simp only [bytesLt]
        have hne : ((x :: a) == (y :: b)) = (x == y && a == b) := rfl
        rw [hne]
        by_cases h1 : x < y
        · have h2 : ¬ y < x := fun h => by exact absurd (UInt8.lt_trans h1 h) (UInt8.lt_irrefl _)
          have h3 : (x == y) = false := by simp; intro e; subst e; exact absurd h1 (UInt8.lt_irrefl _)
          have h4 : ¬ y = x := fun e => by subst e; exact absurd h1 (UInt8.lt_irrefl _)
          simp [h1, h2, h3, h4]
        · by_cases h2 : y < x
          · have h3 : (x == y) = false := by simp; intro e; subst e; exact absurd h2 (UInt8.lt_irrefl _)
            simp [h1, h2, h3]
          · have h3 : x = y := by
              have a1 := UInt8.not_lt.1 h1
              have a2 := UInt8.not_lt.1 h2
              exact UInt8.le_antisymm a2 a1
            subst h3
            simp [h1, ih b]
  exact tot a b
end Lx
/- The base, as the program asks it. -/
set_option linter.unusedVariables false
set_option linter.unusedSimpArgs false
set_option maxRecDepth 4000
namespace Lx
open Go Go.Proofs
/-- impl.PlanBaseOk -/
noncomputable def R_impl_PlanBaseOk : RE Ty El := ⟨Tryz.prog, CP, [(g_impl_kindOk, E_impl_kindOk), (g_impl_pointOk, E_impl_pointOk)], Tryz.f92, 0, [], [(4, [(1, .any), (20, .any), (21, .any), (22, .any)]), (11, [(1, .any), (5, .any), (49, .any), (50, .any), (51, .any)])]⟩
theorem R_impl_PlanBaseOk_ok : REOK R_impl_PlanBaseOk g_impl_PlanBaseOk := ⟨CP_ok, (TabOK.cons E_impl_kindOk_ok (TabOK.cons E_impl_pointOk_ok EOKnil)), by kernel_rfl, by kernel_rfl⟩
theorem t_impl_PlanBaseOk (ks : List Kind) (ps : List Point) : aRun R_impl_PlanBaseOk 600 false (body0 R_impl_PlanBaseOk.fn) (initSt R_impl_PlanBaseOk.fn [.agg [.sl .kind ks, .sl .point ps]] []) =
  ifb (decide ((↑ks.length : Int) > (6 : Int))) (some (.ret (.bool false) [])) (ifb (decide ((↑ps.length : Int) > (16 : Int))) (some (.ret (.bool false) [])) (some (.go (todoAt R_impl_PlanBaseOk.fn 4) [.ptr 0 0, .sl .kind ks, .int .i64 (↑ks.length : Int), .int .i64 (0 : Int)] [.box [.sl .kind ks, .sl .point ps]]))) := by kernel_rfl
theorem t_impl_PlanBaseOk_4 (x0 : List (El .kind)) (x1 : Int) (x2 : Int) (x3 : List (El .kind)) (x4 : List (El .point)) : aRun R_impl_PlanBaseOk 600 true (todoAt R_impl_PlanBaseOk.fn 4) (cutSt R_impl_PlanBaseOk.fn (liveOf R_impl_PlanBaseOk (todoAt R_impl_PlanBaseOk.fn 4)) [.ptr 0 0, .sl .kind x0, .int .i64 x1, .int .i64 x2] [.box [.sl .kind x3, .sl .point x4]]) =
  ifb (decide (x2 < x1)) (ifb (inb x2 x0.length) (ifb (!Kind.ok (x0.getD x2.toNat (R_impl_PlanBaseOk.C.dflt Ty.kind))) (some (.ret (.bool false) [])) (ifb (decide (x2 > (0 : Int))) (ifb (inb (IntKind.i64.wrap (x2 - (1 : Int))) x3.length) (ifb (bytesLt (x0.getD x2.toNat (R_impl_PlanBaseOk.C.dflt Ty.kind)).name (x3.getD (IntKind.i64.wrap (x2 - (1 : Int))).toNat (R_impl_PlanBaseOk.C.dflt Ty.kind)).name || (x0.getD x2.toNat (R_impl_PlanBaseOk.C.dflt Ty.kind)).name == (x3.getD (IntKind.i64.wrap (x2 - (1 : Int))).toNat (R_impl_PlanBaseOk.C.dflt Ty.kind)).name) (some (.ret (.bool false) [])) (some (.go (todoAt R_impl_PlanBaseOk.fn 4) [.ptr 0 0, .sl .kind x0, .int .i64 x1, .int .i64 (IntKind.i64.wrap (x2 + (1 : Int)))] [.box [.sl .kind x3, .sl .point x4]]))) (none)) (some (.go (todoAt R_impl_PlanBaseOk.fn 4) [.ptr 0 0, .sl .kind x0, .int .i64 x1, .int .i64 (IntKind.i64.wrap (x2 + (1 : Int)))] [.box [.sl .kind x3, .sl .point x4]])))) (none)) (some (.go (todoAt R_impl_PlanBaseOk.fn 11) [.ptr 0 0, .mapr 1, .sl .point x4, .int .i64 (↑x4.length : Int), .int .i64 (0 : Int)] [.box [.sl .kind x3, .sl .point x4], .mp .pair .bool []])) := by kernel_rfl
theorem t_impl_PlanBaseOk_11 (x0 : List (El .point)) (x1 : Int) (x2 : Int) (x3 : List (El .kind)) (x4 : List (El .point)) (x5 : List (El .pair × El .bool)) : aRun R_impl_PlanBaseOk 600 true (todoAt R_impl_PlanBaseOk.fn 11) (cutSt R_impl_PlanBaseOk.fn (liveOf R_impl_PlanBaseOk (todoAt R_impl_PlanBaseOk.fn 11)) [.ptr 0 0, .mapr 1, .sl .point x0, .int .i64 x1, .int .i64 x2] [.box [.sl .kind x3, .sl .point x4], .mp .pair .bool x5]) =
  ifb (decide (x2 < x1)) (ifb (inb x2 x0.length) (ifb (!Point.ok (x0.getD x2.toNat (R_impl_PlanBaseOk.C.dflt Ty.point))) (some (.ret (.bool false) [])) (ifb (getK R_impl_PlanBaseOk.C Ty.pair Ty.bool { x := (x0.getD x2.toNat (R_impl_PlanBaseOk.C.dflt Ty.point)).x, y := (x0.getD x2.toNat (R_impl_PlanBaseOk.C.dflt Ty.point)).y } x5) (some (.ret (.bool false) [])) (ifb (decide (x2 > (0 : Int))) (ifb (inb (IntKind.i64.wrap (x2 - (1 : Int))) x4.length) (ifb (bytesLt (x0.getD x2.toNat (R_impl_PlanBaseOk.C.dflt Ty.point)).name (x4.getD (IntKind.i64.wrap (x2 - (1 : Int))).toNat (R_impl_PlanBaseOk.C.dflt Ty.point)).name || (x0.getD x2.toNat (R_impl_PlanBaseOk.C.dflt Ty.point)).name == (x4.getD (IntKind.i64.wrap (x2 - (1 : Int))).toNat (R_impl_PlanBaseOk.C.dflt Ty.point)).name) (some (.ret (.bool false) [])) (some (.go (todoAt R_impl_PlanBaseOk.fn 11) [.ptr 0 0, .mapr 1, .sl .point x0, .int .i64 x1, .int .i64 (IntKind.i64.wrap (x2 + (1 : Int)))] [.box [.sl .kind x3, .sl .point x4], .mp .pair .bool (putK R_impl_PlanBaseOk.C Ty.pair Ty.bool { x := (x0.getD x2.toNat (R_impl_PlanBaseOk.C.dflt Ty.point)).x, y := (x0.getD x2.toNat (R_impl_PlanBaseOk.C.dflt Ty.point)).y } true x5)]))) (none)) (some (.go (todoAt R_impl_PlanBaseOk.fn 11) [.ptr 0 0, .mapr 1, .sl .point x0, .int .i64 x1, .int .i64 (IntKind.i64.wrap (x2 + (1 : Int)))] [.box [.sl .kind x3, .sl .point x4], .mp .pair .bool (putK R_impl_PlanBaseOk.C Ty.pair Ty.bool { x := (x0.getD x2.toNat (R_impl_PlanBaseOk.C.dflt Ty.point)).x, y := (x0.getD x2.toNat (R_impl_PlanBaseOk.C.dflt Ty.point)).y } true x5)]))))) (none)) (some (.ret (.bool true) [])) := by kernel_rfl
theorem lp_impl_PlanBaseOk (ks : List Kind) (ps : List Point) (hp : ps.length ≤ 16) : ∀ (d i : Nat) (m : List (El .pair × El .bool)), i + d = ps.length → knows m (ps.take i) →
    Cut R_impl_PlanBaseOk g_impl_PlanBaseOk 11 [.ptr 0 0, .mapr 1, .sl .point ps, .int .i64 (ps.length : Int), .int .i64 (i : Int)] [.box [.sl .kind ks, .sl .point ps], .mp .pair .bool m] (.bool (pointsGo (ps.take i) ((ps.take i).getLast?.map (·.name)) (ps.drop i))) [] := by
  intro d
  induction d with
  | zero =>
    intro i m hi hm
    refine Cut.of R_impl_PlanBaseOk_ok rfl (t_impl_PlanBaseOk_11 ps ps.length i ks ps m) ?_
    rw [decide_eq_false (by omega), List.drop_of_length_le (by omega)]
    exact Sat.retB rfl rfl
  | succ d ih =>
    intro i m hi hm
    refine Cut.of R_impl_PlanBaseOk_ok rfl (t_impl_PlanBaseOk_11 ps ps.length i ks ps m) ?_
    have hlt : i < ps.length := by omega
    have hw : IntKind.wrap .i64 ((i : Int) + 1) = ((i + 1 : Nat) : Int) := by rw [wrap_ok] <;> omega
    have hw1 : IntKind.wrap .i64 ((i : Int) - 1) = (i : Int) - 1 := by rw [wrap_ok] <;> omega
    have hd : ps.drop i = ps[i] :: ps.drop (i + 1) := List.drop_eq_getElem_cons hlt
    have hx : ps.getD (i : Int).toNat (R_impl_PlanBaseOk.C.dflt .point) = ps[i] := by simp [hlt]
    have hin : inb (i : Int) ps.length = true := by simp only [inb, Bool.and_eq_true, decide_eq_true_eq]; omega
    have hlo : decide ((i : Int) < (ps.length : Int)) = true := decide_eq_true (by omega)
    have hl : (ps.take (i + 1)).getLast? = some ps[i] := by rw [List.take_succ_eq_append_getElem hlt, List.getLast?_concat]
    have ih' := ih (i + 1) (putK CP .pair .bool (⟨ps[i].x, ps[i].y⟩ : Cell) true m) (by omega) (by rw [List.take_succ_eq_append_getElem hlt]; exact knows_put hm ps[i])
    rw [hl, Option.map_some] at ih'
    rw [hw, hw1, hx, hd, hin, hlo, pointsGo, ← List.take_succ_eq_append_getElem hlt]
    simp only [ifb_true]
    cases hk : ps[i].ok with
    | false => exact Sat.retB rfl rfl
    | true =>
      have hkn : getK R_impl_PlanBaseOk.C .pair .bool ⟨ps[i].x, ps[i].y⟩ m = !freeOf (ps.take i) ps[i] := hm ps[i]
      rw [hkn]
      simp only [Bool.not_true, ifb_false, Bool.true_and]
      cases hf : freeOf (ps.take i) ps[i] with
      | false =>
        refine Sat.retB ?_ rfl
        simp
      | true =>
      simp only [Bool.not_true, ifb_false, Bool.true_and]
      by_cases h0 : (i : Int) > 0
      · have hi1 : i - 1 < ps.length := by omega
        have hx1 : ps.getD ((i : Int) - 1).toNat (R_impl_PlanBaseOk.C.dflt .point) = ps[i - 1] := by
          rw [show ((i : Int) - 1).toNat = i - 1 by omega]; simp [hi1]
        have hl1 : (ps.take i).getLast? = some ps[i - 1] := by
          have := List.take_succ_eq_append_getElem hi1
          rw [show i - 1 + 1 = i by omega] at this
          rw [this, List.getLast?_concat]
        have hin1 : inb ((i : Int) - 1) ps.length = true := by simp only [inb, Bool.and_eq_true, decide_eq_true_eq]; omega
        rw [decide_eq_true h0, hx1, hl1, hin1, le_lt]
        simp only [ifb_true, Option.map_some, afterB]
        cases hb : bytesLt ps[i - 1].name ps[i].name with
        | false => exact Sat.retB rfl rfl
        | true =>
          simp only [Bool.not_true, ifb_false, Bool.true_and]
          exact Sat.cut ih'
      · rw [decide_eq_false h0]
        have : i = 0 := by omega
        subst this
        exact Sat.cut ih'
theorem lk_impl_PlanBaseOk (ks : List Kind) (ps : List Point) (hk6 : ks.length ≤ 6) (hp : ps.length ≤ 16) : ∀ (d i : Nat), i + d = ks.length →
    Cut R_impl_PlanBaseOk g_impl_PlanBaseOk 4 [.ptr 0 0, .sl .kind ks, .int .i64 (ks.length : Int), .int .i64 (i : Int)] [.box [.sl .kind ks, .sl .point ps]] (.bool (kindsGo ((ks.take i).getLast?.map (·.name)) (ks.drop i) && pointsGo [] none ps)) [] := by
  intro d
  induction d with
  | zero =>
    intro i hi
    refine Cut.of R_impl_PlanBaseOk_ok rfl (t_impl_PlanBaseOk_4 ks ks.length i ks ps) ?_
    rw [decide_eq_false (by omega), List.drop_of_length_le (by omega)]
    have := lp_impl_PlanBaseOk ks ps hp ps.length 0 [] (by omega) knows_nil
    exact Sat.cut this
  | succ d ih =>
    intro i hi
    refine Cut.of R_impl_PlanBaseOk_ok rfl (t_impl_PlanBaseOk_4 ks ks.length i ks ps) ?_
    have hlt : i < ks.length := by omega
    have hw : IntKind.wrap .i64 ((i : Int) + 1) = ((i + 1 : Nat) : Int) := by rw [wrap_ok] <;> omega
    have hw1 : IntKind.wrap .i64 ((i : Int) - 1) = (i : Int) - 1 := by rw [wrap_ok] <;> omega
    have hd : ks.drop i = ks[i] :: ks.drop (i + 1) := List.drop_eq_getElem_cons hlt
    have hx : ks.getD (i : Int).toNat (R_impl_PlanBaseOk.C.dflt .kind) = ks[i] := by simp [hlt]
    have hin : inb (i : Int) ks.length = true := by simp only [inb, Bool.and_eq_true, decide_eq_true_eq]; omega
    have hlo : decide ((i : Int) < (ks.length : Int)) = true := decide_eq_true (by omega)
    have hl : (ks.take (i + 1)).getLast? = some ks[i] := by rw [List.take_succ_eq_append_getElem hlt, List.getLast?_concat]
    have ih' := ih (i + 1) (by omega)
    rw [hl, Option.map_some] at ih'
    rw [hw, hw1, hx, hd, hin, hlo, kindsGo]
    simp only [ifb_true]
    cases hk : ks[i].ok with
    | false => exact Sat.retB rfl rfl
    | true =>
      simp only [Bool.not_true, ifb_false, Bool.true_and]
      by_cases h0 : (i : Int) > 0
      · have hi1 : i - 1 < ks.length := by omega
        have hx1 : ks.getD ((i : Int) - 1).toNat (R_impl_PlanBaseOk.C.dflt .kind) = ks[i - 1] := by
          rw [show ((i : Int) - 1).toNat = i - 1 by omega]; simp [hi1]
        have hl1 : (ks.take i).getLast? = some ks[i - 1] := by
          have := List.take_succ_eq_append_getElem hi1
          rw [show i - 1 + 1 = i by omega] at this
          rw [this, List.getLast?_concat]
        have hin1 : inb ((i : Int) - 1) ks.length = true := by simp only [inb, Bool.and_eq_true, decide_eq_true_eq]; omega
        rw [decide_eq_true h0, hx1, hl1, hin1, le_lt]
        simp only [ifb_true, Option.map_some, afterB]
        cases hb : bytesLt ks[i - 1].name ks[i].name with
        | false => exact Sat.retB rfl rfl
        | true =>
          simp only [Bool.not_true, ifb_false, Bool.true_and]
          exact Sat.cut ih'
      · rw [decide_eq_false h0]
        have : i = 0 := by omega
        subst this
        exact Sat.cut ih'
theorem c_impl_PlanBaseOk (ks : List Kind) (ps : List Point) : CallOK Tryz.prog CP g_impl_PlanBaseOk [.agg [.sl .kind ks, .sl .point ps]] [] (.bool (baseOk ks ps)) [] := by
  refine CallOK.of R_impl_PlanBaseOk_ok (by kernel_rfl) (t_impl_PlanBaseOk ks ps) ?_
  by_cases h6 : ks.length ≤ 6
  · rw [decide_eq_false (by omega)]
    by_cases h16 : ps.length ≤ 16
    · rw [decide_eq_false (by omega)]
      have := lk_impl_PlanBaseOk ks ps h6 h16 ks.length 0 (by omega)
      rw [show baseOk ks ps = (kindsGo ((ks.take 0).getLast?.map (·.name)) (ks.drop 0) && pointsGo [] none ps) by simp [baseOk, h6, h16]]
      exact Sat.cut this
    · rw [decide_eq_true (by omega)]
      refine Sat.retB ?_ rfl
      simp [baseOk, h16]
  · rw [decide_eq_true (by omega)]
    refine Sat.retB ?_ rfl
    simp [baseOk, h6]
theorem E_impl_PlanBaseOk_ok : EntOK Tryz.prog CP g_impl_PlanBaseOk E_impl_PlanBaseOk := by
  refine ⟨⟨Tryz.f92, by kernel_rfl, by kernel_rfl, by kernel_rfl⟩, fun args H res H' h => ?_⟩
  simp only [E_impl_PlanBaseOk, E_spec_PlanBaseOk] at h
  split at h
  · simp only [Option.some.injEq, Prod.mk.injEq] at h
    obtain ⟨hg, rfl, rfl⟩ := h
    exact c_impl_PlanBaseOk _ _
  · cases h
end Lx
/- Numbers read by the library: meanings. -/
set_option linter.unusedVariables false
set_option linter.unusedSimpArgs false
namespace Lx
open Go Go.Proofs
def digitsS : Str := [48, 49, 50, 51, 52, 53, 54, 55, 56, 57]
def isDig (b : UInt8) : Bool := decide (48 ≤ b.toNat) && decide (b.toNat ≤ 57)
theorem digits_contains (b : UInt8) : digitsS.contains b = isDig b := by
  have h : ∀ k : UInt8, (b == k) = decide (b.toNat = k.toNat) := fun k => by
    by_cases e : b = k
    · subst e; simp
    · rw [beq_eq_false_iff_ne.2 e, decide_eq_false (fun h => e (UInt8.toNat_inj.1 h))]
  simp only [digitsS, List.contains_cons, List.contains_nil, Bool.or_false, h, isDig]
  simp only [show (48 : UInt8).toNat = 48 from rfl, show (49 : UInt8).toNat = 49 from rfl, show (50 : UInt8).toNat = 50 from rfl, show (51 : UInt8).toNat = 51 from rfl, show (52 : UInt8).toNat = 52 from rfl,
    show (53 : UInt8).toNat = 53 from rfl, show (54 : UInt8).toNat = 54 from rfl, show (55 : UInt8).toNat = 55 from rfl, show (56 : UInt8).toNat = 56 from rfl, show (57 : UInt8).toNat = 57 from rfl]
  apply Bool.eq_iff_iff.2
  simp only [Bool.or_eq_true, Bool.and_eq_true, decide_eq_true_eq]
  omega
theorem dropWhile_all {p : UInt8 → Bool} : ∀ {l : List UInt8}, (∀ x ∈ l.dropWhile p, p x = true) → ∀ x ∈ l, p x = true
  | [], _, x, h => by simp at h
  | a :: l, h, x, hx => by
    by_cases ha : p a = true
    · rw [List.dropWhile_cons_of_pos ha] at h
      simp only [List.mem_cons] at hx
      rcases hx with rfl | hx
      · exact ha
      · exact dropWhile_all h x hx
    · rw [List.dropWhile_cons_of_neg ha] at h
      exact h x hx
theorem dropWhile_nil {p : UInt8 → Bool} : ∀ {l : List UInt8}, l.dropWhile p = [] ↔ ∀ x ∈ l, p x = true
  | [] => by simp
  | a :: l => by
    by_cases ha : p a = true
    · rw [List.dropWhile_cons_of_pos ha, dropWhile_nil (l := l)]
      simp [ha]
    · rw [List.dropWhile_cons_of_neg ha]
      simp [ha]
theorem trim_nil (s : Str) : (Lib.trimS s digitsS == []) = s.all isDig := by
  have e : (fun b => digitsS.contains b) = isDig := funext digits_contains
  apply Bool.eq_iff_iff.2
  unfold Lib.trimS Lib.trimLeftS Lib.trimRightS
  rw [e, beq_iff_eq, dropWhile_nil, List.all_eq_true]
  constructor
  · intro h x hx
    exact dropWhile_all (l := s.reverse) (fun y hy => h y (by simpa using hy)) x (by simpa using hx)
  · intro h x hx
    have : s.reverse.dropWhile isDig = [] := dropWhile_nil.2 (fun y hy => h y (by simpa using hy))
    rw [this] at hx; simp at hx
def optI : Option Nat → Int
  | some k => (k : Int)
  | none => -1
theorem numGo_eq : ∀ (s : Str) (acc : Nat), numGo (acc : Int) s = optI (Lib.decFrom acc s)
  | [], acc => rfl
  | b :: s, acc => by
    simp only [numGo, Lib.decFrom, Lib.digitVal]
    by_cases h : 48 ≤ b.toNat ∧ b.toNat ≤ 57
    · rw [if_neg (by omega), if_pos h]
      have : (acc : Int) * 10 + ((b.toNat : Int) - 48) = ((acc * 10 + (b.toNat - 48) : Nat) : Int) := by omega
      rw [this]
      exact numGo_eq s _
    · rw [if_pos (by omega), if_neg h]
      rfl
theorem decFrom_all : ∀ (s : Str) (acc : Nat), s.all isDig = (Lib.decFrom acc s).isSome
  | [], acc => rfl
  | b :: s, acc => by
    simp only [List.all_cons, Lib.decFrom, Lib.digitVal, isDig]
    by_cases h : 48 ≤ b.toNat ∧ b.toNat ≤ 57
    · rw [if_pos h, decide_eq_true h.1, decide_eq_true h.2]
      simp only [Bool.and_self, Bool.true_and]
      exact decFrom_all s _
    · rw [if_neg h]
      have : (decide (48 ≤ b.toNat) && decide (b.toNat ≤ 57)) = false := by
        apply Bool.eq_false_iff.2
        intro e
        simp only [Bool.and_eq_true, decide_eq_true_eq] at e
        exact h e
      rw [this]; rfl
theorem numGo_dig {s : Str} (h : s.all isDig = true) : 0 ≤ numGo 0 s := by
  have := numGo_eq s 0
  rw [decFrom_all s 0] at h
  obtain ⟨k, hk⟩ := Option.isSome_iff_exists.1 h
  rw [hk] at this
  have e : ((0 : Nat) : Int) = 0 := rfl
  rw [e] at this
  rw [this]; exact Int.natCast_nonneg k
theorem numGo_nodig {s : Str} (h : s.all isDig = false) : numGo 0 s = -1 := by
  have := numGo_eq s 0
  rw [decFrom_all s 0] at h
  have hn : Lib.decFrom 0 s = none := by cases hd : Lib.decFrom 0 s with | none => rfl | some k => rw [hd] at h; cases h
  rw [hn] at this
  exact this
theorem atoi_dig {s : Str} (h0 : 0 < s.length) (h : s.all isDig = true) : Lib.atoi s = some (numGo 0 s) := by
  cases s with
  | nil => simp at h0
  | cons b s =>
    have hb : isDig b = true := by simp only [List.all_cons, Bool.and_eq_true] at h; exact h.1
    simp only [isDig, Bool.and_eq_true, decide_eq_true_eq] at hb
    have n1 : ¬ (b == 45) = true := fun e => by have := congrArg UInt8.toNat (eq_of_beq e); simp at this; omega
    have n2 : ¬ (b == 43) = true := fun e => by have := congrArg UInt8.toNat (eq_of_beq e); simp at this; omega
    have hs := decFrom_all (b :: s) 0
    rw [h] at hs
    obtain ⟨k, hk⟩ := Option.isSome_iff_exists.1 hs.symm
    have hn := numGo_eq (b :: s) 0
    rw [hk] at hn
    have e : ((0 : Nat) : Int) = 0 := rfl
    rw [e] at hn
    rw [hn]
    unfold Lib.atoi
    simp only
    rw [if_neg n1, if_neg n2]
    simp [Lib.decNat, hk, optI]

def E_strings_Trim : Ent Ty El := ⟨[.ro, .ro], 0, fun a h => match a, h with
  | [.str s, .str d], [] => some (decide (d = digitsS) && (decide (0 < s.length) && szS s), .str (Lib.trimS s digitsS), [])
  | _, _ => none⟩
def E_strconv_Atoi : Ent Ty El := ⟨[.ro], 0, fun a h => match a, h with
  | [.str s], [] => some (decide (s.length ≤ 18) && (Lib.atoi s).isSome, .tup [.int .i64 ((Lib.atoi s).getD 0), .dead], [])
  | _, _ => none⟩
def decV (s : Str) : Int := max 0 (numF s)
def decB (s : Str) : Bool := decide (0 ≤ numF s)
def E_impl_decimal : Ent Ty El := ⟨[.ro, .ro], 0, fun a h => match a, h with
  | [.str s, .int .i64 m], [] => some (decide (m = 7), .tup [.int .i64 (decV s), .bool (decB s)], [])
  | _, _ => none⟩
def decsV (w : List Str) : List Int := if w.all decB then w.map decV else []
def E_impl_decimals : Ent Ty El := ⟨[.ro, .ro], 0, fun a h => match a, h with
  | [.sl .str w, .int .i64 m], [] => some (decide (m = 7) && decide (w.length ≤ 2000000000), .tup [.sl .int (decsV w), .bool (w.all decB)], [])
  | _, _ => none⟩

theorem Fr.below {w w' : World} (h : RowKit.Below w.heap.size w w') : Fr w w' (fun _ => False) := ⟨h.os, h.tape, h.output, h.size, fun b hb _ => h.block b hb⟩
theorem bytesWorld_fr (w : World) (e : TypeId) (s : ByteArray) : Fr w (Lib.bytesWorld w e s) (fun _ => False) := by
  refine ⟨?_, ?_, ?_, by rw [Lib.bytesWorld_size]; omega, fun b hb _ => Lib.bytesWorld_at_old w e s b hb⟩ <;> (unfold Lib.bytesWorld World.freeze; split <;> rfl)

theorem c_strconv_Atoi (s : Str) (hg : (decide (s.length ≤ 18) && (Lib.atoi s).isSome) = true) : CallOK Tryz.prog CP g_strconv_Atoi [.str s] [] (.tup [.int .i64 ((Lib.atoi s).getD 0), .dead]) [] := by
  simp only [Bool.and_eq_true, decide_eq_true_eq] at hg
  obtain ⟨hl, hs⟩ := hg
  obtain ⟨n, hn⟩ := Option.isSome_iff_exists.1 hs
  refine CallOK.quiet CP_ok fun w N vs hsz hrep => ?_
  obtain ⟨sb, h0, hsb⟩ := arg_str hrep hsz (j := 0) rfl
  rw [arr1 hsz h0]
  refine Calls.mono (Tryz.strconv_Atoi sb n (by rw [Lib.size_eq, hsb]; exact hl) (by rw [hsb]; exact hn) w) ?_
  rintro e w' ⟨rfl, t, rfl⟩
  refine ⟨_, rfl, bytesWorld_fr w _ _, fun N' _ _ => ?_⟩
  rw [hn]
  refine .tup _ _ rfl fun j v c hv hc => ?_
  match j with
  | 0 => simp at hv hc; subst hv; subst hc; exact .int _ _
  | 1 => simp at hv hc; subst hc; exact .dead _
  | j + 2 => simp at hv
theorem E_strconv_Atoi_ok : EntOK Tryz.prog CP g_strconv_Atoi E_strconv_Atoi := by
  refine ⟨⟨Tryz.f186, by kernel_rfl, by kernel_rfl, by kernel_rfl⟩, fun args H res H' h => ?_⟩
  simp only [E_strconv_Atoi] at h
  split at h
  · simp only [Option.some.injEq, Prod.mk.injEq] at h
    obtain ⟨hg, rfl, rfl⟩ := h
    exact c_strconv_Atoi _ hg
  · cases h
end Lx
/- strings.Trim at the digits, by the library's contract. -/
set_option linter.unusedVariables false
set_option linter.unusedSimpArgs false
namespace Lx
open Go Go.Proofs
theorem zero_set (w : World) : (zeroValue 267).run Tryz.prog w = .ok (.agg (Array.replicate 256 (.bool false))) w := by
  have h : (Tryz.prog.info? 267).bind (·.zero) = some (.agg (Array.replicate 256 (.bool false))) := by kernel_rfl
  cases hi : Tryz.prog.info? 267 with
  | none => rw [hi] at h; cases h
  | some i => rw [hi] at h; exact run_zero hi h w
theorem c_strings_Trim (s d : Str) (hg : (decide (d = digitsS) && (decide (0 < s.length) && szS s)) = true) : CallOK Tryz.prog CP g_strings_Trim [.str s, .str d] [] (.str (Lib.trimS s digitsS)) [] := by
  simp only [Bool.and_eq_true, decide_eq_true_eq, szS] at hg
  obtain ⟨rfl, hl, hs⟩ := hg
  refine CallOK.quiet CP_ok fun w N vs hsz hrep => ?_
  obtain ⟨sb, h0, hsb⟩ := arg_str hrep hsz (j := 0) rfl
  obtain ⟨cb, h1, hcb⟩ := arg_str hrep hsz (j := 1) rfl
  rw [arr2 hsz h0 h1]
  have hz : sb.size = s.length := by rw [Lib.size_eq, hsb]
  have hc : cb.size = 10 := by rw [Lib.size_eq, hcb]; rfl
  refine Calls.mono (Any.strings_Trim_set Tryz.lays160 zero_set (by kernel_rfl) sb cb w (by omega) (by omega) (by omega) (by omega) (fun j b hb => by
    rw [hcb] at hb
    have hm : digitsS.contains b = true := by simpa using List.mem_of_getElem? hb
    rw [digits_contains] at hm
    simp only [isDig, Bool.and_eq_true, decide_eq_true_eq] at hm
    omega)) ?_
  rintro e w' ⟨rfl, q, rfl⟩
  have f1 := Fr.alloc w (.cells (Lib.setCells cb.data.toList) 267)
  have f2 := Fr.alloc (w.alloc (.cells (Lib.setCells cb.data.toList) 267)) (.cells (Lib.setCells cb.data.toList) 267)
  have f3 := f1.trans' f2
  refine ⟨_, rfl, ⟨f3.os, f3.tape, f3.output, f3.size, f3.block⟩, fun N' _ _ => .str _ _ (by rw [hsb, hcb])⟩
theorem E_strings_Trim_ok : EntOK Tryz.prog CP g_strings_Trim E_strings_Trim := by
  refine ⟨⟨Tryz.f185, by kernel_rfl, by kernel_rfl, by kernel_rfl⟩, fun args H res H' h => ?_⟩
  simp only [E_strings_Trim] at h
  split at h
  · simp only [Option.some.injEq, Prod.mk.injEq] at h
    obtain ⟨hg, rfl, rfl⟩ := h
    exact c_strings_Trim _ _ hg
  · cases h
end Lx
/- Numbers read; lists of numbers. -/
set_option linter.unusedVariables false
set_option linter.unusedSimpArgs false
set_option maxRecDepth 4000
namespace Lx
open Go Go.Proofs
/-- impl.decimal -/
noncomputable def R_impl_decimal : RE Ty El := ⟨Tryz.prog, CP, [(g_strings_Trim, E_strings_Trim), (g_strconv_Atoi, E_strconv_Atoi)], Tryz.f104, 0, [], []⟩
theorem R_impl_decimal_ok : REOK R_impl_decimal g_impl_decimal := ⟨CP_ok, (TabOK.cons E_strings_Trim_ok (TabOK.cons E_strconv_Atoi_ok EOKnil)), by kernel_rfl, by kernel_rfl⟩
theorem t_impl_decimal (s : Str) (m : Int) : aRun R_impl_decimal 600 false (body0 R_impl_decimal.fn) (initSt R_impl_decimal.fn [.str s, .int .i64 m] []) =
  ifb (s == #[].toList) (some (.ret (.tup [.int .i64 (0 : Int), .bool false]) [])) (ifb (decide ((↑(List.length s) : Int) > m)) (some (.ret (.tup [.int .i64 (0 : Int), .bool false]) [])) (ifb (decide (#[(48 : UInt8), (49 : UInt8), (50 : UInt8), (51 : UInt8), (52 : UInt8), (53 : UInt8), (54 : UInt8), (55 : UInt8), (56 : UInt8), (57 : UInt8)].toList = digitsS) && (decide ((0 : Nat) < List.length s) && szS s)) (ifb (!Lib.trimS s digitsS == #[].toList) (some (.ret (.tup [.int .i64 (0 : Int), .bool false]) [])) (ifb (inb (0 : Int) (List.length s)) (ifb ((↑(List.getD s (Int.toNat (0 : Int)) (0 : UInt8)).toNat : Int) == (48 : Int)) (ifb (!s == #[(48 : UInt8)].toList) (some (.ret (.tup [.int .i64 (0 : Int), .bool false]) [])) (ifb (decide (List.length s ≤ (18 : Nat)) && (Lib.atoi s).isSome) (some (.ret (.tup [.int .i64 ((Lib.atoi s).getD (0 : Int)), .bool true]) [])) (none))) (ifb (decide (List.length s ≤ (18 : Nat)) && (Lib.atoi s).isSome) (some (.ret (.tup [.int .i64 ((Lib.atoi s).getD (0 : Int)), .bool true]) [])) (none))) (none))) (none))) := by kernel_rfl
theorem c_impl_decimal (s : Str) (m : Int) (hg : decide (m = 7) = true) : CallOK Tryz.prog CP g_impl_decimal [.str s, .int .i64 m] [] (.tup [.int .i64 (decV s), .bool (decB s)]) [] := by
  refine CallOK.of R_impl_decimal_ok (by kernel_rfl) (t_impl_decimal s m) ?_
  have hm : m = 7 := of_decide_eq_true hg
  subst hm
  have no : numF s = -1 → Sat R_impl_decimal g_impl_decimal (.tup [.int .i64 (decV s), .bool (decB s)]) [] (some (.ret (.tup [.int .i64 (0 : Int), .bool false]) [])) := fun h => by
    refine Sat.ret ?_ rfl
    simp [decV, decB, h]
    decide
  have hdig : decide (#[(48 : UInt8), 49, 50, 51, 52, 53, 54, 55, 56, 57].toList = digitsS) = true := rfl
  rw [hdig]
  by_cases h0 : s = []
  · subst h0
    exact no rfl
  · have hl0 : 0 < s.length := List.length_pos_iff.2 h0
    have e0 : (s == #[].toList) = false := by simpa using h0
    rw [e0]
    simp only [ifb_false]
    by_cases h7 : s.length ≤ 7
    · have hz : szS s = true := decide_eq_true (by omega)
      rw [decide_eq_false (by omega), decide_eq_true hl0, hz, trim_nil]
      simp only [ifb_false, Bool.and_self, ifb_true]
      cases hd : s.all isDig with
      | false =>
        refine no ?_
        unfold numF
        by_cases hc : 1 ≤ s.length ∧ s.length ≤ 7 ∧ ¬ (1 < s.length ∧ ((s.getD 0 0).toNat : Int) = 48)
        · rw [if_pos hc, numGo_nodig hd]
        · rw [if_neg hc]
      | true =>
        have hat := atoi_dig hl0 hd
        have hg0 := numGo_dig hd
        have hin : inb (0 : Int) s.length = true := by simp only [inb, Bool.and_eq_true, decide_eq_true_eq]; omega
        have h18 : (decide (s.length ≤ 18) && (Lib.atoi s).isSome) = true := by rw [hat, decide_eq_true (by omega)]; rfl
        have yes : ¬ (1 < s.length ∧ ((s.getD 0 0).toNat : Int) = 48) → Sat R_impl_decimal g_impl_decimal (.tup [.int .i64 (decV s), .bool (decB s)]) [] (some (.ret (.tup [.int .i64 ((Lib.atoi s).getD (0 : Int)), .bool true]) [])) := fun h => by
          have hn : numF s = numGo 0 s := by unfold numF; rw [if_pos ⟨hl0, h7, h⟩]
          refine Sat.ret ?_ rfl
          rw [hat]
          have e1 : decV s = numGo 0 s := by unfold decV; rw [hn]; omega
          have e2 : decB s = true := by unfold decB; rw [hn]; exact decide_eq_true hg0
          rw [e1, e2]; rfl
        rw [hin, h18]
        simp only [Bool.not_true, ifb_false, ifb_true]
        have ez : s.getD (Int.toNat 0) 0 = s.getD 0 0 := rfl
        rw [ez]
        by_cases hz0 : ((s.getD 0 0).toNat : Int) = 48
        · rw [hz0]
          simp only [beq_self_eq_true, ifb_true]
          by_cases h1 : 1 < s.length
          · have hne : (s == #[(48 : UInt8)].toList) = false := by
              apply beq_eq_false_iff_ne.2
              intro e
              rw [e] at h1; simp at h1
            rw [hne]
            refine no ?_
            unfold numF
            rw [if_neg (fun hc => hc.2.2 ⟨h1, hz0⟩)]
          · have hne : (s == #[(48 : UInt8)].toList) = true := by
              cases s with
              | nil => simp at hl0
              | cons b t =>
                have ht : t = [] := List.eq_nil_of_length_eq_zero (by simp only [List.length_cons] at h1; omega)
                subst ht
                have : b = 48 := UInt8.toNat_inj.1 (by have : ((b.toNat : Nat) : Int) = 48 := hz0; show b.toNat = 48; omega)
                subst this; rfl
            rw [hne]
            exact yes (fun hc => h1 hc.1)
        · rw [beq_eq_false_iff_ne.2 hz0]
          exact yes (fun hc => hz0 hc.2)
    · rw [decide_eq_true (by omega)]
      refine no ?_
      unfold numF
      rw [if_neg (by omega)]
theorem E_impl_decimal_ok : EntOK Tryz.prog CP g_impl_decimal E_impl_decimal := by
  refine ⟨⟨Tryz.f104, by kernel_rfl, by kernel_rfl, by kernel_rfl⟩, fun args H res H' h => ?_⟩
  simp only [E_impl_decimal] at h
  split at h
  · simp only [Option.some.injEq, Prod.mk.injEq] at h
    obtain ⟨hg, rfl, rfl⟩ := h
    exact c_impl_decimal _ _ hg
  · cases h

/-- impl.decimals -/
noncomputable def R_impl_decimals : RE Ty El := ⟨Tryz.prog, CP, [(g_impl_decimal, E_impl_decimal)], Tryz.f167, 0, [.ro .int, .any], [(3, [(1, .any), (6, .any), (11, .any), (12, .any), (13, .any)])]⟩
theorem R_impl_decimals_ok : REOK R_impl_decimals g_impl_decimals := ⟨CP_ok, (TabOK.cons E_impl_decimal_ok EOKnil), by kernel_rfl, by kernel_rfl⟩
theorem t_impl_decimals (w : List Str) (m : Int) : aRun R_impl_decimals 600 false (body0 R_impl_decimals.fn) (initSt R_impl_decimals.fn [.sl .str w, .int .i64 m] []) =
  some (.go (todoAt R_impl_decimals.fn 3) [.int .i64 m, .own 0 [] 0, .sl .str w, .int .i64 (↑w.length : Int), .int .i64 (0 : Int)] [.row .int [] 0 0 0 .no]) := by kernel_rfl
theorem t_impl_decimals_3 (x0 : Int) (x1 : List (El .str)) (x2 : Int) (x3 : Int) (x4 : List (El .int)) : aRun R_impl_decimals 600 true (todoAt R_impl_decimals.fn 3) (cutSt R_impl_decimals.fn (liveOf R_impl_decimals (todoAt R_impl_decimals.fn 3)) [.int .i64 x0, .own 0 [] 0, .sl .str x1, .int .i64 x2, .int .i64 x3] [.row .int x4 0 0 0 .no]) =
  ifb (decide (x3 < x2)) (ifb (inb x3 x1.length) (ifb (decide (x0 = (7 : Int))) (ifb (!decB (x1.getD x3.toNat (R_impl_decimals.C.dflt Ty.str))) (some (.ret (.tup [.sl .int [], .bool false]) [])) (ifb (decide ((x4.length + [decV (x1.getD x3.toNat (R_impl_decimals.C.dflt Ty.str))].length) * bytesOf' R_impl_decimals.P (3 : Nat) ≤ (140737488355328 : Nat))) (some (.go (todoAt R_impl_decimals.fn 3) [.int .i64 x0, .own 0 [] 0, .sl .str x1, .int .i64 x2, .int .i64 (IntKind.i64.wrap (x3 + (1 : Int)))] [.row .int (x4 ++ [decV (x1.getD x3.toNat (R_impl_decimals.C.dflt Ty.str))]) 0 0 0 .no])) (none))) (none)) (none)) (some (.ret (.tup [.sl .int x4, .bool true]) [])) := by kernel_rfl
theorem l_impl_decimals (w : List Str) (hw : w.length ≤ 2000000000) : ∀ (d i : Nat), i + d = w.length → (w.take i).all decB = true → Cut R_impl_decimals g_impl_decimals 3 [.int .i64 7, .own 0 [] 0, .sl .str w, .int .i64 (w.length : Int), .int .i64 (i : Int)] [.row .int ((w.take i).map decV) 0 0 0 .no] (.tup [.sl .int (decsV w), .bool (w.all decB)]) [] := by
  intro d
  have hb : bytesOf' R_impl_decimals.P 3 = 8 := by kernel_rfl
  induction d with
  | zero =>
    intro i hi ha
    refine Cut.of R_impl_decimals_ok rfl (t_impl_decimals_3 7 w w.length i _) ?_
    rw [decide_eq_false (by omega)]
    have : w.take i = w := List.take_of_length_le (by omega)
    rw [this] at ha ⊢
    refine Sat.ret ?_ rfl
    unfold decsV
    rw [if_pos ha, ha]
  | succ d ih =>
    intro i hi ha
    refine Cut.of R_impl_decimals_ok rfl (t_impl_decimals_3 7 w w.length i _) ?_
    have hlt : i < w.length := by omega
    have hwr : IntKind.wrap .i64 ((i : Int) + 1) = ((i + 1 : Nat) : Int) := by rw [wrap_ok] <;> omega
    have hx : w.getD (i : Int).toNat (R_impl_decimals.C.dflt .str) = w[i] := by simp [hlt]
    have hin : inb (i : Int) w.length = true := by simp only [inb, Bool.and_eq_true, decide_eq_true_eq]; omega
    have htk := List.take_succ_eq_append_getElem hlt
    have hroom : decide ((((w.take i).map decV).length + [decV w[i]].length) * 8 ≤ 140737488355328) = true := decide_eq_true (by simp; omega)
    rw [decide_eq_true (by omega), hin, hx, hwr, hb, hroom, show decide ((7 : Int) = 7) = true from rfl]
    simp only [ifb_true]
    cases hd : decB w[i] with
    | false =>
      have : w.all decB = false := by
        apply Bool.eq_false_iff.2
        intro h
        have := List.all_eq_true.1 h w[i] (List.getElem_mem hlt)
        rw [hd] at this; cases this
      refine Sat.ret ?_ rfl
      unfold decsV
      rw [this]; rfl
    | true =>
      have := ih (i + 1) (by omega) (by rw [htk, List.all_append, ha]; simp [hd])
      rw [htk, List.map_append] at this
      exact Sat.cut this
theorem c_impl_decimals (w : List Str) (m : Int) (hg : (decide (m = 7) && decide (w.length ≤ 2000000000)) = true) : CallOK Tryz.prog CP g_impl_decimals [.sl .str w, .int .i64 m] [] (.tup [.sl .int (decsV w), .bool (w.all decB)]) [] := by
  refine CallOK.of R_impl_decimals_ok (by kernel_rfl) (t_impl_decimals w m) ?_
  simp only [Bool.and_eq_true, decide_eq_true_eq] at hg
  obtain ⟨rfl, hw⟩ := hg
  exact Sat.cut (l_impl_decimals w hw w.length 0 (by omega) rfl)
theorem E_impl_decimals_ok : EntOK Tryz.prog CP g_impl_decimals E_impl_decimals := by
  refine ⟨⟨Tryz.f167, by kernel_rfl, by kernel_rfl, by kernel_rfl⟩, fun args H res H' h => ?_⟩
  simp only [E_impl_decimals] at h
  split at h
  · simp only [Option.some.injEq, Prod.mk.injEq] at h
    obtain ⟨hg, rfl, rfl⟩ := h
    exact c_impl_decimals _ _ hg
  · cases h
end Lx
/- Meanings: routes and what fits, as the program asks it. -/
set_option linter.unusedVariables false
namespace Lx
open Go Go.Proofs
def ptOf (ps : List Point) (n : Str) : Point := ps.getD (pointIx ps n).toNat (dfltP .point)
def routeP (ps : List Point) (w : List Str) : List Point := if routeOk ps w then w.map (ptOf ps) else []
def E_impl_PlanBase_route : Ent Ty El := ⟨[.ro, .ro], 0, fun a h => match a, h with
  | [.agg [.sl .kind ks, .sl .point ps], .sl .str w], [] => some (decide (ps.length < 1000000000), .tup [.sl .point (routeP ps w), .bool (routeOk ps w)], [])
  | _, _ => none⟩
def E_impl_PlanBase_fits : Ent Ty El := ⟨[.ro, .ro, .ro], 0, fun a h => match a, h with
  | [.agg [.sl .kind ks, .sl .point ps], .int .i64 what, .str v], [] => some (szV v && (decide (ks.length < 1000000000) && decide (ps.length < 1000000000)), .bool (fitsV ks ps what v), [])
  | _, _ => none⟩
def E_impl_PlanBase_change : Ent Ty El := ⟨[.ro, .ro], 0, fun a h => match a, h with
  | [.agg [.sl .kind ks, .sl .point ps], .agg [.str fl, .int .i64 what, .int .i64 num, .str v]], [] => some (szV v && (decide (ks.length < 1000000000) && decide (ps.length < 1000000000)), .bool (changeV ks ps fl what num v), [])
  | _, _ => none⟩
def E_impl_PlanChangeOk : Ent Ty El := E_spec_PlanChangeOk
def E_impl_PlanBookOk : Ent Ty El := E_spec_PlanBookOk
theorem cutS_len (c : Int) : ∀ s : Str, (cutS c s).length ≤ s.length + 1
  | [] => by simp [cutS]
  | b :: s => by
    have := cutS_len c s
    simp only [cutS]
    split
    · simp; omega
    · split
      · simp
      · rename_i w ws h
        rw [h] at this
        simp at this ⊢; omega
theorem baseOk_len {ks : List Kind} {ps : List Point} (h : baseOk ks ps = true) : ks.length ≤ 6 ∧ ps.length ≤ 16 := by
  simp only [baseOk, Bool.and_eq_true, decide_eq_true_eq] at h
  exact ⟨h.1, h.2.1⟩
theorem fieldsGo_cons {ks : List Kind} {ps : List Point} {n : Str} {prev : Option Int} {f : Fld} {fs : List Fld} : fieldsGo ks ps n prev (f :: fs) = (changeV ks ps n f.what f.number f.value && ((match prev with | none => true | some q => decide (q < f.what)) && fieldsGo ks ps n (some f.what) fs)) := by cases prev <;> rfl
theorem entryOk_ne {ks : List Kind} {ps : List Point} {e : Entry} (h : ¬ e.fields.length = 0) : entryOk ks ps e = fieldsGo ks ps e.name none e.fields := by
  unfold entryOk
  rw [decide_eq_false h]
  cases hf : e.fields with
  | nil => rw [hf] at h; simp at h
  | cons f fs =>
    simp only [fieldsGo, changeV, Bool.not_false, Bool.true_and]
    cases nameOk e.name <;> simp
end Lx
/- Routes; what fits; books, as the program asks them. -/
set_option linter.unusedVariables false
set_option linter.unusedSimpArgs false
set_option maxRecDepth 4000
namespace Lx
open Go Go.Proofs
/-- (impl.PlanBase).route -/
noncomputable def R_impl_PlanBase_route : RE Ty El := ⟨Tryz.prog, CP, [(g_impl_within, E_impl_within), (g_impl_PlanBase_point, E_impl_PlanBase_point)], Tryz.f121, 0, [.ro .point, .any], [(5, [(1, .any), (2, .any), (6, .any), (14, .any), (15, .any), (16, .any)])]⟩
theorem R_impl_PlanBase_route_ok : REOK R_impl_PlanBase_route g_impl_PlanBase_route := ⟨CP_ok, (TabOK.cons E_impl_within_ok (TabOK.cons E_impl_PlanBase_point_ok EOKnil)), by kernel_rfl, by kernel_rfl⟩
theorem t_impl_PlanBase_route (ks : List Kind) (ps : List Point) (w : List Str) : aRun R_impl_PlanBase_route 600 false (body0 R_impl_PlanBase_route.fn) (initSt R_impl_PlanBase_route.fn [.agg [.sl .kind ks, .sl .point ps], .sl .str w] []) =
  ifb (!inR (↑w.length : Int) (2 : Int) (8 : Int)) (some (.ret (.tup [.sl .point [], .bool false]) [])) (some (.go (todoAt R_impl_PlanBase_route.fn 5) [.sl .str w, .ptr 0 0, .own 1 [] 0, .sl .str w, .int .i64 (↑w.length : Int), .int .i64 (0 : Int)] [.box [.sl .kind ks, .sl .point ps], .row .point [] 0 0 0 .no])) := by kernel_rfl
theorem t_impl_PlanBase_route_5 (x0 : List (El .str)) (x1 : List (El .str)) (x2 : Int) (x3 : Int) (x4 : List (El .kind)) (x5 : List (El .point)) (x6 : List (El .point)) : aRun R_impl_PlanBase_route 600 true (todoAt R_impl_PlanBase_route.fn 5) (cutSt R_impl_PlanBase_route.fn (liveOf R_impl_PlanBase_route (todoAt R_impl_PlanBase_route.fn 5)) [.sl .str x0, .ptr 0 0, .own 1 [] 0, .sl .str x1, .int .i64 x2, .int .i64 x3] [.box [.sl .kind x4, .sl .point x5], .row .point x6 0 0 0 .no]) =
  ifb (decide (x3 < x2)) (ifb (inb x3 x1.length) (ifb (decide (x5.length < (1000000000 : Nat))) (ifb (decide (idxF (fun p => p.name == x1.getD x3.toNat (R_impl_PlanBase_route.C.dflt Ty.str)) x5 < (0 : Int))) (some (.ret (.tup [.sl .point [], .bool false]) [])) (ifb (decide (x3 > (0 : Int))) (ifb (inb (IntKind.i64.wrap (x3 - (1 : Int))) x0.length) (ifb (x1.getD x3.toNat (R_impl_PlanBase_route.C.dflt Ty.str) == x0.getD (IntKind.i64.wrap (x3 - (1 : Int))).toNat (R_impl_PlanBase_route.C.dflt Ty.str)) (some (.ret (.tup [.sl .point [], .bool false]) [])) (ifb (inb (idxF (fun p => p.name == x1.getD x3.toNat (R_impl_PlanBase_route.C.dflt Ty.str)) x5) x5.length) (ifb (decide ((x6.length + [x5.getD (idxF (fun p => p.name == x1.getD x3.toNat (R_impl_PlanBase_route.C.dflt Ty.str)) x5).toNat (R_impl_PlanBase_route.C.dflt Ty.point)].length) * bytesOf' R_impl_PlanBase_route.P (160 : Nat) ≤ (140737488355328 : Nat))) (some (.go (todoAt R_impl_PlanBase_route.fn 5) [.sl .str x0, .ptr 0 0, .own 1 [] 0, .sl .str x1, .int .i64 x2, .int .i64 (IntKind.i64.wrap (x3 + (1 : Int)))] [.box [.sl .kind x4, .sl .point x5], .row .point (x6 ++ [x5.getD (idxF (fun p => p.name == x1.getD x3.toNat (R_impl_PlanBase_route.C.dflt Ty.str)) x5).toNat (R_impl_PlanBase_route.C.dflt Ty.point)]) 0 0 0 .no])) (none)) (none))) (none)) (ifb (inb (idxF (fun p => p.name == x1.getD x3.toNat (R_impl_PlanBase_route.C.dflt Ty.str)) x5) x5.length) (ifb (decide ((x6.length + [x5.getD (idxF (fun p => p.name == x1.getD x3.toNat (R_impl_PlanBase_route.C.dflt Ty.str)) x5).toNat (R_impl_PlanBase_route.C.dflt Ty.point)].length) * bytesOf' R_impl_PlanBase_route.P (160 : Nat) ≤ (140737488355328 : Nat))) (some (.go (todoAt R_impl_PlanBase_route.fn 5) [.sl .str x0, .ptr 0 0, .own 1 [] 0, .sl .str x1, .int .i64 x2, .int .i64 (IntKind.i64.wrap (x3 + (1 : Int)))] [.box [.sl .kind x4, .sl .point x5], .row .point (x6 ++ [x5.getD (idxF (fun p => p.name == x1.getD x3.toNat (R_impl_PlanBase_route.C.dflt Ty.str)) x5).toNat (R_impl_PlanBase_route.C.dflt Ty.point)]) 0 0 0 .no])) (none)) (none)))) (none)) (none)) (some (.ret (.tup [.sl .point x6, .bool true]) [])) := by kernel_rfl
theorem l_impl_PlanBase_route (ks : List Kind) (ps : List Point) (w : List Str) (hps : ps.length < 1000000000) (hw8 : inR w.length 2 8 = true) : ∀ (d i : Nat), i + d = w.length → routeOk ps w = routeGo ps (w.take i).getLast? (w.drop i) →
    Cut R_impl_PlanBase_route g_impl_PlanBase_route 5 [.sl .str w, .ptr 0 0, .own 1 [] 0, .sl .str w, .int .i64 (w.length : Int), .int .i64 (i : Int)] [.box [.sl .kind ks, .sl .point ps], .row .point ((w.take i).map (ptOf ps)) 0 0 0 .no] (.tup [.sl .point (routeP ps w), .bool (routeOk ps w)]) [] := by
  intro d
  have hb : bytesOf' R_impl_PlanBase_route.P 160 = 32 := by kernel_rfl
  have hw9 : w.length ≤ 8 := by simp only [inR, Bool.and_eq_true, decide_eq_true_eq] at hw8; omega
  induction d with
  | zero =>
    intro i hi hr
    refine Cut.of R_impl_PlanBase_route_ok rfl (t_impl_PlanBase_route_5 w w w.length i ks ps _) ?_
    rw [decide_eq_false (by omega)]
    have e : w.take i = w := List.take_of_length_le (by omega)
    rw [List.drop_of_length_le (by omega)] at hr
    have hr' : routeOk ps w = true := hr
    refine Sat.ret ?_ rfl
    rw [e, routeP, if_pos hr', hr']
  | succ d ih =>
    intro i hi hr
    refine Cut.of R_impl_PlanBase_route_ok rfl (t_impl_PlanBase_route_5 w w w.length i ks ps _) ?_
    have hlt : i < w.length := by omega
    have hw : IntKind.wrap .i64 ((i : Int) + 1) = ((i + 1 : Nat) : Int) := by rw [wrap_ok] <;> omega
    have hw1 : IntKind.wrap .i64 ((i : Int) - 1) = (i : Int) - 1 := by rw [wrap_ok] <;> omega
    have hd : w.drop i = w[i] :: w.drop (i + 1) := List.drop_eq_getElem_cons hlt
    have hx : w.getD (i : Int).toNat (R_impl_PlanBase_route.C.dflt .str) = w[i] := by simp [hlt]
    have hin : inb (i : Int) w.length = true := by simp only [inb, Bool.and_eq_true, decide_eq_true_eq]; omega
    have hlo : decide ((i : Int) < (w.length : Int)) = true := decide_eq_true (by omega)
    have htk := List.take_succ_eq_append_getElem hlt
    have hl : (w.take (i + 1)).getLast? = some w[i] := by rw [List.take_succ_eq_append_getElem hlt, List.getLast?_concat]
    have no : routeOk ps w = false → Sat R_impl_PlanBase_route g_impl_PlanBase_route (.tup [.sl .point (routeP ps w), .bool (routeOk ps w)]) [] (some (.ret (.tup [.sl .point [], .bool false]) [])) := fun h => by
      refine Sat.ret ?_ rfl
      rw [routeP, h]; rfl
    have hroom : decide ((((w.take i).map (ptOf ps)).length + [ps.getD (idxF (fun p => p.name == w[i]) ps).toNat (R_impl_PlanBase_route.C.dflt .point)].length) * 32 ≤ 140737488355328) = true := decide_eq_true (by simp; omega)
    rw [hlo, hin, hx, hw, hw1, hb, hroom, decide_eq_true hps]
    simp only [ifb_true]
    rw [hd, routeGo] at hr
    have hpi : idxF (fun p => p.name == w[i]) ps = pointIx ps w[i] := rfl
    rw [hpi]
    by_cases hp0 : pointIx ps w[i] < 0
    · rw [decide_eq_true hp0]
      rw [decide_eq_true hp0] at hr
      exact no (by rw [hr]; rfl)
    · rw [decide_eq_false hp0]
      rw [decide_eq_false hp0] at hr
      have hlt2 := idxF_lt (p := fun q : Point => q.name == w[i]) (l := ps)
      have hinp : inb (pointIx ps w[i]) ps.length = true := by
        simp only [inb, Bool.and_eq_true, decide_eq_true_eq]
        have : pointIx ps w[i] = idxF (fun q : Point => q.name == w[i]) ps := rfl
        omega
      rw [hinp]
      simp only [ifb_false, ifb_true]
      simp only [Bool.not_false, Bool.true_and] at hr
      have go : (w.take i).getLast? ≠ some w[i] → Sat R_impl_PlanBase_route g_impl_PlanBase_route (.tup [.sl .point (routeP ps w), .bool (routeOk ps w)]) [] (some (.go (todoAt R_impl_PlanBase_route.fn 5) [.sl .str w, .ptr 0 0, .own 1 [] 0, .sl .str w, .int .i64 (w.length : Int), .int .i64 ((i + 1 : Nat) : Int)] [.box [.sl .kind ks, .sl .point ps], .row .point ((w.take i).map (ptOf ps) ++ [ps.getD (pointIx ps w[i]).toNat (R_impl_PlanBase_route.C.dflt .point)]) 0 0 0 .no])) := fun h => by
        have hne : ((w.take i).getLast? == some w[i]) = false := beq_eq_false_iff_ne.2 h
        rw [hne] at hr
        have := ih (i + 1) (by omega) (by rw [hl]; exact hr)
        rw [htk, List.map_append] at this
        exact Sat.cut this
      by_cases h0 : (i : Int) > 0
      · rw [decide_eq_true h0]
        have hi1 : i - 1 < w.length := by omega
        have hx1 : w.getD ((i : Int) - 1).toNat (R_impl_PlanBase_route.C.dflt .str) = w[i - 1] := by
          rw [show ((i : Int) - 1).toNat = i - 1 by omega]; simp [hi1]
        have hl1 : (w.take i).getLast? = some w[i - 1] := by
          have := List.take_succ_eq_append_getElem hi1
          rw [show i - 1 + 1 = i by omega] at this
          rw [this, List.getLast?_concat]
        have hin1 : inb ((i : Int) - 1) w.length = true := by simp only [inb, Bool.and_eq_true, decide_eq_true_eq]; omega
        rw [hin1, hx1]
        simp only [ifb_true]
        rw [hl1] at hr go
        by_cases he : w[i] = w[i - 1]
        · rw [beq_iff_eq.2 he]
          have : ((some w[i - 1] : Option Str) == some w[i]) = true := by rw [he]; simp
          rw [this] at hr
          exact no (by rw [hr]; rfl)
        · rw [beq_eq_false_iff_ne.2 he]
          exact go (fun e => he (Option.some.inj e).symm)
      · rw [decide_eq_false h0]
        have : i = 0 := by omega
        subst this
        exact go (by simp)
theorem c_impl_PlanBase_route (ks : List Kind) (ps : List Point) (w : List Str) (hg : decide (ps.length < 1000000000) = true) : CallOK Tryz.prog CP g_impl_PlanBase_route [.agg [.sl .kind ks, .sl .point ps], .sl .str w] [] (.tup [.sl .point (routeP ps w), .bool (routeOk ps w)]) [] := by
  refine CallOK.of R_impl_PlanBase_route_ok (by kernel_rfl) (t_impl_PlanBase_route ks ps w) ?_
  cases h8 : inR (w.length : Int) 2 8 with
  | false =>
    refine Sat.ret ?_ rfl
    rw [routeP, routeOk, h8]; rfl
  | true =>
    have := l_impl_PlanBase_route ks ps w (of_decide_eq_true hg) h8 w.length 0 (by omega) (by rw [routeOk, h8]; rfl)
    exact Sat.cut this
theorem E_impl_PlanBase_route_ok : EntOK Tryz.prog CP g_impl_PlanBase_route E_impl_PlanBase_route := by
  refine ⟨⟨Tryz.f121, by kernel_rfl, by kernel_rfl, by kernel_rfl⟩, fun args H res H' h => ?_⟩
  simp only [E_impl_PlanBase_route] at h
  split at h
  · simp only [Option.some.injEq, Prod.mk.injEq] at h
    obtain ⟨hg, rfl, rfl⟩ := h
    exact c_impl_PlanBase_route _ _ _ hg
  · cases h

/-- (impl.PlanBase).fits -/
noncomputable def R_impl_PlanBase_fits : RE Ty El := ⟨Tryz.prog, CP, [(g_strings_Split, E_strings_Split), (g_impl_PlanBase_kind, E_impl_PlanBase_kind), (g_impl_decimals, E_impl_decimals), (g_impl_decimal, E_impl_decimal), (g_impl_within, E_impl_within), (g_impl_PlanBase_route, E_impl_PlanBase_route)], Tryz.f172, 0, [], []⟩
theorem R_impl_PlanBase_fits_ok : REOK R_impl_PlanBase_fits g_impl_PlanBase_fits := ⟨CP_ok, (TabOK.cons E_strings_Split_ok (TabOK.cons E_impl_PlanBase_kind_ok (TabOK.cons E_impl_decimals_ok (TabOK.cons E_impl_decimal_ok (TabOK.cons E_impl_within_ok (TabOK.cons E_impl_PlanBase_route_ok EOKnil)))))), by kernel_rfl, by kernel_rfl⟩
theorem t_impl_PlanBase_fits (ks : List Kind) (ps : List Point) (what : Int) (v : Str) : aRun R_impl_PlanBase_fits 600 false (body0 R_impl_PlanBase_fits.fn) (initSt R_impl_PlanBase_fits.fn [.agg [.sl .kind ks, .sl .point ps], .int .i64 what, .str v] []) =
  ifb (szS v) (ifb (what == (1 : Int)) (ifb (decide (ks.length < (1000000000 : Nat))) (some (.ret (.bool (decide (idxF (fun p => p.name == v) ks ≥ (0 : Int)))) [])) (none)) (ifb (what == (2 : Int)) (ifb (decide ((7 : Int) = (7 : Int)) && decide ((cutS (↑(UInt8.toNat (32 : UInt8)) : Int) v).length ≤ (2000000000 : Nat))) (ifb ((cutS (↑(UInt8.toNat (32 : UInt8)) : Int) v).all decB) (ifb ((↑(decsV (cutS (↑(UInt8.toNat (32 : UInt8)) : Int) v)).length : Int) == (2 : Int)) (ifb (inb (0 : Int) (decsV (cutS (↑(UInt8.toNat (32 : UInt8)) : Int) v)).length) (ifb (inb (1 : Int) (decsV (cutS (↑(UInt8.toNat (32 : UInt8)) : Int) v)).length) (ifb (decide ((decsV (cutS (↑(UInt8.toNat (32 : UInt8)) : Int) v)).getD (Int.toNat (0 : Int)) (R_impl_PlanBase_fits.C.dflt Ty.int) ≤ (decsV (cutS (↑(UInt8.toNat (32 : UInt8)) : Int) v)).getD (Int.toNat (1 : Int)) (R_impl_PlanBase_fits.C.dflt Ty.int))) (ifb (inb (1 : Int) (decsV (cutS (↑(UInt8.toNat (32 : UInt8)) : Int) v)).length) (some (.ret (.bool (decide ((decsV (cutS (↑(UInt8.toNat (32 : UInt8)) : Int) v)).getD (Int.toNat (1 : Int)) (R_impl_PlanBase_fits.C.dflt Ty.int) ≤ (10000 : Int)))) [])) (none)) (some (.ret (.bool false) []))) (none)) (none)) (some (.ret (.bool false) []))) (some (.ret (.bool false) []))) (none)) (ifb (what == (3 : Int)) (ifb (decB v) (some (.ret (.bool (inR (decV v) (1 : Int) (6 : Int))) [])) (some (.ret (.bool false) []))) (ifb (what == (4 : Int)) (ifb (decide (ps.length < (1000000000 : Nat))) (some (.ret (.bool (routeOk ps (cutS (↑(UInt8.toNat (32 : UInt8)) : Int) v))) [])) (none)) (ifb (what == (5 : Int)) (ifb (v == #[(111 : UInt8), (112 : UInt8), (101 : UInt8), (110 : UInt8)].toList) (some (.ret (.bool true) [])) (some (.ret (.bool (v == #[(99 : UInt8), (108 : UInt8), (111 : UInt8), (115 : UInt8), (101 : UInt8), (100 : UInt8)].toList)) []))) (some (.ret (.bool false) []))))))) (none) := by kernel_rfl
theorem timeLaw {R : RE Ty El} {f : FuncId} (w : List Str) : Sat R f (.bool (timeOk w)) [] (ifb ((decide ((7 : Int) = (7 : Int)) && true)) (ifb (w.all decB) (ifb ((↑(decsV w).length : Int) == (2 : Int)) (ifb (inb (0 : Int) (decsV w).length) (ifb (inb (1 : Int) (decsV w).length) (ifb (decide ((decsV w).getD (Int.toNat (0 : Int)) (CP.dflt Ty.int) ≤ (decsV w).getD (Int.toNat (1 : Int)) (CP.dflt Ty.int))) (ifb (inb (1 : Int) (decsV w).length) (some (.ret (.bool (decide ((decsV w).getD (Int.toNat (1 : Int)) (CP.dflt Ty.int) ≤ (10000 : Int)))) [])) (none)) (some (.ret (.bool false) []))) (none)) (none)) (some (.ret (.bool false) []))) (some (.ret (.bool false) []))) (none)) := by
  rw [show decide ((7 : Int) = 7) = true from rfl]
  simp only [Bool.and_self, ifb_true]
  cases ha : w.all decB with
  | false =>
    refine Sat.retB ?_ rfl
    match w with
    | [] => rfl
    | [a] => rfl
    | [a, b] =>
      simp only [timeOk]
      simp only [List.all_cons, List.all_nil, Bool.and_true, decB] at ha
      by_cases h1 : 0 ≤ numF a
      · rw [decide_eq_true h1] at ha ⊢
        have h2 : ¬ 0 ≤ numF b := of_decide_eq_false (by simpa using ha)
        have : inR (numF b) (numF a) 10000 = false := by unfold inR; rw [decide_eq_false (by omega)]; rfl
        rw [this]; rfl
      · rw [decide_eq_false h1]; rfl
    | a :: b :: c :: t => rfl
  | true =>
    have hd : decsV w = w.map decV := by unfold decsV; rw [if_pos ha]
    rw [hd]
    match w with
    | [] => exact Sat.retB rfl rfl
    | [a] => exact Sat.retB rfl rfl
    | [a, b] =>
      simp only [List.all_cons, List.all_nil, Bool.and_true, Bool.and_eq_true, decB, decide_eq_true_eq] at ha
      have e1 : decV a = numF a := by unfold decV; omega
      have e2 : decV b = numF b := by unfold decV; omega
      show Sat R f _ _ (ifb (decide (decV a ≤ decV b)) (some (.ret (.bool (decide (decV b ≤ 10000))) [])) (some (.ret (.bool false) [])))
      rw [e1, e2]
      simp only [timeOk, inR]
      rw [decide_eq_true ha.1]
      by_cases h : numF a ≤ numF b
      · rw [decide_eq_true h]
        exact Sat.retB rfl rfl
      · rw [decide_eq_false h]
        exact Sat.retB rfl rfl
    | a :: b :: c :: t =>
      have : (((List.map decV (a :: b :: c :: t)).length : Int) == 2) = false := by
        apply beq_eq_false_iff_ne.2
        simp; omega
      rw [this]
      exact Sat.retB rfl rfl
theorem c_impl_PlanBase_fits (ks : List Kind) (ps : List Point) (what : Int) (v : Str) (hg : (szV v && (decide (ks.length < 1000000000) && decide (ps.length < 1000000000))) = true) : CallOK Tryz.prog CP g_impl_PlanBase_fits [.agg [.sl .kind ks, .sl .point ps], .int .i64 what, .str v] [] (.bool (fitsV ks ps what v)) [] := by
  refine CallOK.of R_impl_PlanBase_fits_ok (by kernel_rfl) (t_impl_PlanBase_fits ks ps what v) ?_
  simp only [Bool.and_eq_true, decide_eq_true_eq] at hg
  obtain ⟨hv, hks, hps⟩ := hg
  have hs : szS v = true := hv
  have hcl : (cutS ((UInt8.toNat 32 : Nat) : Int) v).length ≤ 2000000000 := by
    have := cutS_len ((UInt8.toNat 32 : Nat) : Int) v
    have hv' : v.length ≤ 1000000000 := of_decide_eq_true hv
    omega
  rw [hs, decide_eq_true hks, decide_eq_true hps, ifb_true]
  unfold fitsV
  by_cases h1 : what = 1
  · subst h1; exact Sat.retB rfl rfl
  rw [beq_eq_false_iff_ne.2 h1, if_neg h1, ifb_false]
  by_cases h2 : what = 2
  · subst h2
    rw [if_pos rfl, decide_eq_true hcl, show ((2 : Int) == 2) = true from rfl, ifb_true]
    exact timeLaw (cutS 32 v)
  rw [beq_eq_false_iff_ne.2 h2, if_neg h2, ifb_false]
  by_cases h3 : what = 3
  · subst h3
    rw [if_pos rfl, show ((3 : Int) == 3) = true from rfl, ifb_true]
    by_cases hn : 0 ≤ numF v
    · have e1 : decB v = true := decide_eq_true hn
      have e2 : decV v = numF v := by unfold decV; omega
      rw [e1, e2]; exact Sat.retB rfl rfl
    · have e1 : decB v = false := decide_eq_false hn
      rw [e1]
      refine Sat.retB ?_ rfl
      have : inR (numF v) 1 6 = false := by unfold inR; rw [decide_eq_false (by omega)]; rfl
      rw [this]
  rw [beq_eq_false_iff_ne.2 h3, if_neg h3, ifb_false]
  by_cases h4 : what = 4
  · subst h4; exact Sat.retB rfl rfl
  rw [beq_eq_false_iff_ne.2 h4, if_neg h4, ifb_false]
  by_cases h5 : what = 5
  · subst h5
    rw [if_pos rfl, show ((5 : Int) == 5) = true from rfl, ifb_true]
    have eo : (#[(111 : UInt8), 112, 101, 110].toList) = wOpen := rfl
    have ec : (#[(99 : UInt8), 108, 111, 115, 101, 100].toList) = wClosed := rfl
    rw [eo, ec]
    cases ho : (v == wOpen) with
    | true => exact Sat.retB rfl rfl
    | false => exact Sat.retB rfl rfl
  rw [beq_eq_false_iff_ne.2 h5, if_neg h5]
  exact Sat.retB rfl rfl
theorem E_impl_PlanBase_fits_ok : EntOK Tryz.prog CP g_impl_PlanBase_fits E_impl_PlanBase_fits := by
  refine ⟨⟨Tryz.f172, by kernel_rfl, by kernel_rfl, by kernel_rfl⟩, fun args H res H' h => ?_⟩
  simp only [E_impl_PlanBase_fits] at h
  split at h
  · simp only [Option.some.injEq, Prod.mk.injEq] at h
    obtain ⟨hg, rfl, rfl⟩ := h
    exact c_impl_PlanBase_fits _ _ _ _ hg
  · cases h

/-- (impl.PlanBase).change -/
noncomputable def R_impl_PlanBase_change : RE Ty El := ⟨Tryz.prog, CP, [(g_impl_isName, E_impl_isName), (g_impl_within, E_impl_within), (g_impl_PlanBase_fits, E_impl_PlanBase_fits)], Tryz.f93, 0, [], []⟩
theorem R_impl_PlanBase_change_ok : REOK R_impl_PlanBase_change g_impl_PlanBase_change := ⟨CP_ok, (TabOK.cons E_impl_isName_ok (TabOK.cons E_impl_within_ok (TabOK.cons E_impl_PlanBase_fits_ok EOKnil))), by kernel_rfl, by kernel_rfl⟩
theorem t_impl_PlanBase_change (ks : List Kind) (ps : List Point) (fl : Str) (what num : Int) (v : Str) : aRun R_impl_PlanBase_change 600 false (body0 R_impl_PlanBase_change.fn) (initSt R_impl_PlanBase_change.fn [.agg [.sl .kind ks, .sl .point ps], .agg [.str fl, .int .i64 what, .int .i64 num, .str v]] []) =
  ifb (nameOk fl) (ifb (inR num (1 : Int) (1000000 : Int)) (ifb (szV v && (decide (ks.length < (1000000000 : Nat)) && decide (ps.length < (1000000000 : Nat)))) (some (.ret (.bool (fitsV ks ps what v)) [])) (none)) (some (.ret (.bool false) []))) (some (.ret (.bool false) [])) := by kernel_rfl
theorem c_impl_PlanBase_change (ks : List Kind) (ps : List Point) (fl : Str) (what num : Int) (v : Str) (hg : (szV v && (decide (ks.length < 1000000000) && decide (ps.length < 1000000000))) = true) : CallOK Tryz.prog CP g_impl_PlanBase_change [.agg [.sl .kind ks, .sl .point ps], .agg [.str fl, .int .i64 what, .int .i64 num, .str v]] [] (.bool (changeV ks ps fl what num v)) [] := by
  refine CallOK.of R_impl_PlanBase_change_ok (by kernel_rfl) (t_impl_PlanBase_change ks ps fl what num v) ?_
  rw [hg]
  unfold changeV
  cases nameOk fl with
  | false => exact Sat.retB rfl rfl
  | true =>
    cases inR num 1 1000000 with
    | false => exact Sat.retB rfl rfl
    | true => exact Sat.retB rfl rfl
theorem E_impl_PlanBase_change_ok : EntOK Tryz.prog CP g_impl_PlanBase_change E_impl_PlanBase_change := by
  refine ⟨⟨Tryz.f93, by kernel_rfl, by kernel_rfl, by kernel_rfl⟩, fun args H res H' h => ?_⟩
  simp only [E_impl_PlanBase_change] at h
  split at h
  · simp only [Option.some.injEq, Prod.mk.injEq] at h
    obtain ⟨hg, rfl, rfl⟩ := h
    exact c_impl_PlanBase_change _ _ _ _ _ _ hg
  · cases h

/-- impl.PlanChangeOk -/
noncomputable def R_impl_PlanChangeOk : RE Ty El := ⟨Tryz.prog, CP, [(g_impl_PlanBaseOk, E_impl_PlanBaseOk), (g_impl_PlanBase_change, E_impl_PlanBase_change)], Tryz.f23, 0, [], []⟩
theorem R_impl_PlanChangeOk_ok : REOK R_impl_PlanChangeOk g_impl_PlanChangeOk := ⟨CP_ok, (TabOK.cons E_impl_PlanBaseOk_ok (TabOK.cons E_impl_PlanBase_change_ok EOKnil)), by kernel_rfl, by kernel_rfl⟩
theorem t_impl_PlanChangeOk (ks : List Kind) (ps : List Point) (fl : Str) (what num : Int) (v : Str) : aRun R_impl_PlanChangeOk 600 false (body0 R_impl_PlanChangeOk.fn) (initSt R_impl_PlanChangeOk.fn [.agg [.sl .kind ks, .sl .point ps], .agg [.str fl, .int .i64 what, .int .i64 num, .str v]] []) =
  ifb (baseOk ks ps) (ifb (szV v && (decide (ks.length < (1000000000 : Nat)) && decide (ps.length < (1000000000 : Nat)))) (some (.ret (.bool (changeV ks ps fl what num v)) [])) (none)) (some (.ret (.bool false) [])) := by kernel_rfl
theorem c_impl_PlanChangeOk (ks : List Kind) (ps : List Point) (fl : Str) (what num : Int) (v : Str) (hg : szV v = true) : CallOK Tryz.prog CP g_impl_PlanChangeOk [.agg [.sl .kind ks, .sl .point ps], .agg [.str fl, .int .i64 what, .int .i64 num, .str v]] [] (.bool (nameOk fl && (inR num 1 1000000 && (baseOk ks ps && fitsV ks ps what v)))) [] := by
  refine CallOK.of R_impl_PlanChangeOk_ok (by kernel_rfl) (t_impl_PlanChangeOk ks ps fl what num v) ?_
  cases hb : baseOk ks ps with
  | false =>
    refine Sat.retB ?_ rfl
    simp
  | true =>
    obtain ⟨hk, hp⟩ := baseOk_len hb
    rw [hg, decide_eq_true (by omega : ks.length < 1000000000), decide_eq_true (by omega : ps.length < 1000000000)]
    exact Sat.retB rfl rfl
theorem E_impl_PlanChangeOk_ok : EntOK Tryz.prog CP g_impl_PlanChangeOk E_impl_PlanChangeOk := by
  refine ⟨⟨Tryz.f23, by kernel_rfl, by kernel_rfl, by kernel_rfl⟩, fun args H res H' h => ?_⟩
  simp only [E_impl_PlanChangeOk, E_spec_PlanChangeOk] at h
  split at h
  · simp only [Option.some.injEq, Prod.mk.injEq] at h
    obtain ⟨hg, rfl, rfl⟩ := h
    exact c_impl_PlanChangeOk _ _ _ _ _ _ hg
  · cases h

/-- impl.PlanBookOk -/
noncomputable def R_impl_PlanBookOk : RE Ty El := ⟨Tryz.prog, CP, [(g_impl_PlanBaseOk, E_impl_PlanBaseOk), (g_impl_PlanBase_change, E_impl_PlanBase_change)], Tryz.f48, 0, [], [(4, [(1, .any), (18, .any), (19, .any), (20, .any)]), (9, [(1, .any), (4, .any), (18, .any), (19, .any), (20, .any), (46, .any), (47, .any), (48, .any)])]⟩
theorem R_impl_PlanBookOk_ok : REOK R_impl_PlanBookOk g_impl_PlanBookOk := ⟨CP_ok, (TabOK.cons E_impl_PlanBaseOk_ok (TabOK.cons E_impl_PlanBase_change_ok EOKnil)), by kernel_rfl, by kernel_rfl⟩
theorem t_impl_PlanBookOk (ks : List Kind) (ps : List Point) (es : List Entry) : aRun R_impl_PlanBookOk 600 false (body0 R_impl_PlanBookOk.fn) (initSt R_impl_PlanBookOk.fn [.agg [.sl .kind ks, .sl .point ps, .sl .entry es]] []) =
  ifb (!baseOk ks ps) (some (.ret (.bool false) [])) (ifb (decide ((↑es.length : Int) > (12 : Int))) (some (.ret (.bool false) [])) (some (.go (todoAt R_impl_PlanBookOk.fn 4) [.ptr 0 0, .sl .entry es, .int .i64 (↑es.length : Int), .int .i64 (0 : Int)] [.box [.sl .kind ks, .sl .point ps, .sl .entry es]]))) := by kernel_rfl
theorem t_impl_PlanBookOk_4 (x0 : List (El .entry)) (x1 : Int) (x2 : Int) (x3 : List (El .kind)) (x4 : List (El .point)) (x5 : List (El .entry)) : aRun R_impl_PlanBookOk 600 true (todoAt R_impl_PlanBookOk.fn 4) (cutSt R_impl_PlanBookOk.fn (liveOf R_impl_PlanBookOk (todoAt R_impl_PlanBookOk.fn 4)) [.ptr 0 0, .sl .entry x0, .int .i64 x1, .int .i64 x2] [.box [.sl .kind x3, .sl .point x4, .sl .entry x5]]) =
  ifb (decide (x2 < x1)) (ifb (inb x2 x0.length) (ifb ((↑(x0.getD x2.toNat (R_impl_PlanBookOk.C.dflt Ty.entry)).fields.length : Int) == (0 : Int)) (some (.ret (.bool false) [])) (ifb (decide (x2 > (0 : Int))) (ifb (inb (IntKind.i64.wrap (x2 - (1 : Int))) x5.length) (ifb (bytesLt (x0.getD x2.toNat (R_impl_PlanBookOk.C.dflt Ty.entry)).name (x5.getD (IntKind.i64.wrap (x2 - (1 : Int))).toNat (R_impl_PlanBookOk.C.dflt Ty.entry)).name || (x0.getD x2.toNat (R_impl_PlanBookOk.C.dflt Ty.entry)).name == (x5.getD (IntKind.i64.wrap (x2 - (1 : Int))).toNat (R_impl_PlanBookOk.C.dflt Ty.entry)).name) (some (.ret (.bool false) [])) (some (.go (todoAt R_impl_PlanBookOk.fn 9) [.ptr 0 0, .ptr 1 0, .sl .entry x0, .int .i64 x1, .int .i64 x2, .sl .fld ((x0.getD x2.toNat (R_impl_PlanBookOk.C.dflt Ty.entry)).fields), .int .i64 ((↑(x0.getD x2.toNat (R_impl_PlanBookOk.C.dflt Ty.entry)).fields.length : Int)), .int .i64 (0 : Int)] [.box [.sl .kind x3, .sl .point x4, .sl .entry x5], .box [.str ((x0.getD x2.toNat (R_impl_PlanBookOk.C.dflt Ty.entry)).name), .sl .fld ((x0.getD x2.toNat (R_impl_PlanBookOk.C.dflt Ty.entry)).fields)]]))) (none)) (some (.go (todoAt R_impl_PlanBookOk.fn 9) [.ptr 0 0, .ptr 1 0, .sl .entry x0, .int .i64 x1, .int .i64 x2, .sl .fld ((x0.getD x2.toNat (R_impl_PlanBookOk.C.dflt Ty.entry)).fields), .int .i64 ((↑(x0.getD x2.toNat (R_impl_PlanBookOk.C.dflt Ty.entry)).fields.length : Int)), .int .i64 (0 : Int)] [.box [.sl .kind x3, .sl .point x4, .sl .entry x5], .box [.str ((x0.getD x2.toNat (R_impl_PlanBookOk.C.dflt Ty.entry)).name), .sl .fld ((x0.getD x2.toNat (R_impl_PlanBookOk.C.dflt Ty.entry)).fields)]])))) (none)) (some (.ret (.bool true) [])) := by kernel_rfl
theorem t_impl_PlanBookOk_9 (x0 : List (El .entry)) (x1 : Int) (x2 : Int) (x3 : List (El .fld)) (x4 : Int) (x5 : Int) (x6 : List (El .kind)) (x7 : List (El .point)) (x8 : List (El .entry)) (x9 : Str) (x10 : List (El .fld)) : aRun R_impl_PlanBookOk 600 true (todoAt R_impl_PlanBookOk.fn 9) (cutSt R_impl_PlanBookOk.fn (liveOf R_impl_PlanBookOk (todoAt R_impl_PlanBookOk.fn 9)) [.ptr 0 0, .ptr 1 0, .sl .entry x0, .int .i64 x1, .int .i64 x2, .sl .fld x3, .int .i64 x4, .int .i64 x5] [.box [.sl .kind x6, .sl .point x7, .sl .entry x8], .box [.str x9, .sl .fld x10]]) =
  ifb (decide (x5 < x4)) (ifb (inb x5 x3.length) (ifb (szV (x3.getD x5.toNat (R_impl_PlanBookOk.C.dflt Ty.fld)).value && (decide (x6.length < (1000000000 : Nat)) && decide (x7.length < (1000000000 : Nat)))) (ifb (!changeV x6 x7 x9 (x3.getD x5.toNat (R_impl_PlanBookOk.C.dflt Ty.fld)).what (x3.getD x5.toNat (R_impl_PlanBookOk.C.dflt Ty.fld)).number (x3.getD x5.toNat (R_impl_PlanBookOk.C.dflt Ty.fld)).value) (some (.ret (.bool false) [])) (ifb (decide (x5 > (0 : Int))) (ifb (inb (IntKind.i64.wrap (x5 - (1 : Int))) x10.length) (ifb (decide ((x3.getD x5.toNat (R_impl_PlanBookOk.C.dflt Ty.fld)).what ≤ (x10.getD (IntKind.i64.wrap (x5 - (1 : Int))).toNat (R_impl_PlanBookOk.C.dflt Ty.fld)).what)) (some (.ret (.bool false) [])) (some (.go (todoAt R_impl_PlanBookOk.fn 9) [.ptr 0 0, .ptr 1 0, .sl .entry x0, .int .i64 x1, .int .i64 x2, .sl .fld x3, .int .i64 x4, .int .i64 (IntKind.i64.wrap (x5 + (1 : Int)))] [.box [.sl .kind x6, .sl .point x7, .sl .entry x8], .box [.str x9, .sl .fld x10]]))) (none)) (some (.go (todoAt R_impl_PlanBookOk.fn 9) [.ptr 0 0, .ptr 1 0, .sl .entry x0, .int .i64 x1, .int .i64 x2, .sl .fld x3, .int .i64 x4, .int .i64 (IntKind.i64.wrap (x5 + (1 : Int)))] [.box [.sl .kind x6, .sl .point x7, .sl .entry x8], .box [.str x9, .sl .fld x10]])))) (none)) (none)) (some (.go (todoAt R_impl_PlanBookOk.fn 4) [.ptr 0 0, .sl .entry x0, .int .i64 x1, .int .i64 (IntKind.i64.wrap (x2 + (1 : Int)))] [.box [.sl .kind x6, .sl .point x7, .sl .entry x8]])) := by kernel_rfl
theorem lf_impl_PlanBookOk (ks : List Kind) (ps : List Point) (es : List Entry) (hb : baseOk ks ps = true) (n : Str) (fs : List Fld) (hfs : fs.length ≤ 1000000000) (hsz : fs.all (fun f => szV f.value) = true) (i : Nat) (hi : i < 1000) (nx : Bool) (h4 : Cut R_impl_PlanBookOk g_impl_PlanBookOk 4 [.ptr 0 0, .sl .entry es, .int .i64 (es.length : Int), .int .i64 ((i + 1 : Nat) : Int)] [.box [.sl .kind ks, .sl .point ps, .sl .entry es]] (.bool nx) []) : ∀ (d k : Nat), k + d = fs.length →
    Cut R_impl_PlanBookOk g_impl_PlanBookOk 9 [.ptr 0 0, .ptr 1 0, .sl .entry es, .int .i64 (es.length : Int), .int .i64 (i : Int), .sl .fld fs, .int .i64 (fs.length : Int), .int .i64 (k : Int)] [.box [.sl .kind ks, .sl .point ps, .sl .entry es], .box [.str n, .sl .fld fs]] (.bool (fieldsGo ks ps n ((fs.take k).getLast?.map (·.what)) (fs.drop k) && nx)) [] := by
  have hwi : IntKind.wrap .i64 ((i : Int) + 1) = ((i + 1 : Nat) : Int) := by rw [wrap_ok] <;> omega
  obtain ⟨hkl, hpl⟩ := baseOk_len hb
  intro d
  induction d with
  | zero =>
    intro k hk
    refine Cut.of R_impl_PlanBookOk_ok rfl (t_impl_PlanBookOk_9 es es.length i fs fs.length k ks ps es n fs) ?_
    rw [decide_eq_false (by omega), List.drop_of_length_le (by omega), hwi]
    exact Sat.cut h4
  | succ d ih =>
    intro k hk
    refine Cut.of R_impl_PlanBookOk_ok rfl (t_impl_PlanBookOk_9 es es.length i fs fs.length k ks ps es n fs) ?_
    have hlt : k < fs.length := by omega
    have hw : IntKind.wrap .i64 ((k : Int) + 1) = ((k + 1 : Nat) : Int) := by rw [wrap_ok] <;> omega
    have hw1 : IntKind.wrap .i64 ((k : Int) - 1) = (k : Int) - 1 := by rw [wrap_ok] <;> omega
    have hd : fs.drop k = fs[k] :: fs.drop (k + 1) := List.drop_eq_getElem_cons hlt
    have hx : fs.getD (k : Int).toNat (R_impl_PlanBookOk.C.dflt .fld) = fs[k] := by simp [hlt]
    have hin : inb (k : Int) fs.length = true := by simp only [inb, Bool.and_eq_true, decide_eq_true_eq]; omega
    have hlo : decide ((k : Int) < (fs.length : Int)) = true := decide_eq_true (by omega)
    have htk := List.take_succ_eq_append_getElem hlt
    have hl : (fs.take (k + 1)).getLast? = some fs[k] := by rw [List.take_succ_eq_append_getElem hlt, List.getLast?_concat]
    have hv : szV fs[k].value = true := List.all_eq_true.1 hsz _ (List.getElem_mem hlt)
    have ih' := ih (k + 1) (by omega)
    rw [hl, Option.map_some] at ih'
    rw [hlo, hin, hx, hv, hw, hw1, hd, fieldsGo_cons, decide_eq_true (by omega : ks.length < 1000000000), decide_eq_true (by omega : ps.length < 1000000000)]
    simp only [ifb_true, Bool.and_self]
    cases hc : changeV ks ps n fs[k].what fs[k].number fs[k].value with
    | false => exact Sat.retB rfl rfl
    | true =>
      simp only [Bool.not_true, ifb_false, Bool.true_and]
      by_cases h0 : (k : Int) > 0
      · rw [decide_eq_true h0]
        have hi1 : k - 1 < fs.length := by omega
        have hx1 : fs.getD ((k : Int) - 1).toNat (R_impl_PlanBookOk.C.dflt .fld) = fs[k - 1] := by
          rw [show ((k : Int) - 1).toNat = k - 1 by omega]; simp [hi1]
        have hl1 : (fs.take k).getLast? = some fs[k - 1] := by
          have := List.take_succ_eq_append_getElem hi1
          rw [show k - 1 + 1 = k by omega] at this
          rw [this, List.getLast?_concat]
        have hin1 : inb ((k : Int) - 1) fs.length = true := by simp only [inb, Bool.and_eq_true, decide_eq_true_eq]; omega
        rw [hin1, hx1, hl1]
        simp only [ifb_true, Option.map_some]
        by_cases hq : fs[k - 1].what < fs[k].what
        · rw [decide_eq_true hq, decide_eq_false (by omega)]
          exact Sat.cut ih'
        · rw [decide_eq_false hq, decide_eq_true (by omega)]
          exact Sat.retB rfl rfl
      · rw [decide_eq_false h0]
        have : k = 0 := by omega
        subst this
        exact Sat.cut ih'
theorem le_impl_PlanBookOk (ks : List Kind) (ps : List Point) (es : List Entry) (hb : baseOk ks ps = true) (h12 : es.length ≤ 12) (hsz : es.all szE = true) : ∀ (d i : Nat), i + d = es.length →
    Cut R_impl_PlanBookOk g_impl_PlanBookOk 4 [.ptr 0 0, .sl .entry es, .int .i64 (es.length : Int), .int .i64 (i : Int)] [.box [.sl .kind ks, .sl .point ps, .sl .entry es]] (.bool (entriesGo ks ps ((es.take i).getLast?.map (·.name)) (es.drop i))) [] := by
  intro d
  induction d with
  | zero =>
    intro i hi
    refine Cut.of R_impl_PlanBookOk_ok rfl (t_impl_PlanBookOk_4 es es.length i ks ps es) ?_
    rw [decide_eq_false (by omega), List.drop_of_length_le (by omega)]
    exact Sat.retB rfl rfl
  | succ d ih =>
    intro i hi
    refine Cut.of R_impl_PlanBookOk_ok rfl (t_impl_PlanBookOk_4 es es.length i ks ps es) ?_
    have hlt : i < es.length := by omega
    have hw : IntKind.wrap .i64 ((i : Int) + 1) = ((i + 1 : Nat) : Int) := by rw [wrap_ok] <;> omega
    have hw1 : IntKind.wrap .i64 ((i : Int) - 1) = (i : Int) - 1 := by rw [wrap_ok] <;> omega
    have hd : es.drop i = es[i] :: es.drop (i + 1) := List.drop_eq_getElem_cons hlt
    have hx : es.getD (i : Int).toNat (R_impl_PlanBookOk.C.dflt .entry) = es[i] := by simp [hlt]
    have hin : inb (i : Int) es.length = true := by simp only [inb, Bool.and_eq_true, decide_eq_true_eq]; omega
    have hlo : decide ((i : Int) < (es.length : Int)) = true := decide_eq_true (by omega)
    have htk := List.take_succ_eq_append_getElem hlt
    have hl : (es.take (i + 1)).getLast? = some es[i] := by rw [List.take_succ_eq_append_getElem hlt, List.getLast?_concat]
    have hz := List.all_eq_true.1 hsz _ (List.getElem_mem hlt)
    simp only [szE, Bool.and_eq_true, decide_eq_true_eq] at hz
    have ih' := ih (i + 1) (by omega)
    rw [hl, Option.map_some] at ih'
    have inner := lf_impl_PlanBookOk ks ps es hb es[i].name es[i].fields hz.1 hz.2 i (by omega) _ ih' es[i].fields.length 0 (by omega)
    rw [List.drop_zero] at inner
    rw [hlo, hin, hx, hw1, hd, entriesGo]
    simp only [ifb_true]
    by_cases hf0 : es[i].fields.length = 0
    · have e1 : ((es[i].fields.length : Int) == 0) = true := by simp [hf0]
      rw [e1]
      refine Sat.retB ?_ rfl
      simp [entryOk, hf0]
    · have e1 : ((es[i].fields.length : Int) == 0) = false := by simp; intro e; exact hf0 (by rw [e]; rfl)
      rw [e1, entryOk_ne hf0]
      simp only [ifb_false]
      by_cases h0 : (i : Int) > 0
      · rw [decide_eq_true h0]
        have hi1 : i - 1 < es.length := by omega
        have hx1 : es.getD ((i : Int) - 1).toNat (R_impl_PlanBookOk.C.dflt .entry) = es[i - 1] := by
          rw [show ((i : Int) - 1).toNat = i - 1 by omega]; simp [hi1]
        have hl1 : (es.take i).getLast? = some es[i - 1] := by
          have := List.take_succ_eq_append_getElem hi1
          rw [show i - 1 + 1 = i by omega] at this
          rw [this, List.getLast?_concat]
        have hin1 : inb ((i : Int) - 1) es.length = true := by simp only [inb, Bool.and_eq_true, decide_eq_true_eq]; omega
        rw [hin1, hx1, hl1, le_lt]
        simp only [ifb_true, Option.map_some, afterB]
        cases hq : bytesLt es[i - 1].name es[i].name with
        | false =>
          refine Sat.retB ?_ rfl
          simp
        | true =>
          simp only [Bool.not_true, ifb_false, Bool.true_and]
          exact Sat.cut inner
      · rw [decide_eq_false h0]
        have : i = 0 := by omega
        subst this
        exact Sat.cut inner
theorem c_impl_PlanBookOk (ks : List Kind) (ps : List Point) (es : List Entry) (hg : szB es = true) : CallOK Tryz.prog CP g_impl_PlanBookOk [.agg [.sl .kind ks, .sl .point ps, .sl .entry es]] [] (.bool (bookOk ks ps es)) [] := by
  refine CallOK.of R_impl_PlanBookOk_ok (by kernel_rfl) (t_impl_PlanBookOk ks ps es) ?_
  simp only [szB, Bool.and_eq_true, decide_eq_true_eq] at hg
  cases hb : baseOk ks ps with
  | false =>
    refine Sat.retB ?_ rfl
    simp [bookOk, hb]
  | true =>
    simp only [Bool.not_true, ifb_false]
    by_cases h12 : es.length ≤ 12
    · rw [decide_eq_false (by omega)]
      have := le_impl_PlanBookOk ks ps es hb h12 hg.2 es.length 0 (by omega)
      rw [show bookOk ks ps es = entriesGo ks ps ((es.take 0).getLast?.map (·.name)) (es.drop 0) by simp [bookOk, hb, h12]]
      exact Sat.cut this
    · rw [decide_eq_true (by omega)]
      refine Sat.retB ?_ rfl
      simp [bookOk, h12]
theorem E_impl_PlanBookOk_ok : EntOK Tryz.prog CP g_impl_PlanBookOk E_impl_PlanBookOk := by
  refine ⟨⟨Tryz.f48, by kernel_rfl, by kernel_rfl, by kernel_rfl⟩, fun args H res H' h => ?_⟩
  simp only [E_impl_PlanBookOk, E_spec_PlanBookOk] at h
  split at h
  · simp only [Option.some.injEq, Prod.mk.injEq] at h
    obtain ⟨hg, rfl, rfl⟩ := h
    exact c_impl_PlanBookOk _ _ _ hg
  · cases h
end Lx
/- Meanings: who stands. -/
set_option linter.unusedVariables false
set_option linter.unusedSimpArgs false
namespace Lx
open Go Go.Proofs
def stE (ks : List Kind) (e : Entry) : Option Flight :=
  if valF e.fields 1 = [] ∨ valF e.fields 2 = [] ∨ valF e.fields 3 = [] ∨ valF e.fields 4 = [] then none
  else if valF e.fields 5 = wClosed then none
  else some ⟨e.name, ks.getD (kindIx ks (valF e.fields 1)).toNat (dfltP .kind), numF ((cutS 32 (valF e.fields 2)).getD 0 []), numF ((cutS 32 (valF e.fields 2)).getD 1 []), numF (valF e.fields 3), cutS 32 (valF e.fields 4)⟩
def fl0 : Flight := ⟨[], ⟨[], 0, 0⟩, 0, 0, 0, []⟩
def flV (o : Option Flight) : V := .tup [.agg (rowP .flight (o.getD fl0)), .bool o.isSome]
def entIx (es : List Entry) (n : Str) : Int := idxF (fun e => e.name == n) es
def stB (ks : List Kind) (ps : List Point) (es : List Entry) (n : Str) : Option Flight := if bookOk ks ps es = true ∧ 0 ≤ entIx es n then stE ks (es.getD (entIx es n).toNat (dfltP .entry)) else none
theorem fits_all {ks : List Kind} {ps : List Point} {n : Str} : ∀ {fs : List Fld} {prev : Option Int}, fieldsGo ks ps n prev fs = true → ∀ f ∈ fs, fitsV ks ps f.what f.value = true
  | [], _, _, f, hf => by simp at hf
  | g :: fs, prev, h, f, hf => by
    rw [fieldsGo_cons] at h
    simp only [Bool.and_eq_true, changeV] at h
    simp only [List.mem_cons] at hf
    rcases hf with rfl | hf
    · exact h.1.2.2
    · exact fits_all h.2.2 f hf
theorem val_cases (fs : List Fld) (w : Int) : valF fs w = [] ∨ ∃ f ∈ fs, f.what = w ∧ valF fs w = f.value := by
  unfold valF
  cases h : fs.find? (fun f => f.what == w) with
  | none => exact .inl rfl
  | some f => exact .inr ⟨f, List.mem_of_find?_eq_some h, by simpa using List.find?_some h, rfl⟩
theorem val_fits {ks : List Kind} {ps : List Point} {e : Entry} (h : entryOk ks ps e = true) {w : Int} (hv : valF e.fields w ≠ []) : fitsV ks ps w (valF e.fields w) = true := by
  rcases val_cases e.fields w with h1 | ⟨f, hf, hw, h1⟩
  · exact absurd h1 hv
  · simp only [entryOk, Bool.and_eq_true] at h
    have := fits_all h.2.2 f hf
    rw [h1, ← hw]; exact this
theorem val_sz {e : Entry} (h : szE e = true) (w : Int) : (valF e.fields w).length ≤ 1000000000 := by
  rcases val_cases e.fields w with h1 | ⟨f, hf, hw, h1⟩
  · rw [h1]; simp
  · simp only [szE, Bool.and_eq_true] at h
    have := List.all_eq_true.1 h.2 f hf
    rw [h1]; exact of_decide_eq_true this
theorem fits1 {ks : List Kind} {ps : List Point} {v : Str} (h : fitsV ks ps 1 v = true) : 0 ≤ kindIx ks v := by
  simp only [fitsV, if_true] at h; exact of_decide_eq_true h
theorem time_len {w : List Str} (h : timeOk w = true) : w.length = 2 := by
  match w with
  | [] => cases h
  | [a] => cases h
  | [a, b] => rfl
  | a :: b :: c :: t => cases h
theorem fits2 {ks : List Kind} {ps : List Point} {v : Str} (h : fitsV ks ps 2 v = true) : timeOk (cutS 32 v) = true := by
  simpa [fitsV] using h
theorem kind_in {ks : List Kind} {v : Str} (h : 0 ≤ kindIx ks v) : inb (kindIx ks v) ks.length = true := by
  have h2 := idxF_lt (p := fun k : Kind => k.name == v) (l := ks)
  have h3 : kindIx ks v = idxF (fun k : Kind => k.name == v) ks := rfl
  simp only [inb, Bool.and_eq_true, decide_eq_true_eq]; omega
theorem ent_in {es : List Entry} {n : Str} (h : 0 ≤ entIx es n) : inb (entIx es n) es.length = true := by
  have h2 := idxF_lt (p := fun k : Entry => k.name == n) (l := es)
  have h3 : entIx es n = idxF (fun k : Entry => k.name == n) es := rfl
  simp only [inb, Bool.and_eq_true, decide_eq_true_eq]; omega
theorem ents_all {ks : List Kind} {ps : List Point} : ∀ {es : List Entry} {prev : Option Str}, entriesGo ks ps prev es = true → ∀ e ∈ es, entryOk ks ps e = true
  | [], _, _, e, he => by simp at he
  | a :: es, prev, h, e, he => by
    rw [entriesGo] at h
    simp only [Bool.and_eq_true] at h
    simp only [List.mem_cons] at he
    rcases he with rfl | he
    · exact h.1
    · exact ents_all h.2.2 e he
theorem book_ents {ks : List Kind} {ps : List Point} {es : List Entry} (h : bookOk ks ps es = true) : baseOk ks ps = true ∧ es.length ≤ 12 ∧ ∀ e ∈ es, entryOk ks ps e = true := by
  simp only [bookOk, Bool.and_eq_true, decide_eq_true_eq] at h
  exact ⟨h.1, h.2.1, ents_all h.2.2⟩
theorem ent_mem {es : List Entry} {n : Str} (h : 0 ≤ entIx es n) : es.getD (entIx es n).toNat (dfltP .entry) ∈ es := by
  have h2 := idxF_lt (p := fun k : Entry => k.name == n) (l := es)
  have h3 : entIx es n = idxF (fun k : Entry => k.name == n) es := rfl
  have hlt : (entIx es n).toNat < es.length := by omega
  rw [List.getD_eq_getElem?_getD, List.getElem?_eq_getElem hlt]
  exact List.getElem_mem hlt
theorem idx_find {α : Type} (p : α → Bool) (d : α) : ∀ (l : List α), (idxF p l < 0 ∧ l.find? p = none) ∨ (0 ≤ idxF p l ∧ l.find? p = some (l.getD (idxF p l).toNat d))
  | [] => .inl ⟨by show (-1 : Int) < 0; decide, rfl⟩
  | a :: l => by
    by_cases ha : p a = true
    · have : idxF p (a :: l) = 0 := idxF_at (i := 0) rfl ha (fun k hk => by omega)
      rw [this, List.find?_cons_of_pos ha]
      exact .inr ⟨by omega, rfl⟩
    · rw [List.find?_cons_of_neg ha]
      have hs : idxF p (a :: l) = if idxF p l < 0 then -1 else idxF p l + 1 := by
        have hf : p a = false := by simpa using ha
        unfold idxF
        rw [List.findIdx?_cons, hf]
        cases l.findIdx? p with
        | none => rfl
        | some i =>
          have : ¬ ((i : Int) < 0) := by omega
          simp [this]
      rcases idx_find p d l with ⟨h1, h2⟩ | ⟨h1, h2⟩
      · rw [hs, if_pos h1]; exact .inl ⟨by decide, h2⟩
      · rw [hs, if_neg (by omega)]
        refine .inr ⟨by omega, ?_⟩
        rw [h2]
        have : (idxF p l + 1).toNat = (idxF p l).toNat + 1 := by omega
        rw [this]; rfl

def E_spec_l16Stands : Ent Ty El := ⟨[.ro, .ro], 0, fun a h => match a, h with
  | [.agg [.sl .kind ks, .sl .point ps, .sl .entry es], .agg [.str n, .sl .fld fs]], [] => some (baseOk ks ps && (szE ⟨n, fs⟩ && entryOk ks ps ⟨n, fs⟩), flV (stE ks ⟨n, fs⟩), [])
  | _, _ => none⟩
def E_spec_PlanStands : Ent Ty El := ⟨[.ro, .ro], 0, fun a h => match a, h with
  | [.agg [.sl .kind ks, .sl .point ps, .sl .entry es], .str n], [] => some (szB es && decide (es.length < 1000000000), flV (stB ks ps es n), [])
  | _, _ => none⟩
def E_impl_PlanStands : Ent Ty El := E_spec_PlanStands
def fldF (es : List Entry) (n : Str) (w : Int) : Option Fld := (es.find? fun e => e.name == n).bind fun e => e.fields.find? fun f => f.what == w
def fld0 : Fld := ⟨0, 0, []⟩
def E_impl_PlanBook_field : Ent Ty El := ⟨[.ro, .ro, .ro], 0, fun a h => match a, h with
  | [.agg [.sl .kind ks, .sl .point ps, .sl .entry es], .str n, .int .i64 w], [] => some (decide (es.length < 1000000000) && es.all szE, .tup [.agg (rowP .fld ((fldF es n w).getD fld0)), .bool (fldF es n w).isSome], [])
  | _, _ => none⟩
end Lx
/- Who stands. -/
set_option linter.unusedVariables false
set_option linter.unusedSimpArgs false
set_option maxRecDepth 4000
namespace Lx
open Go Go.Proofs
/-- spec.l16Stands -/
noncomputable def R_spec_l16Stands : RE Ty El := ⟨Tryz.prog, CP, [(g_spec_l16Value, E_spec_l16Value), (g_spec_l12Cut, E_spec_l12Cut), (g_spec_l11Kind, E_spec_l11Kind), (g_spec_l12Number, E_spec_l12Number)], Tryz.f117, 0, [.agg [.any, .any, .any, .any, .any, .any, .any, .ro .str], .any], [(2, [(2, .any), (3, .any), (4, .any), (6, .any)])]⟩
theorem R_spec_l16Stands_ok : REOK R_spec_l16Stands g_spec_l16Stands := ⟨CP_ok, (TabOK.cons E_spec_l16Value_ok (TabOK.cons E_spec_l12Cut_ok (TabOK.cons E_spec_l11Kind_ok (TabOK.cons E_spec_l12Number_ok EOKnil)))), by kernel_rfl, by kernel_rfl⟩
theorem t_spec_l16Stands (ks : List Kind) (ps : List Point) (es : List Entry) (n : Str) (fs : List Fld) : aRun R_spec_l16Stands 600 false (body0 R_spec_l16Stands.fn) (initSt R_spec_l16Stands.fn [.agg [.sl .kind ks, .sl .point ps, .sl .entry es], .agg [.str n, .sl .fld fs]] []) =
  some (.go (todoAt R_spec_l16Stands.fn 2) [.ptr 0 0, .ptr 1 0, .ptr 2 0, .int .i64 (1 : Int)] [.box [.sl .kind ks, .sl .point ps, .sl .entry es], .box [.str n, .sl .fld fs], .box [.str #[].toList, .str #[].toList, .int .i64 (0 : Int), .int .i64 (0 : Int), .int .i64 (0 : Int), .int .i64 (0 : Int), .int .i64 (0 : Int), .nils]]) := by kernel_rfl
theorem t_spec_l16Stands_2 (x0 : Int) (x1 : List (El .kind)) (x2 : List (El .point)) (x3 : List (El .entry)) (x4 : Str) (x5 : List (El .fld)) (x6 : Str) (x7 : Str) (x8 : Int) (x9 : Int) (x10 : Int) (x11 : Int) (x12 : Int) : aRun R_spec_l16Stands 600 true (todoAt R_spec_l16Stands.fn 2) (cutSt R_spec_l16Stands.fn (liveOf R_spec_l16Stands (todoAt R_spec_l16Stands.fn 2)) [.ptr 0 0, .ptr 1 0, .ptr 2 0, .int .i64 x0] [.box [.sl .kind x1, .sl .point x2, .sl .entry x3], .box [.str x4, .sl .fld x5], .box [.str x6, .str x7, .int .i64 x8, .int .i64 x9, .int .i64 x10, .int .i64 x11, .int .i64 x12, .nils]]) =
  ifb (decide (x0 ≤ (4 : Int))) (ifb (decide (x5.length ≤ (1000000000 : Nat))) (ifb (valF x5 x0 == #[].toList) (some (.ret (.tup [.agg [.str #[].toList, .str #[].toList, .int .i64 (0 : Int), .int .i64 (0 : Int), .int .i64 (0 : Int), .int .i64 (0 : Int), .int .i64 (0 : Int), .sl .str []], .bool false]) [])) (some (.go (todoAt R_spec_l16Stands.fn 2) [.ptr 0 0, .ptr 1 0, .ptr 2 0, .int .i64 (IntKind.i64.wrap (x0 + (1 : Int)))] [.box [.sl .kind x1, .sl .point x2, .sl .entry x3], .box [.str x4, .sl .fld x5], .box [.str x6, .str x7, .int .i64 x8, .int .i64 x9, .int .i64 x10, .int .i64 x11, .int .i64 x12, .nils]]))) (none)) (ifb (decide (x5.length ≤ (1000000000 : Nat))) (ifb (valF x5 (5 : Int) == #[(99 : UInt8), (108 : UInt8), (111 : UInt8), (115 : UInt8), (101 : UInt8), (100 : UInt8)].toList) (some (.ret (.tup [.agg [.str #[].toList, .str #[].toList, .int .i64 (0 : Int), .int .i64 (0 : Int), .int .i64 (0 : Int), .int .i64 (0 : Int), .int .i64 (0 : Int), .sl .str []], .bool false]) [])) (ifb (decide (x5.length ≤ (1000000000 : Nat))) (ifb (decide (List.length (valF x5 (2 : Int)) ≤ (1000000000 : Nat))) (ifb (decide (x5.length ≤ (1000000000 : Nat))) (ifb (decide (x1.length < (1000000000 : Nat))) (ifb (inb (idxF (fun p => p.name == valF x5 (1 : Int)) x1) x1.length) (ifb (inb (0 : Int) (cutS (32 : Int) (valF x5 (2 : Int))).length) (ifb (inb (1 : Int) (cutS (32 : Int) (valF x5 (2 : Int))).length) (ifb (decide (x5.length ≤ (1000000000 : Nat))) (ifb (decide (x5.length ≤ (1000000000 : Nat))) (ifb (decide (List.length (valF x5 (4 : Int)) ≤ (1000000000 : Nat))) (some (.ret (.tup [.agg [.str x4, .str ((x1.getD (idxF (fun p => p.name == valF x5 (1 : Int)) x1).toNat (R_spec_l16Stands.C.dflt Ty.kind)).name), .int .i64 ((x1.getD (idxF (fun p => p.name == valF x5 (1 : Int)) x1).toNat (R_spec_l16Stands.C.dflt Ty.kind)).quick), .int .i64 ((x1.getD (idxF (fun p => p.name == valF x5 (1 : Int)) x1).toNat (R_spec_l16Stands.C.dflt Ty.kind)).slow), .int .i64 (numF ((cutS (32 : Int) (valF x5 (2 : Int))).getD (Int.toNat (0 : Int)) (R_spec_l16Stands.C.dflt Ty.str))), .int .i64 (numF ((cutS (32 : Int) (valF x5 (2 : Int))).getD (Int.toNat (1 : Int)) (R_spec_l16Stands.C.dflt Ty.str))), .int .i64 (numF (valF x5 (3 : Int))), .sl .str (cutS (32 : Int) (valF x5 (4 : Int)))], .bool true]) [])) (none)) (none)) (none)) (none)) (none)) (none)) (none)) (none)) (none)) (none))) (none)) := by kernel_rfl
theorem l4_spec_l16Stands (ks : List Kind) (ps : List Point) (es : List Entry) (n : Str) (fs : List Fld) (hf : fs.length ≤ 1000000000) (h : valF fs 4 ≠ [] → Cut R_spec_l16Stands g_spec_l16Stands 2 [.ptr 0 0, .ptr 1 0, .ptr 2 0, .int .i64 5] [.box [.sl .kind ks, .sl .point ps, .sl .entry es], .box [.str n, .sl .fld fs], .box [.str [], .str [], .int .i64 0, .int .i64 0, .int .i64 0, .int .i64 0, .int .i64 0, .nils]] (flV (stE ks ⟨n, fs⟩)) []) :
    Cut R_spec_l16Stands g_spec_l16Stands 2 [.ptr 0 0, .ptr 1 0, .ptr 2 0, .int .i64 4] [.box [.sl .kind ks, .sl .point ps, .sl .entry es], .box [.str n, .sl .fld fs], .box [.str [], .str [], .int .i64 0, .int .i64 0, .int .i64 0, .int .i64 0, .int .i64 0, .nils]] (flV (stE ks ⟨n, fs⟩)) [] := by
  refine Cut.of R_spec_l16Stands_ok rfl (t_spec_l16Stands_2 4 ks ps es n fs [] [] 0 0 0 0 0) ?_
  rw [decide_eq_true (by omega), decide_eq_true hf]
  simp only [ifb_true]
  by_cases hv : valF fs 4 = []
  · rw [hv]
    refine Sat.ret ?_ rfl
    rw [stE, if_pos (by simp [hv])]; rfl
  · have : (valF fs 4 == #[].toList) = false := by simpa using hv
    rw [this]
    exact Sat.cut (h hv)
theorem l3_spec_l16Stands (ks : List Kind) (ps : List Point) (es : List Entry) (n : Str) (fs : List Fld) (hf : fs.length ≤ 1000000000) (h : valF fs 3 ≠ [] → Cut R_spec_l16Stands g_spec_l16Stands 2 [.ptr 0 0, .ptr 1 0, .ptr 2 0, .int .i64 4] [.box [.sl .kind ks, .sl .point ps, .sl .entry es], .box [.str n, .sl .fld fs], .box [.str [], .str [], .int .i64 0, .int .i64 0, .int .i64 0, .int .i64 0, .int .i64 0, .nils]] (flV (stE ks ⟨n, fs⟩)) []) :
    Cut R_spec_l16Stands g_spec_l16Stands 2 [.ptr 0 0, .ptr 1 0, .ptr 2 0, .int .i64 3] [.box [.sl .kind ks, .sl .point ps, .sl .entry es], .box [.str n, .sl .fld fs], .box [.str [], .str [], .int .i64 0, .int .i64 0, .int .i64 0, .int .i64 0, .int .i64 0, .nils]] (flV (stE ks ⟨n, fs⟩)) [] := by
  refine Cut.of R_spec_l16Stands_ok rfl (t_spec_l16Stands_2 3 ks ps es n fs [] [] 0 0 0 0 0) ?_
  rw [decide_eq_true (by omega), decide_eq_true hf]
  simp only [ifb_true]
  by_cases hv : valF fs 3 = []
  · rw [hv]
    refine Sat.ret ?_ rfl
    rw [stE, if_pos (by simp [hv])]; rfl
  · have : (valF fs 3 == #[].toList) = false := by simpa using hv
    rw [this]
    exact Sat.cut (h hv)
theorem l2_spec_l16Stands (ks : List Kind) (ps : List Point) (es : List Entry) (n : Str) (fs : List Fld) (hf : fs.length ≤ 1000000000) (h : valF fs 2 ≠ [] → Cut R_spec_l16Stands g_spec_l16Stands 2 [.ptr 0 0, .ptr 1 0, .ptr 2 0, .int .i64 3] [.box [.sl .kind ks, .sl .point ps, .sl .entry es], .box [.str n, .sl .fld fs], .box [.str [], .str [], .int .i64 0, .int .i64 0, .int .i64 0, .int .i64 0, .int .i64 0, .nils]] (flV (stE ks ⟨n, fs⟩)) []) :
    Cut R_spec_l16Stands g_spec_l16Stands 2 [.ptr 0 0, .ptr 1 0, .ptr 2 0, .int .i64 2] [.box [.sl .kind ks, .sl .point ps, .sl .entry es], .box [.str n, .sl .fld fs], .box [.str [], .str [], .int .i64 0, .int .i64 0, .int .i64 0, .int .i64 0, .int .i64 0, .nils]] (flV (stE ks ⟨n, fs⟩)) [] := by
  refine Cut.of R_spec_l16Stands_ok rfl (t_spec_l16Stands_2 2 ks ps es n fs [] [] 0 0 0 0 0) ?_
  rw [decide_eq_true (by omega), decide_eq_true hf]
  simp only [ifb_true]
  by_cases hv : valF fs 2 = []
  · rw [hv]
    refine Sat.ret ?_ rfl
    rw [stE, if_pos (by simp [hv])]; rfl
  · have : (valF fs 2 == #[].toList) = false := by simpa using hv
    rw [this]
    exact Sat.cut (h hv)
theorem l1_spec_l16Stands (ks : List Kind) (ps : List Point) (es : List Entry) (n : Str) (fs : List Fld) (hf : fs.length ≤ 1000000000) (h : valF fs 1 ≠ [] → Cut R_spec_l16Stands g_spec_l16Stands 2 [.ptr 0 0, .ptr 1 0, .ptr 2 0, .int .i64 2] [.box [.sl .kind ks, .sl .point ps, .sl .entry es], .box [.str n, .sl .fld fs], .box [.str [], .str [], .int .i64 0, .int .i64 0, .int .i64 0, .int .i64 0, .int .i64 0, .nils]] (flV (stE ks ⟨n, fs⟩)) []) :
    Cut R_spec_l16Stands g_spec_l16Stands 2 [.ptr 0 0, .ptr 1 0, .ptr 2 0, .int .i64 1] [.box [.sl .kind ks, .sl .point ps, .sl .entry es], .box [.str n, .sl .fld fs], .box [.str [], .str [], .int .i64 0, .int .i64 0, .int .i64 0, .int .i64 0, .int .i64 0, .nils]] (flV (stE ks ⟨n, fs⟩)) [] := by
  refine Cut.of R_spec_l16Stands_ok rfl (t_spec_l16Stands_2 1 ks ps es n fs [] [] 0 0 0 0 0) ?_
  rw [decide_eq_true (by omega), decide_eq_true hf]
  simp only [ifb_true]
  by_cases hv : valF fs 1 = []
  · rw [hv]
    refine Sat.ret ?_ rfl
    rw [stE, if_pos (by simp [hv])]; rfl
  · have : (valF fs 1 == #[].toList) = false := by simpa using hv
    rw [this]
    exact Sat.cut (h hv)
theorem l5_spec_l16Stands (ks : List Kind) (ps : List Point) (es : List Entry) (n : Str) (fs : List Fld) (hk : ks.length ≤ 6) (hz : szE ⟨n, fs⟩ = true) (he : entryOk ks ps ⟨n, fs⟩ = true) (h1 : valF fs 1 ≠ []) (h2 : valF fs 2 ≠ []) (h3 : valF fs 3 ≠ []) (h4 : valF fs 4 ≠ []) :
    Cut R_spec_l16Stands g_spec_l16Stands 2 [.ptr 0 0, .ptr 1 0, .ptr 2 0, .int .i64 5] [.box [.sl .kind ks, .sl .point ps, .sl .entry es], .box [.str n, .sl .fld fs], .box [.str [], .str [], .int .i64 0, .int .i64 0, .int .i64 0, .int .i64 0, .int .i64 0, .nils]] (flV (stE ks ⟨n, fs⟩)) [] := by
  refine Cut.of R_spec_l16Stands_ok rfl (t_spec_l16Stands_2 5 ks ps es n fs [] [] 0 0 0 0 0) ?_
  have hf : fs.length ≤ 1000000000 := by simp only [szE, Bool.and_eq_true, decide_eq_true_eq] at hz; exact hz.1
  have hst : stE ks ⟨n, fs⟩ = if valF fs 5 = wClosed then none else some ⟨n, ks.getD (kindIx ks (valF fs 1)).toNat (dfltP .kind), numF ((cutS 32 (valF fs 2)).getD 0 []), numF ((cutS 32 (valF fs 2)).getD 1 []), numF (valF fs 3), cutS 32 (valF fs 4)⟩ := by
    rw [stE, if_neg (by simp [h1, h2, h3, h4])]
  have k1 := kind_in (fits1 (val_fits he h1))
  have t2 := time_len (fits2 (val_fits he h2))
  have hp : idxF (fun p => p.name == valF fs 1) ks = kindIx ks (valF fs 1) := rfl
  have z2 := val_sz hz 2
  have z4 := val_sz hz 4
  have i0 : inb (0 : Int) (cutS 32 (valF fs 2)).length = true := by simp only at t2; rw [t2]; rfl
  have i1 : inb (1 : Int) (cutS 32 (valF fs 2)).length = true := by simp only at t2; rw [t2]; rfl
  simp only at k1 z2 z4
  rw [decide_eq_false (by omega), decide_eq_true hf, hp, k1, i0, i1, decide_eq_true z2, decide_eq_true z4, decide_eq_true (by omega : ks.length < 1000000000)]
  simp only [ifb_true, ifb_false]
  rw [hst]
  by_cases hc : valF fs 5 = wClosed
  · rw [if_pos hc, hc]
    exact Sat.ret rfl rfl
  · rw [if_neg hc]
    have : (valF fs 5 == [(99 : UInt8), 108, 111, 115, 101, 100]) = false := beq_eq_false_iff_ne.2 hc
    rw [this]
    exact Sat.ret rfl rfl
theorem c_spec_l16Stands (ks : List Kind) (ps : List Point) (es : List Entry) (n : Str) (fs : List Fld) (hg : (baseOk ks ps && (szE ⟨n, fs⟩ && entryOk ks ps ⟨n, fs⟩)) = true) : CallOK Tryz.prog CP g_spec_l16Stands [.agg [.sl .kind ks, .sl .point ps, .sl .entry es], .agg [.str n, .sl .fld fs]] [] (flV (stE ks ⟨n, fs⟩)) [] := by
  refine CallOK.of R_spec_l16Stands_ok (by kernel_rfl) (t_spec_l16Stands ks ps es n fs) ?_
  simp only [Bool.and_eq_true] at hg
  obtain ⟨hb, hz, he⟩ := hg
  have hk := (baseOk_len hb).1
  have hf : fs.length ≤ 1000000000 := by simp only [szE, Bool.and_eq_true, decide_eq_true_eq] at hz; exact hz.1
  exact Sat.cut (l1_spec_l16Stands ks ps es n fs hf fun h1 => l2_spec_l16Stands ks ps es n fs hf fun h2 => l3_spec_l16Stands ks ps es n fs hf fun h3 => l4_spec_l16Stands ks ps es n fs hf fun h4 => l5_spec_l16Stands ks ps es n fs hk hz he h1 h2 h3 h4)
theorem E_spec_l16Stands_ok : EntOK Tryz.prog CP g_spec_l16Stands E_spec_l16Stands := by
  refine ⟨⟨Tryz.f117, by kernel_rfl, by kernel_rfl, by kernel_rfl⟩, fun args H res H' h => ?_⟩
  simp only [E_spec_l16Stands] at h
  split at h
  · simp only [Option.some.injEq, Prod.mk.injEq] at h
    obtain ⟨hg, rfl, rfl⟩ := h
    exact c_spec_l16Stands _ _ _ _ _ hg
  · cases h

/-- spec.PlanStands -/
noncomputable def R_spec_PlanStands : RE Ty El := ⟨Tryz.prog, CP, [(g_spec_l13At, E_spec_l13At), (g_spec_PlanBookOk, E_spec_PlanBookOk), (g_spec_l16Stands, E_spec_l16Stands)], Tryz.f34, 0, [.agg [.any, .any, .any, .any, .any, .any, .any, .ro .str], .any], []⟩
theorem R_spec_PlanStands_ok : REOK R_spec_PlanStands g_spec_PlanStands := ⟨CP_ok, (TabOK.cons E_spec_l13At_ok (TabOK.cons E_spec_PlanBookOk_ok (TabOK.cons E_spec_l16Stands_ok EOKnil))), by kernel_rfl, by kernel_rfl⟩
theorem t_spec_PlanStands (ks : List Kind) (ps : List Point) (es : List Entry) (n : Str) : aRun R_spec_PlanStands 600 false (body0 R_spec_PlanStands.fn) (initSt R_spec_PlanStands.fn [.agg [.sl .kind ks, .sl .point ps, .sl .entry es], .str n] []) =
  ifb (decide (es.length < (1000000000 : Nat))) (ifb (szB es) (ifb (!bookOk ks ps es) (some (.ret (.tup [.agg [.str #[].toList, .str #[].toList, .int .i64 (0 : Int), .int .i64 (0 : Int), .int .i64 (0 : Int), .int .i64 (0 : Int), .int .i64 (0 : Int), .sl .str []], .bool false]) [])) (ifb (decide (idxF (fun p => p.name == n) es < (0 : Int))) (some (.ret (.tup [.agg [.str #[].toList, .str #[].toList, .int .i64 (0 : Int), .int .i64 (0 : Int), .int .i64 (0 : Int), .int .i64 (0 : Int), .int .i64 (0 : Int), .sl .str []], .bool false]) [])) (ifb (inb (idxF (fun p => p.name == n) es) es.length) (ifb (baseOk ks ps && (szE (es.getD (idxF (fun p => p.name == n) es).toNat (R_spec_PlanStands.C.dflt Ty.entry)) && entryOk ks ps (es.getD (idxF (fun p => p.name == n) es).toNat (R_spec_PlanStands.C.dflt Ty.entry)))) (some (.ret (.tup [.agg [.str (((stE ks (es.getD (idxF (fun p => p.name == n) es).toNat (R_spec_PlanStands.C.dflt Ty.entry))).getD fl0).name), .str (((stE ks (es.getD (idxF (fun p => p.name == n) es).toNat (R_spec_PlanStands.C.dflt Ty.entry))).getD fl0).kind.name), .int .i64 (((stE ks (es.getD (idxF (fun p => p.name == n) es).toNat (R_spec_PlanStands.C.dflt Ty.entry))).getD fl0).kind.quick), .int .i64 (((stE ks (es.getD (idxF (fun p => p.name == n) es).toNat (R_spec_PlanStands.C.dflt Ty.entry))).getD fl0).kind.slow), .int .i64 (((stE ks (es.getD (idxF (fun p => p.name == n) es).toNat (R_spec_PlanStands.C.dflt Ty.entry))).getD fl0).frm), .int .i64 (((stE ks (es.getD (idxF (fun p => p.name == n) es).toNat (R_spec_PlanStands.C.dflt Ty.entry))).getD fl0).by_), .int .i64 (((stE ks (es.getD (idxF (fun p => p.name == n) es).toNat (R_spec_PlanStands.C.dflt Ty.entry))).getD fl0).level), .sl .str (((stE ks (es.getD (idxF (fun p => p.name == n) es).toNat (R_spec_PlanStands.C.dflt Ty.entry))).getD fl0).route)], .bool ((stE ks (es.getD (idxF (fun p => p.name == n) es).toNat (R_spec_PlanStands.C.dflt Ty.entry))).isSome)]) [])) (none)) (none)))) (none)) (none) := by kernel_rfl
theorem c_spec_PlanStands (ks : List Kind) (ps : List Point) (es : List Entry) (n : Str) (hg : (szB es && decide (es.length < 1000000000)) = true) : CallOK Tryz.prog CP g_spec_PlanStands [.agg [.sl .kind ks, .sl .point ps, .sl .entry es], .str n] [] (flV (stB ks ps es n)) [] := by
  refine CallOK.of R_spec_PlanStands_ok (by kernel_rfl) (t_spec_PlanStands ks ps es n) ?_
  simp only [Bool.and_eq_true, decide_eq_true_eq] at hg
  obtain ⟨hg, hlt⟩ := hg
  have hes : es.length ≤ 1000000000 ∧ es.all szE = true := by simpa only [szB, Bool.and_eq_true, decide_eq_true_eq] using hg
  have no : stB ks ps es n = none → Sat R_spec_PlanStands g_spec_PlanStands (flV (stB ks ps es n)) [] (some (.ret (.tup [.agg [.str #[].toList, .str #[].toList, .int .i64 (0 : Int), .int .i64 (0 : Int), .int .i64 (0 : Int), .int .i64 (0 : Int), .int .i64 (0 : Int), .sl .str []], .bool false]) [])) := fun h => by
    rw [h]; exact Sat.ret rfl rfl
  have hp : idxF (fun p => p.name == n) es = entIx es n := rfl
  have hdf : R_spec_PlanStands.C.dflt Ty.entry = dfltP .entry := rfl
  rw [hdf]
  rw [decide_eq_true hlt, hg, hp]
  simp only [ifb_true]
  cases hb : bookOk ks ps es with
  | false => exact no (by rw [stB, hb]; simp)
  | true =>
    obtain ⟨hbase, h12, hall⟩ := book_ents hb
    simp only [Bool.not_true, ifb_false]
    by_cases h0 : entIx es n < 0
    · rw [decide_eq_true h0]
      exact no (by rw [stB, if_neg (by omega)])
    · have hm := ent_mem (es := es) (n := n) (by omega)
      rw [decide_eq_false h0, ent_in (by omega), hbase, List.all_eq_true.1 hes.2 _ hm, hall _ hm]
      simp only [ifb_false, ifb_true, Bool.and_self]
      refine Sat.ret ?_ rfl
      rw [stB, if_pos ⟨hb, by omega⟩]; rfl
theorem E_spec_PlanStands_ok : EntOK Tryz.prog CP g_spec_PlanStands E_spec_PlanStands := by
  refine ⟨⟨Tryz.f34, by kernel_rfl, by kernel_rfl, by kernel_rfl⟩, fun args H res H' h => ?_⟩
  simp only [E_spec_PlanStands] at h
  split at h
  · simp only [Option.some.injEq, Prod.mk.injEq] at h
    obtain ⟨hg, rfl, rfl⟩ := h
    exact c_spec_PlanStands _ _ _ _ hg
  · cases h

/-- (impl.PlanBook).field -/
noncomputable def R_impl_PlanBook_field : RE Ty El := ⟨Tryz.prog, CP, [(g_impl_PlanBook_entry, E_impl_PlanBook_entry)], Tryz.f147, 0, [], [(4, [(2, .any), (6, .any), (21, .any), (22, .any), (23, .any)])]⟩
theorem R_impl_PlanBook_field_ok : REOK R_impl_PlanBook_field g_impl_PlanBook_field := ⟨CP_ok, (TabOK.cons E_impl_PlanBook_entry_ok EOKnil), by kernel_rfl, by kernel_rfl⟩
theorem t_impl_PlanBook_field (ks : List Kind) (ps : List Point) (es : List Entry) (n : Str) (w : Int) : aRun R_impl_PlanBook_field 600 false (body0 R_impl_PlanBook_field.fn) (initSt R_impl_PlanBook_field.fn [.agg [.sl .kind ks, .sl .point ps, .sl .entry es], .str n, .int .i64 w] []) =
  ifb (decide (es.length < (1000000000 : Nat))) (ifb (decide (idxF (fun p => p.name == n) es ≥ (0 : Int))) (ifb (inb (idxF (fun p => p.name == n) es) es.length) (some (.go (todoAt R_impl_PlanBook_field.fn 4) [.int .i64 w, .ptr 0 0, .sl .fld ((es.getD (idxF (fun p => p.name == n) es).toNat (R_impl_PlanBook_field.C.dflt Ty.entry)).fields), .int .i64 ((↑(es.getD (idxF (fun p => p.name == n) es).toNat (R_impl_PlanBook_field.C.dflt Ty.entry)).fields.length : Int)), .int .i64 (0 : Int)] [.box [.int .i64 (0 : Int), .int .i64 (0 : Int), .str #[].toList]])) (none)) (some (.ret (.tup [.agg [.int .i64 (0 : Int), .int .i64 (0 : Int), .str #[].toList], .bool false]) []))) (none) := by kernel_rfl
theorem t_impl_PlanBook_field_4 (x0 : Int) (x1 : List (El .fld)) (x2 : Int) (x3 : Int) (x4 : Int) (x5 : Int) (x6 : Str) : aRun R_impl_PlanBook_field 600 true (todoAt R_impl_PlanBook_field.fn 4) (cutSt R_impl_PlanBook_field.fn (liveOf R_impl_PlanBook_field (todoAt R_impl_PlanBook_field.fn 4)) [.int .i64 x0, .ptr 0 0, .sl .fld x1, .int .i64 x2, .int .i64 x3] [.box [.int .i64 x4, .int .i64 x5, .str x6]]) =
  ifb (decide (x3 < x2)) (ifb (inb x3 x1.length) (ifb ((x1.getD x3.toNat (R_impl_PlanBook_field.C.dflt Ty.fld)).what == x0) (some (.ret (.tup [.agg [.int .i64 ((x1.getD x3.toNat (R_impl_PlanBook_field.C.dflt Ty.fld)).what), .int .i64 ((x1.getD x3.toNat (R_impl_PlanBook_field.C.dflt Ty.fld)).number), .str ((x1.getD x3.toNat (R_impl_PlanBook_field.C.dflt Ty.fld)).value)], .bool true]) [])) (some (.go (todoAt R_impl_PlanBook_field.fn 4) [.int .i64 x0, .ptr 0 0, .sl .fld x1, .int .i64 x2, .int .i64 (IntKind.i64.wrap (x3 + (1 : Int)))] [.box [.int .i64 x4, .int .i64 x5, .str x6]]))) (none)) (some (.ret (.tup [.agg [.int .i64 (0 : Int), .int .i64 (0 : Int), .str #[].toList], .bool false]) [])) := by kernel_rfl
theorem l_impl_PlanBook_field (w : Int) (fs : List Fld) (hf : fs.length ≤ 1000000000) : ∀ (d i : Nat), i + d = fs.length →
    Cut R_impl_PlanBook_field g_impl_PlanBook_field 4 [.int .i64 w, .ptr 0 0, .sl .fld fs, .int .i64 (fs.length : Int), .int .i64 (i : Int)] [.box [.int .i64 0, .int .i64 0, .str []]] (.tup [.agg (rowP .fld (((fs.drop i).find? fun f => f.what == w).getD fld0)), .bool ((fs.drop i).find? fun f => f.what == w).isSome]) [] := by
  intro d
  induction d with
  | zero =>
    intro i hi
    refine Cut.of R_impl_PlanBook_field_ok rfl (t_impl_PlanBook_field_4 w fs fs.length i 0 0 []) ?_
    rw [decide_eq_false (by omega), List.drop_of_length_le (by omega)]
    exact Sat.ret rfl rfl
  | succ d ih =>
    intro i hi
    refine Cut.of R_impl_PlanBook_field_ok rfl (t_impl_PlanBook_field_4 w fs fs.length i 0 0 []) ?_
    have hlt : i < fs.length := by omega
    have hw : IntKind.wrap .i64 ((i : Int) + 1) = ((i + 1 : Nat) : Int) := by rw [wrap_ok] <;> omega
    have hw1 : IntKind.wrap .i64 ((i : Int) - 1) = (i : Int) - 1 := by rw [wrap_ok] <;> omega
    have hd : fs.drop i = fs[i] :: fs.drop (i + 1) := List.drop_eq_getElem_cons hlt
    have hx : fs.getD (i : Int).toNat (R_impl_PlanBook_field.C.dflt .fld) = fs[i] := by simp [hlt]
    have hin : inb (i : Int) fs.length = true := by simp only [inb, Bool.and_eq_true, decide_eq_true_eq]; omega
    have hlo : decide ((i : Int) < (fs.length : Int)) = true := decide_eq_true (by omega)
    have htk := List.take_succ_eq_append_getElem hlt
    have hl : (fs.take (i + 1)).getLast? = some fs[i] := by rw [List.take_succ_eq_append_getElem hlt, List.getLast?_concat]
    rw [hlo, hin, hx, hw, hd, List.find?_cons]
    simp only [ifb_true]
    cases hq : (fs[i].what == w) with
    | true => exact Sat.ret rfl rfl
    | false => exact Sat.cut (ih (i + 1) (by omega))
theorem c_impl_PlanBook_field (ks : List Kind) (ps : List Point) (es : List Entry) (n : Str) (w : Int) (hg : (decide (es.length < 1000000000) && es.all szE) = true) : CallOK Tryz.prog CP g_impl_PlanBook_field [.agg [.sl .kind ks, .sl .point ps, .sl .entry es], .str n, .int .i64 w] [] (.tup [.agg (rowP .fld ((fldF es n w).getD fld0)), .bool (fldF es n w).isSome]) [] := by
  refine CallOK.of R_impl_PlanBook_field_ok (by kernel_rfl) (t_impl_PlanBook_field ks ps es n w) ?_
  simp only [Bool.and_eq_true, decide_eq_true_eq] at hg
  obtain ⟨hlt, hz⟩ := hg
  have hp : idxF (fun p => p.name == n) es = entIx es n := rfl
  have hdf : R_impl_PlanBook_field.C.dflt Ty.entry = dfltP .entry := rfl
  rw [hdf, decide_eq_true hlt]
  simp only [ifb_true]
  rcases idx_find (fun e : Entry => e.name == n) (dfltP .entry) es with ⟨h1, h2⟩ | ⟨h1, h2⟩
  · rw [decide_eq_false (by omega)]
    refine Sat.ret ?_ rfl
    rw [fldF, h2]; rfl
  · rw [decide_eq_true h1, hp, ent_in h1]
    simp only [ifb_true]
    have hm := List.all_eq_true.1 hz _ (ent_mem (n := n) h1)
    simp only [szE, Bool.and_eq_true, decide_eq_true_eq] at hm
    have := l_impl_PlanBook_field w (es.getD (entIx es n).toNat (dfltP .entry)).fields hm.1 _ 0 (Nat.zero_add _)
    rw [fldF, h2]
    exact Sat.cut this
theorem E_impl_PlanBook_field_ok : EntOK Tryz.prog CP g_impl_PlanBook_field E_impl_PlanBook_field := by
  refine ⟨⟨Tryz.f147, by kernel_rfl, by kernel_rfl, by kernel_rfl⟩, fun args H res H' h => ?_⟩
  simp only [E_impl_PlanBook_field] at h
  split at h
  · simp only [Option.some.injEq, Prod.mk.injEq] at h
    obtain ⟨hg, rfl, rfl⟩ := h
    exact c_impl_PlanBook_field _ _ _ _ _ hg
  · cases h
end Lx
/- Meanings: who stands, as the program asks it. -/
set_option linter.unusedVariables false
set_option linter.unusedSimpArgs false
namespace Lx
open Go Go.Proofs
theorem kinds_ok : ∀ {ks : List Kind} {prev : Option Str}, kindsGo prev ks = true → ∀ k ∈ ks, k.ok = true
  | [], _, _, k, hk => by simp at hk
  | a :: ks, prev, h, k, hk => by
    rw [kindsGo] at h
    simp only [Bool.and_eq_true] at h
    simp only [List.mem_cons] at hk
    rcases hk with rfl | hk
    · exact h.1
    · exact kinds_ok h.2.2 k hk
theorem kind_none {ks : List Kind} {ps : List Point} (h : baseOk ks ps = true) : ¬ 0 ≤ kindIx ks [] := by
  intro h0
  rcases idx_find (fun k : Kind => k.name == ([] : Str)) (dfltP .kind) ks with ⟨h1, _⟩ | ⟨_, h2⟩
  · have : kindIx ks [] = idxF (fun k : Kind => k.name == ([] : Str)) ks := rfl
    omega
  · have hm := List.mem_of_find?_eq_some h2
    have hn := List.find?_some h2
    simp only [baseOk, Bool.and_eq_true] at h
    have hk := kinds_ok h.2.2.1 _ hm
    simp only [Kind.ok, nameOk, Bool.and_eq_true, decide_eq_true_eq] at hk
    have := eq_of_beq hn
    rw [this] at hk
    simp at hk
theorem fits_ne {ks : List Kind} {ps : List Point} (hb : baseOk ks ps = true) {w : Int} (hw : w = 1 ∨ w = 2 ∨ w = 3 ∨ w = 4) : fitsV ks ps w [] = false := by
  rcases hw with rfl | rfl | rfl | rfl
  · show decide (0 ≤ kindIx ks []) = false
    exact decide_eq_false (kind_none hb)
  · rfl
  · rfl
  · rfl
/-- A book's flight, found. -/
theorem fld_at {ks : List Kind} {ps : List Point} {es : List Entry} {n : Str} (hb : bookOk ks ps es = true) (h0 : 0 ≤ entIx es n) : ∃ e, e = es.getD (entIx es n).toNat (dfltP .entry) ∧ e ∈ es ∧ entryOk ks ps e = true ∧ e.name = n ∧
    (∀ w, ((fldF es n w).getD fld0).value = valF e.fields w) ∧ ∀ w, w = 1 ∨ w = 2 ∨ w = 3 ∨ w = 4 → (fldF es n w).isSome = !decide (valF e.fields w = []) := by
  obtain ⟨hbase, _, hall⟩ := book_ents hb
  have hm := ent_mem h0
  rcases idx_find (fun e : Entry => e.name == n) (dfltP .entry) es with ⟨h1, _⟩ | ⟨_, h2⟩
  · have : entIx es n = idxF (fun k : Entry => k.name == n) es := rfl
    omega
  · have hfl : ∀ w, fldF es n w = (es.getD (entIx es n).toNat (dfltP .entry)).fields.find? (fun f => f.what == w) := fun w => by rw [fldF, h2]; rfl
    have hnm := List.find?_some h2
    have hnm' : ((es.getD (entIx es n).toNat (dfltP .entry)).name == n) = true := hnm
    refine ⟨_, rfl, hm, hall _ hm, eq_of_beq hnm', fun w => ?_, fun w hw => ?_⟩
    · rw [hfl, valF]
      cases (es.getD (entIx es n).toNat (dfltP .entry)).fields.find? (fun f => f.what == w) <;> rfl
    · rw [hfl]
      cases hf : (es.getD (entIx es n).toNat (dfltP .entry)).fields.find? (fun f => f.what == w) with
      | none =>
        have : valF (es.getD (entIx es n).toNat (dfltP .entry)).fields w = [] := by unfold valF; rw [hf]
        rw [decide_eq_true this]; rfl
      | some f =>
        have hv : valF (es.getD (entIx es n).toNat (dfltP .entry)).fields w = f.value := by unfold valF; rw [hf]
        have hok := hall _ hm
        simp only [entryOk, Bool.and_eq_true] at hok
        have hfit := fits_all hok.2.2 f (List.mem_of_find?_eq_some hf)
        have hwf : f.what = w := by simpa using List.find?_some hf
        have : ¬ valF (es.getD (entIx es n).toNat (dfltP .entry)).fields w = [] := fun e => by
          rw [hv] at e
          rw [hwf, e, fits_ne hbase hw] at hfit
          cases hfit
        rw [decide_eq_false this]; rfl
theorem fld_none {es : List Entry} {n : Str} (h0 : ¬ 0 ≤ entIx es n) (w : Int) : fldF es n w = none := by
  rcases idx_find (fun e : Entry => e.name == n) (dfltP .entry) es with ⟨_, h2⟩ | ⟨h1, _⟩
  · rw [fldF, h2]; rfl
  · exact absurd h1 h0
theorem time_decs {w : List Str} (h : timeOk w = true) : w.all decB = true ∧ decsV w = [numF (w.getD 0 []), numF (w.getD 1 [])] := by
  match w with
  | [] => cases h
  | [a] => cases h
  | [a, b] =>
    simp only [timeOk, inR, Bool.and_eq_true, decide_eq_true_eq] at h
    have ha : decB a = true := decide_eq_true h.1
    have hb : decB b = true := decide_eq_true (by omega)
    have hall : [a, b].all decB = true := by simp [ha, hb]
    refine ⟨hall, ?_⟩
    unfold decsV
    rw [if_pos hall]
    have e1 : decV a = numF a := by unfold decV; omega
    have e2 : decV b = numF b := by unfold decV; omega
    show [decV a, decV b] = [numF a, numF b]
    rw [e1, e2]
  | a :: b :: c :: t => cases h

def getV (es : List Entry) (n : Str) (w : Int) : V := .tup [.str ((fldF es n w).getD fld0).value, .bool (fldF es n w).isSome]
def E_impl_PlanBook_stands_1 : Ent Ty El := ⟨[.ro, .ro, .ro], 0, fun a h => match a, h with
  | [.int .i64 w, .rop [.sl .kind ks, .sl .point ps, .sl .entry es] 0, .rop [.str n] 0], [] => some (decide (es.length < 1000000000) && es.all szE, getV es n w, [])
  | _, _ => none⟩
def E_impl_PlanBook_stands : Ent Ty El := ⟨[.ro, .ro], 0, fun a h => match a, h with
  | [.agg [.sl .kind ks, .sl .point ps, .sl .entry es], .str n], [] => some (szB es && bookOk ks ps es, flV (stB ks ps es n), [])
  | _, _ => none⟩
end Lx
/- Who stands, as the program asks it. -/
set_option linter.unusedVariables false
set_option linter.unusedSimpArgs false
set_option maxRecDepth 4000
namespace Lx
open Go Go.Proofs
/-- (impl.PlanBook).stands$1 -/
noncomputable def R_impl_PlanBook_stands_1 : RE Ty El := ⟨Tryz.prog, CP, [(g_impl_PlanBook_field, E_impl_PlanBook_field)], Tryz.f166, 0, [], []⟩
theorem R_impl_PlanBook_stands_1_ok : REOK R_impl_PlanBook_stands_1 g_impl_PlanBook_stands_1 := ⟨CP_ok, (TabOK.cons E_impl_PlanBook_field_ok EOKnil), by kernel_rfl, by kernel_rfl⟩
theorem t_impl_PlanBook_stands_1 (ks : List Kind) (ps : List Point) (es : List Entry) (n : Str) (w : Int) : aRun R_impl_PlanBook_stands_1 600 false (body0 R_impl_PlanBook_stands_1.fn) (initSt R_impl_PlanBook_stands_1.fn [.int .i64 w, .rop [.sl .kind ks, .sl .point ps, .sl .entry es] 0, .rop [.str n] 0] []) =
  ifb (decide (es.length < (1000000000 : Nat)) && es.all szE) (some (.ret (.tup [.str (((fldF es n w).getD fld0).value), .bool ((fldF es n w).isSome)]) [])) (none) := by kernel_rfl
theorem c_impl_PlanBook_stands_1 (ks : List Kind) (ps : List Point) (es : List Entry) (n : Str) (w : Int) (hg : (decide (es.length < 1000000000) && es.all szE) = true) : CallOK Tryz.prog CP g_impl_PlanBook_stands_1 [.int .i64 w, .rop [.sl .kind ks, .sl .point ps, .sl .entry es] 0, .rop [.str n] 0] [] (getV es n w) [] := by
  refine CallOK.of R_impl_PlanBook_stands_1_ok (by kernel_rfl) (t_impl_PlanBook_stands_1 ks ps es n w) ?_
  rw [hg]
  exact Sat.ret rfl rfl
theorem E_impl_PlanBook_stands_1_ok : EntOK Tryz.prog CP g_impl_PlanBook_stands_1 E_impl_PlanBook_stands_1 := by
  refine ⟨⟨Tryz.f166, by kernel_rfl, by kernel_rfl, by kernel_rfl⟩, fun args H res H' h => ?_⟩
  simp only [E_impl_PlanBook_stands_1] at h
  split at h
  · simp only [Option.some.injEq, Prod.mk.injEq] at h
    obtain ⟨hg, rfl, rfl⟩ := h
    exact c_impl_PlanBook_stands_1 _ _ _ _ _ hg
  · cases h

/-- (impl.PlanBook).stands -/
noncomputable def R_impl_PlanBook_stands : RE Ty El := ⟨Tryz.prog, CP, [(g_impl_PlanBook_stands_1, E_impl_PlanBook_stands_1), (g_strings_Split, E_strings_Split), (g_impl_decimals, E_impl_decimals), (g_impl_decimal, E_impl_decimal), (g_impl_PlanBase_kind, E_impl_PlanBase_kind)], Tryz.f84, 0, [.agg [.any, .any, .any, .any, .any, .any, .any, .ro .str], .any], []⟩
theorem R_impl_PlanBook_stands_ok : REOK R_impl_PlanBook_stands g_impl_PlanBook_stands := ⟨CP_ok, (TabOK.cons E_impl_PlanBook_stands_1_ok (TabOK.cons E_strings_Split_ok (TabOK.cons E_impl_decimals_ok (TabOK.cons E_impl_decimal_ok (TabOK.cons E_impl_PlanBase_kind_ok EOKnil))))), by kernel_rfl, by kernel_rfl⟩
theorem t_impl_PlanBook_stands (ks : List Kind) (ps : List Point) (es : List Entry) (n : Str) : aRun R_impl_PlanBook_stands 600 false (body0 R_impl_PlanBook_stands.fn) (initSt R_impl_PlanBook_stands.fn [.agg [.sl .kind ks, .sl .point ps, .sl .entry es], .str n] []) =
  ifb (decide (es.length < (1000000000 : Nat)) && es.all szE) (ifb (decide (es.length < (1000000000 : Nat)) && es.all szE) (ifb (decide (es.length < (1000000000 : Nat)) && es.all szE) (ifb (decide (es.length < (1000000000 : Nat)) && es.all szE) (ifb (decide (es.length < (1000000000 : Nat)) && es.all szE) (ifb (!(fldF es n (1 : Int)).isSome) (some (.ret (.tup [.agg [.str #[].toList, .str #[].toList, .int .i64 (0 : Int), .int .i64 (0 : Int), .int .i64 (0 : Int), .int .i64 (0 : Int), .int .i64 (0 : Int), .sl .str []], .bool false]) [])) (ifb (!(fldF es n (2 : Int)).isSome) (some (.ret (.tup [.agg [.str #[].toList, .str #[].toList, .int .i64 (0 : Int), .int .i64 (0 : Int), .int .i64 (0 : Int), .int .i64 (0 : Int), .int .i64 (0 : Int), .sl .str []], .bool false]) [])) (ifb (!(fldF es n (3 : Int)).isSome) (some (.ret (.tup [.agg [.str #[].toList, .str #[].toList, .int .i64 (0 : Int), .int .i64 (0 : Int), .int .i64 (0 : Int), .int .i64 (0 : Int), .int .i64 (0 : Int), .sl .str []], .bool false]) [])) (ifb (!(fldF es n (4 : Int)).isSome) (some (.ret (.tup [.agg [.str #[].toList, .str #[].toList, .int .i64 (0 : Int), .int .i64 (0 : Int), .int .i64 (0 : Int), .int .i64 (0 : Int), .int .i64 (0 : Int), .sl .str []], .bool false]) [])) (ifb (((fldF es n (5 : Int)).getD fld0).value == #[(99 : UInt8), (108 : UInt8), (111 : UInt8), (115 : UInt8), (101 : UInt8), (100 : UInt8)].toList) (some (.ret (.tup [.agg [.str #[].toList, .str #[].toList, .int .i64 (0 : Int), .int .i64 (0 : Int), .int .i64 (0 : Int), .int .i64 (0 : Int), .int .i64 (0 : Int), .sl .str []], .bool false]) [])) (ifb (szS ((fldF es n (2 : Int)).getD fld0).value) (ifb (decide ((7 : Int) = (7 : Int)) && decide ((cutS (↑(UInt8.toNat (32 : UInt8)) : Int) ((fldF es n (2 : Int)).getD fld0).value).length ≤ (2000000000 : Nat))) (ifb (decide (ks.length < (1000000000 : Nat))) (ifb (inb (idxF (fun p => p.name == ((fldF es n (1 : Int)).getD fld0).value) ks) ks.length) (ifb (inb (0 : Int) (decsV (cutS (↑(UInt8.toNat (32 : UInt8)) : Int) ((fldF es n (2 : Int)).getD fld0).value)).length) (ifb (inb (1 : Int) (decsV (cutS (↑(UInt8.toNat (32 : UInt8)) : Int) ((fldF es n (2 : Int)).getD fld0).value)).length) (ifb (szS ((fldF es n (4 : Int)).getD fld0).value) (some (.ret (.tup [.agg [.str n, .str ((ks.getD (idxF (fun p => p.name == ((fldF es n (1 : Int)).getD fld0).value) ks).toNat (R_impl_PlanBook_stands.C.dflt Ty.kind)).name), .int .i64 ((ks.getD (idxF (fun p => p.name == ((fldF es n (1 : Int)).getD fld0).value) ks).toNat (R_impl_PlanBook_stands.C.dflt Ty.kind)).quick), .int .i64 ((ks.getD (idxF (fun p => p.name == ((fldF es n (1 : Int)).getD fld0).value) ks).toNat (R_impl_PlanBook_stands.C.dflt Ty.kind)).slow), .int .i64 ((decsV (cutS (↑(UInt8.toNat (32 : UInt8)) : Int) ((fldF es n (2 : Int)).getD fld0).value)).getD (Int.toNat (0 : Int)) (R_impl_PlanBook_stands.C.dflt Ty.int)), .int .i64 ((decsV (cutS (↑(UInt8.toNat (32 : UInt8)) : Int) ((fldF es n (2 : Int)).getD fld0).value)).getD (Int.toNat (1 : Int)) (R_impl_PlanBook_stands.C.dflt Ty.int)), .int .i64 (decV ((fldF es n (3 : Int)).getD fld0).value), .sl .str (cutS (↑(UInt8.toNat (32 : UInt8)) : Int) ((fldF es n (4 : Int)).getD fld0).value)], .bool true]) [])) (none)) (none)) (none)) (none)) (none)) (none)) (none))))))) (none)) (none)) (none)) (none)) (none) := by kernel_rfl
theorem c_impl_PlanBook_stands (ks : List Kind) (ps : List Point) (es : List Entry) (n : Str) (hg : (szB es && bookOk ks ps es) = true) : CallOK Tryz.prog CP g_impl_PlanBook_stands [.agg [.sl .kind ks, .sl .point ps, .sl .entry es], .str n] [] (flV (stB ks ps es n)) [] := by
  refine CallOK.of R_impl_PlanBook_stands_ok (by kernel_rfl) (t_impl_PlanBook_stands ks ps es n) ?_
  simp only [Bool.and_eq_true] at hg
  obtain ⟨hz, hb⟩ := hg
  have hz' : es.length ≤ 1000000000 ∧ es.all szE = true := by simpa only [szB, Bool.and_eq_true, decide_eq_true_eq] using hz
  obtain ⟨hbase, h12, hall⟩ := book_ents hb
  have hg1 : (decide (es.length < 1000000000) && es.all szE) = true := by rw [decide_eq_true (by omega), hz'.2]; rfl
  have no : stB ks ps es n = none → Sat R_impl_PlanBook_stands g_impl_PlanBook_stands (flV (stB ks ps es n)) [] (some (.ret (.tup [.agg [.str #[].toList, .str #[].toList, .int .i64 (0 : Int), .int .i64 (0 : Int), .int .i64 (0 : Int), .int .i64 (0 : Int), .int .i64 (0 : Int), .sl .str []], .bool false]) [])) := fun h => by
    rw [h]; exact Sat.ret rfl rfl
  rw [hg1]
  simp only [ifb_true]
  by_cases h0 : 0 ≤ entIx es n
  · obtain ⟨e, he, hm, hok, hn, hv, hs⟩ := fld_at hb h0
    have hst : stB ks ps es n = stE ks e := by rw [stB, if_pos ⟨hb, h0⟩, he]
    have s1 := hs 1 (by omega)
    by_cases n1 : valF e.fields 1 = []
    · rw [s1, decide_eq_true n1]
      exact no (by rw [hst, stE, if_pos (by simp [n1])])
    rw [s1, decide_eq_false n1, Bool.not_false, Bool.not_true, ifb_false]
    have s2 := hs 2 (by omega)
    by_cases n2 : valF e.fields 2 = []
    · rw [s2, decide_eq_true n2]
      exact no (by rw [hst, stE, if_pos (by simp [n2])])
    rw [s2, decide_eq_false n2, Bool.not_false, Bool.not_true, ifb_false]
    have s3 := hs 3 (by omega)
    by_cases n3 : valF e.fields 3 = []
    · rw [s3, decide_eq_true n3]
      exact no (by rw [hst, stE, if_pos (by simp [n3])])
    rw [s3, decide_eq_false n3, Bool.not_false, Bool.not_true, ifb_false]
    have s4 := hs 4 (by omega)
    by_cases n4 : valF e.fields 4 = []
    · rw [s4, decide_eq_true n4]
      exact no (by rw [hst, stE, if_pos (by simp [n4])])
    rw [s4, decide_eq_false n4, Bool.not_false, Bool.not_true, ifb_false]
    rw [hv, hv, hv, hv, hv]
    have hst2 : stE ks e = if valF e.fields 5 = wClosed then none else some ⟨e.name, ks.getD (kindIx ks (valF e.fields 1)).toNat (dfltP .kind), numF ((cutS 32 (valF e.fields 2)).getD 0 []), numF ((cutS 32 (valF e.fields 2)).getD 1 []), numF (valF e.fields 3), cutS 32 (valF e.fields 4)⟩ := by
      rw [stE, if_neg (by simp [n1, n2, n3, n4])]
    by_cases hc : valF e.fields 5 = wClosed
    · have : (valF e.fields 5 == wClosed) = true := by rw [hc]; simp
      have e5 : (valF e.fields 5 == [(99 : UInt8), 108, 111, 115, 101, 100]) = true := this
      rw [e5]
      exact no (by rw [hst, hst2, if_pos hc])
    · have e5 : (valF e.fields 5 == [(99 : UInt8), 108, 111, 115, 101, 100]) = false := beq_eq_false_iff_ne.2 hc
      have hze := List.all_eq_true.1 hz'.2 e hm
      have z2 : szS (valF e.fields 2) = true := decide_eq_true (val_sz hze 2)
      have z4 : szS (valF e.fields 4) = true := decide_eq_true (val_sz hze 4)
      have k1 := kind_in (fits1 (val_fits hok n1))
      have ht := fits2 (val_fits hok n2)
      obtain ⟨hall2, hdec⟩ := time_decs ht
      have hlen := cutS_len 32 (valF e.fields 2)
      have hl2 := val_sz hze 2
      have hlev : decV (valF e.fields 3) = numF (valF e.fields 3) := by
        have h3 := val_fits hok n3
        have h3' : inR (numF (valF e.fields 3)) 1 6 = true := by simpa [fitsV] using h3
        simp only [inR, Bool.and_eq_true, decide_eq_true_eq] at h3'
        unfold decV; omega
      have hkx : idxF (fun p => p.name == valF e.fields 1) ks = kindIx ks (valF e.fields 1) := rfl
      have e32 : ((UInt8.toNat 32 : Nat) : Int) = 32 := rfl
      have hk6 := (baseOk_len hbase).1
      rw [e5, z2, z4, e32, hdec, hkx, k1, hlev, decide_eq_true (by omega : ks.length < 1000000000), decide_eq_true (by omega : (cutS 32 (valF e.fields 2)).length ≤ 2000000000)]
      refine Sat.ret ?_ rfl
      rw [hst, hst2, if_neg hc, hn]
      rfl
  · rw [fld_none h0]
    exact no (by rw [stB, if_neg (fun h => h0 h.2)])
theorem E_impl_PlanBook_stands_ok : EntOK Tryz.prog CP g_impl_PlanBook_stands E_impl_PlanBook_stands := by
  refine ⟨⟨Tryz.f84, by kernel_rfl, by kernel_rfl, by kernel_rfl⟩, fun args H res H' h => ?_⟩
  simp only [E_impl_PlanBook_stands] at h
  split at h
  · simp only [Option.some.injEq, Prod.mk.injEq] at h
    obtain ⟨hg, rfl, rfl⟩ := h
    exact c_impl_PlanBook_stands _ _ _ _ hg
  · cases h

/-- impl.PlanStands -/
noncomputable def R_impl_PlanStands : RE Ty El := ⟨Tryz.prog, CP, [(g_impl_PlanBookOk, E_impl_PlanBookOk), (g_impl_PlanBook_stands, E_impl_PlanBook_stands)], Tryz.f20, 0, [.agg [.any, .any, .any, .any, .any, .any, .any, .ro .str], .any], []⟩
theorem R_impl_PlanStands_ok : REOK R_impl_PlanStands g_impl_PlanStands := ⟨CP_ok, (TabOK.cons E_impl_PlanBookOk_ok (TabOK.cons E_impl_PlanBook_stands_ok EOKnil)), by kernel_rfl, by kernel_rfl⟩
theorem t_impl_PlanStands (ks : List Kind) (ps : List Point) (es : List Entry) (n : Str) : aRun R_impl_PlanStands 600 false (body0 R_impl_PlanStands.fn) (initSt R_impl_PlanStands.fn [.agg [.sl .kind ks, .sl .point ps, .sl .entry es], .str n] []) =
  ifb (szB es) (ifb (!bookOk ks ps es) (some (.ret (.tup [.agg [.str #[].toList, .str #[].toList, .int .i64 (0 : Int), .int .i64 (0 : Int), .int .i64 (0 : Int), .int .i64 (0 : Int), .int .i64 (0 : Int), .sl .str []], .bool false]) [])) (ifb (szB es && bookOk ks ps es) (some (.ret (.tup [.agg [.str (((stB ks ps es n).getD fl0).name), .str (((stB ks ps es n).getD fl0).kind.name), .int .i64 (((stB ks ps es n).getD fl0).kind.quick), .int .i64 (((stB ks ps es n).getD fl0).kind.slow), .int .i64 (((stB ks ps es n).getD fl0).frm), .int .i64 (((stB ks ps es n).getD fl0).by_), .int .i64 (((stB ks ps es n).getD fl0).level), .sl .str (((stB ks ps es n).getD fl0).route)], .bool ((stB ks ps es n).isSome)]) [])) (none))) (none) := by kernel_rfl
theorem c_impl_PlanStands (ks : List Kind) (ps : List Point) (es : List Entry) (n : Str) (hg : (szB es && decide (es.length < 1000000000)) = true) : CallOK Tryz.prog CP g_impl_PlanStands [.agg [.sl .kind ks, .sl .point ps, .sl .entry es], .str n] [] (flV (stB ks ps es n)) [] := by
  refine CallOK.of R_impl_PlanStands_ok (by kernel_rfl) (t_impl_PlanStands ks ps es n) ?_
  simp only [Bool.and_eq_true] at hg
  rw [hg.1]
  cases hb : bookOk ks ps es with
  | false =>
    refine Sat.ret ?_ rfl
    rw [stB, hb]; rfl
  | true => exact Sat.ret rfl rfl
theorem E_impl_PlanStands_ok : EntOK Tryz.prog CP g_impl_PlanStands E_impl_PlanStands := by
  refine ⟨⟨Tryz.f20, by kernel_rfl, by kernel_rfl, by kernel_rfl⟩, fun args H res H' h => ?_⟩
  simp only [E_impl_PlanStands, E_spec_PlanStands] at h
  split at h
  · simp only [Option.some.injEq, Prod.mk.injEq] at h
    obtain ⟨hg, rfl, rfl⟩ := h
    exact c_impl_PlanStands _ _ _ _ hg
  · cases h
end Lx
/- Meanings: legs. -/
set_option linter.unusedVariables false
set_option linter.unusedSimpArgs false
namespace Lx
open Go Go.Proofs
def smallC (c : Cell) : Bool := (decide (0 ≤ c.x) && decide (c.x ≤ 100)) && (decide (0 ≤ c.y) && decide (c.y ≤ 100))
def legN (a b : Cell) : Nat := max (a.x - b.x).natAbs (a.y - b.y).natAbs
def legAt (a b : Cell) (k : Nat) : Cell := if legN a b = 0 then a else ⟨a.x + partF (b.x - a.x) k (legN a b), a.y + partF (b.y - a.y) k (legN a b)⟩
def legF (a b : Cell) : List Cell := (List.range (legN a b + 1)).map (legAt a b)
def turnedB (a b : Cell) : Bool := decide (b.x < a.x) || (b.x == a.x && decide (b.y < a.y))
def legAll (a b : Cell) : List Cell := if turnedB a b then (legF b a).reverse else legF a b
def E_spec_l17Leg0 : Ent Ty El := ⟨[.ro, .ro], 0, fun a h => match a, h with
  | [.agg [.int .i64 ax, .int .i64 ay], .agg [.int .i64 bx, .int .i64 b_y]], [] => some ((smallC ⟨ax, ay⟩ && smallC ⟨bx, b_y⟩) && !turnedB ⟨ax, ay⟩ ⟨bx, b_y⟩, .sl .cell (legF ⟨ax, ay⟩ ⟨bx, b_y⟩), [])
  | _, _ => none⟩
def E_spec_l17Leg : Ent Ty El := ⟨[.ro, .ro], 0, fun a h => match a, h with
  | [.agg [.int .i64 ax, .int .i64 ay], .agg [.int .i64 bx, .int .i64 b_y]], [] => some (smallC ⟨ax, ay⟩ && smallC ⟨bx, b_y⟩, .sl .cell (legAll ⟨ax, ay⟩ ⟨bx, b_y⟩), [])
  | _, _ => none⟩
end Lx
