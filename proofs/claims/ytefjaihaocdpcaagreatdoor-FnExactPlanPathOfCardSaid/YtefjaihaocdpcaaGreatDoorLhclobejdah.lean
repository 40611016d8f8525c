/- How much an argument holds; the arguments made the program's own; how answers are held against each other. -/
import Derived.Test.YtefjaihaocdpcaaGreatDoorLchmemldchf
set_option linter.unusedVariables false
set_option linter.unusedSimpArgs false
set_option maxRecDepth 4000
namespace Lx
open Go Go.Proofs
/-- laws.szPlanKind -/
noncomputable def R_laws_szPlanKind : RE Ty El := ⟨Tryz.prog, CP, [], Tryz.f248, 0, [], []⟩
theorem R_laws_szPlanKind_ok : REOK R_laws_szPlanKind g_laws_szPlanKind := ⟨CP_ok, EOKnil, by kernel_rfl, by kernel_rfl⟩
theorem t_laws_szPlanKind (name : Str) (quick : Int) (slow : Int) (left : Int) : aRun R_laws_szPlanKind 600 false (body0 R_laws_szPlanKind.fn) (initSt R_laws_szPlanKind.fn [.agg [.str name, .int .i64 quick, .int .i64 slow], .int .i64 left] []) =
  ifb (decide (IntKind.i64.wrap (left - (↑(List.length name) : Int)) < (0 : Int))) (some (.ret (.int .i64 (-1 : Int)) [])) (some (.ret (.int .i64 (IntKind.i64.wrap (left - (↑(List.length name) : Int)))) [])) := by kernel_rfl
theorem c_laws_szPlanKind (name : Str) (quick : Int) (slow : Int) (left : Int) (hg : (ok_PlanKind name quick slow && leftOk left) = true) : CallOK Tryz.prog CP g_laws_szPlanKind [.agg [.str name, .int .i64 quick, .int .i64 slow], .int .i64 left] [] (.int .i64 (szL left (w_PlanKind name quick slow))) [] := by
  refine CallOK.of R_laws_szPlanKind_ok (by kernel_rfl) (t_laws_szPlanKind name quick slow left) ?_
  simp only [ok_PlanKind, Bool.and_eq_true] at hg
  obtain ⟨⟨g0, -⟩, hl⟩ := hg
  rw [w_PlanKind]
  rw [szWrap hl g0]
  by_cases c0 : left - ((name.length : Nat) : Int) < 0
  · rw [decide_eq_true c0]; exact Sat.retI (szL_neg c0).symm rfl
  rw [decide_eq_false c0, szL_add c0]
  simp only [ifb_false]
  have hl0 := leftOk_sub hl c0
  obtain ⟨x0, e0, p0⟩ : ∃ y, left - ((name.length : Nat) : Int) = y ∧ 0 ≤ y := ⟨_, rfl, by omega⟩
  rw [e0] at hl0 ⊢
  exact Sat.retI (szL_zero p0).symm rfl
theorem E_laws_szPlanKind_ok : EntOK Tryz.prog CP g_laws_szPlanKind E_laws_szPlanKind := by
  refine ⟨⟨Tryz.f248, by kernel_rfl, by kernel_rfl, by kernel_rfl⟩, fun args H res H' h => ?_⟩
  simp only [E_laws_szPlanKind] at h
  split at h
  · simp only [Option.some.injEq, Prod.mk.injEq] at h
    obtain ⟨hg, rfl, rfl⟩ := h
    exact c_laws_szPlanKind _ _ _ _ hg
  · cases h

/-- laws.szPlanKindS -/
noncomputable def R_laws_szPlanKindS : RE Ty El := ⟨Tryz.prog, CP, [(g_laws_szPlanKind, E_laws_szPlanKind)], Tryz.f199, 0, [], [(5, [(0, .any), (1, .any), (5, .any)])]⟩
theorem R_laws_szPlanKindS_ok : REOK R_laws_szPlanKindS g_laws_szPlanKindS := ⟨CP_ok, (TabOK.cons E_laws_szPlanKind_ok EOKnil), by kernel_rfl, by kernel_rfl⟩
theorem t_laws_szPlanKindS (l : List Kind) (left : Int) : aRun R_laws_szPlanKindS 600 false (body0 R_laws_szPlanKindS.fn) (initSt R_laws_szPlanKindS.fn [.sl .lkind l, .int .i64 left] []) =
  ifb (decide (IntKind.i64.wrap (left - (↑l.length : Int)) < (0 : Int))) (some (.ret (.int .i64 (-1 : Int)) [])) (some (.go (todoAt R_laws_szPlanKindS.fn 5) [.sl .lkind l, .int .i64 (IntKind.i64.wrap (left - (↑l.length : Int))), .int .i64 (0 : Int)] [])) := by kernel_rfl
theorem t_laws_szPlanKindS_5 (x0 : List (El .lkind)) (x1 : Int) (x2 : Int) : aRun R_laws_szPlanKindS 600 true (todoAt R_laws_szPlanKindS.fn 5) (cutSt R_laws_szPlanKindS.fn (liveOf R_laws_szPlanKindS (todoAt R_laws_szPlanKindS.fn 5)) [.sl .lkind x0, .int .i64 x1, .int .i64 x2] []) =
  ifb (decide (x2 < (↑x0.length : Int))) (ifb (inb x2 x0.length) (ifb (ok_PlanKind (x0.getD x2.toNat (R_laws_szPlanKindS.C.dflt Ty.lkind)).name (x0.getD x2.toNat (R_laws_szPlanKindS.C.dflt Ty.lkind)).quick (x0.getD x2.toNat (R_laws_szPlanKindS.C.dflt Ty.lkind)).slow && leftOk x1) (ifb (decide (szL x1 (w_PlanKind (x0.getD x2.toNat (R_laws_szPlanKindS.C.dflt Ty.lkind)).name (x0.getD x2.toNat (R_laws_szPlanKindS.C.dflt Ty.lkind)).quick (x0.getD x2.toNat (R_laws_szPlanKindS.C.dflt Ty.lkind)).slow) < (0 : Int))) (some (.ret (.int .i64 (-1 : Int)) [])) (some (.go (todoAt R_laws_szPlanKindS.fn 5) [.sl .lkind x0, .int .i64 (szL x1 (w_PlanKind (x0.getD x2.toNat (R_laws_szPlanKindS.C.dflt Ty.lkind)).name (x0.getD x2.toNat (R_laws_szPlanKindS.C.dflt Ty.lkind)).quick (x0.getD x2.toNat (R_laws_szPlanKindS.C.dflt Ty.lkind)).slow)), .int .i64 (IntKind.i64.wrap (x2 + (1 : Int)))] []))) (none)) (none)) (some (.ret (.int .i64 x1) [])) := by kernel_rfl
theorem l_laws_szPlanKindS (l : List Kind) (g0 : lenOk l.length = true) (g1 : l.all (fun z : Kind => ok_PlanKind z.name z.quick z.slow) = true) : ∀ (d i : Nat) (x : Int), i + d = l.length → leftOk x = true → 0 ≤ x →
    Cut R_laws_szPlanKindS g_laws_szPlanKindS 5 [.sl .lkind l, .int .i64 x, .int .i64 (i : Int)] [] (.int .i64 (szL x (sumN (fun z : Kind => w_PlanKind z.name z.quick z.slow) (l.drop i)))) [] := by
  have gl := lenOk_le g0
  intro d
  induction d with
  | zero =>
    intro i x hi hx p
    refine Cut.of R_laws_szPlanKindS_ok rfl (t_laws_szPlanKindS_5 l x i) ?_
    rw [decide_eq_false (by omega), List.drop_of_length_le (by omega)]
    exact Sat.retI (szL_zero p).symm rfl
  | succ d ih =>
    intro i x hi hx p
    refine Cut.of R_laws_szPlanKindS_ok rfl (t_laws_szPlanKindS_5 l x i) ?_
    have hlt : i < l.length := by omega
    have hw : IntKind.wrap .i64 ((i : Int) + 1) = ((i + 1 : Nat) : Int) := by rw [wrap_ok] <;> omega
    have hw1 : IntKind.wrap .i64 ((i : Int) - 1) = (i : Int) - 1 := by rw [wrap_ok] <;> omega
    have hd : l.drop i = l[i] :: l.drop (i + 1) := List.drop_eq_getElem_cons hlt
    have hx0 : l.getD (i : Int).toNat (R_laws_szPlanKindS.C.dflt .lkind) = l[i] := by simp [hlt]
    have hin : inb (i : Int) l.length = true := by simp only [inb, Bool.and_eq_true, decide_eq_true_eq]; omega
    have hlo : decide ((i : Int) < (l.length : Int)) = true := decide_eq_true (by omega)
    have htk := List.take_succ_eq_append_getElem hlt
    have hl : (l.take (i + 1)).getLast? = some l[i] := by rw [List.take_succ_eq_append_getElem hlt, List.getLast?_concat]
    rw [hlo, hin, hx0, hw, hd, sumN_cons]
    simp only [ifb_true]
    have hok := List.all_eq_true.1 g1 l[i] (List.getElem_mem hlt)
    rw [show (ok_PlanKind l[i].name l[i].quick l[i].slow && leftOk x) = true by rw [hok, hx]; rfl]
    simp only [ifb_true]
    by_cases c1 : x - ((w_PlanKind l[i].name l[i].quick l[i].slow : Nat) : Int) < 0
    · rw [szL_lt c1]; exact Sat.retI (szL_neg c1).symm rfl
    rw [szL_ge c1]
    rw [decide_eq_false c1, szL_add c1]
    simp only [ifb_false]
    have hl1 := leftOk_sub hx c1
    obtain ⟨x1, e1, p1⟩ : ∃ y, x - ((w_PlanKind l[i].name l[i].quick l[i].slow : Nat) : Int) = y ∧ 0 ≤ y := ⟨_, rfl, by omega⟩
    rw [e1] at hl1 ⊢
    exact Sat.cut (ih (i + 1) x1 (by omega) hl1 p1)
theorem c_laws_szPlanKindS (l : List Kind) (left : Int) (hg : (okS_PlanKind l && leftOk left) = true) : CallOK Tryz.prog CP g_laws_szPlanKindS [.sl .lkind l, .int .i64 left] [] (.int .i64 (szL left (wS_PlanKind l))) [] := by
  refine CallOK.of R_laws_szPlanKindS_ok (by kernel_rfl) (t_laws_szPlanKindS l left) ?_
  simp only [okS_PlanKind, Bool.and_eq_true] at hg
  obtain ⟨⟨g0, g1⟩, hl⟩ := hg
  rw [wS_PlanKind]
  rw [szWrap hl g0]
  by_cases c0 : left - ((l.length : Nat) : Int) < 0
  · rw [decide_eq_true c0]; exact Sat.retI (szL_neg c0).symm rfl
  rw [decide_eq_false c0, szL_add c0]
  simp only [ifb_false]
  have hl0 := leftOk_sub hl c0
  obtain ⟨x0, e0, p0⟩ : ∃ y, left - ((l.length : Nat) : Int) = y ∧ 0 ≤ y := ⟨_, rfl, by omega⟩
  rw [e0] at hl0 ⊢
  exact Sat.cut (l_laws_szPlanKindS l g0 g1 l.length 0 x0 (by omega) hl0 p0)
theorem E_laws_szPlanKindS_ok : EntOK Tryz.prog CP g_laws_szPlanKindS E_laws_szPlanKindS := by
  refine ⟨⟨Tryz.f199, by kernel_rfl, by kernel_rfl, by kernel_rfl⟩, fun args H res H' h => ?_⟩
  simp only [E_laws_szPlanKindS] at h
  split at h
  · simp only [Option.some.injEq, Prod.mk.injEq] at h
    obtain ⟨hg, rfl, rfl⟩ := h
    exact c_laws_szPlanKindS _ _ hg
  · cases h

/-- laws.szPlanPoint -/
noncomputable def R_laws_szPlanPoint : RE Ty El := ⟨Tryz.prog, CP, [], Tryz.f249, 0, [], []⟩
theorem R_laws_szPlanPoint_ok : REOK R_laws_szPlanPoint g_laws_szPlanPoint := ⟨CP_ok, EOKnil, by kernel_rfl, by kernel_rfl⟩
theorem t_laws_szPlanPoint (name : Str) (x : Int) (y : Int) (left : Int) : aRun R_laws_szPlanPoint 600 false (body0 R_laws_szPlanPoint.fn) (initSt R_laws_szPlanPoint.fn [.agg [.str name, .int .i64 x, .int .i64 y], .int .i64 left] []) =
  ifb (decide (IntKind.i64.wrap (left - (↑(List.length name) : Int)) < (0 : Int))) (some (.ret (.int .i64 (-1 : Int)) [])) (some (.ret (.int .i64 (IntKind.i64.wrap (left - (↑(List.length name) : Int)))) [])) := by kernel_rfl
theorem c_laws_szPlanPoint (name : Str) (x : Int) (y : Int) (left : Int) (hg : (ok_PlanPoint name x y && leftOk left) = true) : CallOK Tryz.prog CP g_laws_szPlanPoint [.agg [.str name, .int .i64 x, .int .i64 y], .int .i64 left] [] (.int .i64 (szL left (w_PlanPoint name x y))) [] := by
  refine CallOK.of R_laws_szPlanPoint_ok (by kernel_rfl) (t_laws_szPlanPoint name x y left) ?_
  simp only [ok_PlanPoint, Bool.and_eq_true] at hg
  obtain ⟨⟨g0, -⟩, hl⟩ := hg
  rw [w_PlanPoint]
  rw [szWrap hl g0]
  by_cases c0 : left - ((name.length : Nat) : Int) < 0
  · rw [decide_eq_true c0]; exact Sat.retI (szL_neg c0).symm rfl
  rw [decide_eq_false c0, szL_add c0]
  simp only [ifb_false]
  have hl0 := leftOk_sub hl c0
  obtain ⟨x0, e0, p0⟩ : ∃ y, left - ((name.length : Nat) : Int) = y ∧ 0 ≤ y := ⟨_, rfl, by omega⟩
  rw [e0] at hl0 ⊢
  exact Sat.retI (szL_zero p0).symm rfl
theorem E_laws_szPlanPoint_ok : EntOK Tryz.prog CP g_laws_szPlanPoint E_laws_szPlanPoint := by
  refine ⟨⟨Tryz.f249, by kernel_rfl, by kernel_rfl, by kernel_rfl⟩, fun args H res H' h => ?_⟩
  simp only [E_laws_szPlanPoint] at h
  split at h
  · simp only [Option.some.injEq, Prod.mk.injEq] at h
    obtain ⟨hg, rfl, rfl⟩ := h
    exact c_laws_szPlanPoint _ _ _ _ hg
  · cases h

/-- laws.szPlanPointS -/
noncomputable def R_laws_szPlanPointS : RE Ty El := ⟨Tryz.prog, CP, [(g_laws_szPlanPoint, E_laws_szPlanPoint)], Tryz.f200, 0, [], [(5, [(0, .any), (1, .any), (5, .any)])]⟩
theorem R_laws_szPlanPointS_ok : REOK R_laws_szPlanPointS g_laws_szPlanPointS := ⟨CP_ok, (TabOK.cons E_laws_szPlanPoint_ok EOKnil), by kernel_rfl, by kernel_rfl⟩
theorem t_laws_szPlanPointS (l : List Point) (left : Int) : aRun R_laws_szPlanPointS 600 false (body0 R_laws_szPlanPointS.fn) (initSt R_laws_szPlanPointS.fn [.sl .lpoint l, .int .i64 left] []) =
  ifb (decide (IntKind.i64.wrap (left - (↑l.length : Int)) < (0 : Int))) (some (.ret (.int .i64 (-1 : Int)) [])) (some (.go (todoAt R_laws_szPlanPointS.fn 5) [.sl .lpoint l, .int .i64 (IntKind.i64.wrap (left - (↑l.length : Int))), .int .i64 (0 : Int)] [])) := by kernel_rfl
theorem t_laws_szPlanPointS_5 (x0 : List (El .lpoint)) (x1 : Int) (x2 : Int) : aRun R_laws_szPlanPointS 600 true (todoAt R_laws_szPlanPointS.fn 5) (cutSt R_laws_szPlanPointS.fn (liveOf R_laws_szPlanPointS (todoAt R_laws_szPlanPointS.fn 5)) [.sl .lpoint x0, .int .i64 x1, .int .i64 x2] []) =
  ifb (decide (x2 < (↑x0.length : Int))) (ifb (inb x2 x0.length) (ifb (ok_PlanPoint (x0.getD x2.toNat (R_laws_szPlanPointS.C.dflt Ty.lpoint)).name (x0.getD x2.toNat (R_laws_szPlanPointS.C.dflt Ty.lpoint)).x (x0.getD x2.toNat (R_laws_szPlanPointS.C.dflt Ty.lpoint)).y && leftOk x1) (ifb (decide (szL x1 (w_PlanPoint (x0.getD x2.toNat (R_laws_szPlanPointS.C.dflt Ty.lpoint)).name (x0.getD x2.toNat (R_laws_szPlanPointS.C.dflt Ty.lpoint)).x (x0.getD x2.toNat (R_laws_szPlanPointS.C.dflt Ty.lpoint)).y) < (0 : Int))) (some (.ret (.int .i64 (-1 : Int)) [])) (some (.go (todoAt R_laws_szPlanPointS.fn 5) [.sl .lpoint x0, .int .i64 (szL x1 (w_PlanPoint (x0.getD x2.toNat (R_laws_szPlanPointS.C.dflt Ty.lpoint)).name (x0.getD x2.toNat (R_laws_szPlanPointS.C.dflt Ty.lpoint)).x (x0.getD x2.toNat (R_laws_szPlanPointS.C.dflt Ty.lpoint)).y)), .int .i64 (IntKind.i64.wrap (x2 + (1 : Int)))] []))) (none)) (none)) (some (.ret (.int .i64 x1) [])) := by kernel_rfl
theorem l_laws_szPlanPointS (l : List Point) (g0 : lenOk l.length = true) (g1 : l.all (fun z : Point => ok_PlanPoint z.name z.x z.y) = true) : ∀ (d i : Nat) (x : Int), i + d = l.length → leftOk x = true → 0 ≤ x →
    Cut R_laws_szPlanPointS g_laws_szPlanPointS 5 [.sl .lpoint l, .int .i64 x, .int .i64 (i : Int)] [] (.int .i64 (szL x (sumN (fun z : Point => w_PlanPoint z.name z.x z.y) (l.drop i)))) [] := by
  have gl := lenOk_le g0
  intro d
  induction d with
  | zero =>
    intro i x hi hx p
    refine Cut.of R_laws_szPlanPointS_ok rfl (t_laws_szPlanPointS_5 l x i) ?_
    rw [decide_eq_false (by omega), List.drop_of_length_le (by omega)]
    exact Sat.retI (szL_zero p).symm rfl
  | succ d ih =>
    intro i x hi hx p
    refine Cut.of R_laws_szPlanPointS_ok rfl (t_laws_szPlanPointS_5 l x i) ?_
    have hlt : i < l.length := by omega
    have hw : IntKind.wrap .i64 ((i : Int) + 1) = ((i + 1 : Nat) : Int) := by rw [wrap_ok] <;> omega
    have hw1 : IntKind.wrap .i64 ((i : Int) - 1) = (i : Int) - 1 := by rw [wrap_ok] <;> omega
    have hd : l.drop i = l[i] :: l.drop (i + 1) := List.drop_eq_getElem_cons hlt
    have hx0 : l.getD (i : Int).toNat (R_laws_szPlanPointS.C.dflt .lpoint) = l[i] := by simp [hlt]
    have hin : inb (i : Int) l.length = true := by simp only [inb, Bool.and_eq_true, decide_eq_true_eq]; omega
    have hlo : decide ((i : Int) < (l.length : Int)) = true := decide_eq_true (by omega)
    have htk := List.take_succ_eq_append_getElem hlt
    have hl : (l.take (i + 1)).getLast? = some l[i] := by rw [List.take_succ_eq_append_getElem hlt, List.getLast?_concat]
    rw [hlo, hin, hx0, hw, hd, sumN_cons]
    simp only [ifb_true]
    have hok := List.all_eq_true.1 g1 l[i] (List.getElem_mem hlt)
    rw [show (ok_PlanPoint l[i].name l[i].x l[i].y && leftOk x) = true by rw [hok, hx]; rfl]
    simp only [ifb_true]
    by_cases c1 : x - ((w_PlanPoint l[i].name l[i].x l[i].y : Nat) : Int) < 0
    · rw [szL_lt c1]; exact Sat.retI (szL_neg c1).symm rfl
    rw [szL_ge c1]
    rw [decide_eq_false c1, szL_add c1]
    simp only [ifb_false]
    have hl1 := leftOk_sub hx c1
    obtain ⟨x1, e1, p1⟩ : ∃ y, x - ((w_PlanPoint l[i].name l[i].x l[i].y : Nat) : Int) = y ∧ 0 ≤ y := ⟨_, rfl, by omega⟩
    rw [e1] at hl1 ⊢
    exact Sat.cut (ih (i + 1) x1 (by omega) hl1 p1)
theorem c_laws_szPlanPointS (l : List Point) (left : Int) (hg : (okS_PlanPoint l && leftOk left) = true) : CallOK Tryz.prog CP g_laws_szPlanPointS [.sl .lpoint l, .int .i64 left] [] (.int .i64 (szL left (wS_PlanPoint l))) [] := by
  refine CallOK.of R_laws_szPlanPointS_ok (by kernel_rfl) (t_laws_szPlanPointS l left) ?_
  simp only [okS_PlanPoint, Bool.and_eq_true] at hg
  obtain ⟨⟨g0, g1⟩, hl⟩ := hg
  rw [wS_PlanPoint]
  rw [szWrap hl g0]
  by_cases c0 : left - ((l.length : Nat) : Int) < 0
  · rw [decide_eq_true c0]; exact Sat.retI (szL_neg c0).symm rfl
  rw [decide_eq_false c0, szL_add c0]
  simp only [ifb_false]
  have hl0 := leftOk_sub hl c0
  obtain ⟨x0, e0, p0⟩ : ∃ y, left - ((l.length : Nat) : Int) = y ∧ 0 ≤ y := ⟨_, rfl, by omega⟩
  rw [e0] at hl0 ⊢
  exact Sat.cut (l_laws_szPlanPointS l g0 g1 l.length 0 x0 (by omega) hl0 p0)
theorem E_laws_szPlanPointS_ok : EntOK Tryz.prog CP g_laws_szPlanPointS E_laws_szPlanPointS := by
  refine ⟨⟨Tryz.f200, by kernel_rfl, by kernel_rfl, by kernel_rfl⟩, fun args H res H' h => ?_⟩
  simp only [E_laws_szPlanPointS] at h
  split at h
  · simp only [Option.some.injEq, Prod.mk.injEq] at h
    obtain ⟨hg, rfl, rfl⟩ := h
    exact c_laws_szPlanPointS _ _ hg
  · cases h

/-- laws.szPlanBase -/
noncomputable def R_laws_szPlanBase : RE Ty El := ⟨Tryz.prog, CP, [(g_laws_szPlanKindS, E_laws_szPlanKindS), (g_laws_szPlanPointS, E_laws_szPlanPointS)], Tryz.f127, 0, [], []⟩
theorem R_laws_szPlanBase_ok : REOK R_laws_szPlanBase g_laws_szPlanBase := ⟨CP_ok, (TabOK.cons E_laws_szPlanKindS_ok (TabOK.cons E_laws_szPlanPointS_ok EOKnil)), by kernel_rfl, by kernel_rfl⟩
theorem t_laws_szPlanBase (ks : List Kind) (ps : List Point) (left : Int) : aRun R_laws_szPlanBase 600 false (body0 R_laws_szPlanBase.fn) (initSt R_laws_szPlanBase.fn [.agg [.sl .lkind ks, .sl .lpoint ps], .int .i64 left] []) =
  ifb (okS_PlanKind ks && leftOk left) (ifb (decide (szL left (wS_PlanKind ks) < (0 : Int))) (some (.ret (.int .i64 (-1 : Int)) [])) (ifb (okS_PlanPoint ps && leftOk (szL left (wS_PlanKind ks))) (ifb (decide (szL (szL left (wS_PlanKind ks)) (wS_PlanPoint ps) < (0 : Int))) (some (.ret (.int .i64 (-1 : Int)) [])) (some (.ret (.int .i64 (szL (szL left (wS_PlanKind ks)) (wS_PlanPoint ps))) []))) (none))) (none) := by kernel_rfl
theorem c_laws_szPlanBase (ks : List Kind) (ps : List Point) (left : Int) (hg : (ok_PlanBase ks ps && leftOk left) = true) : CallOK Tryz.prog CP g_laws_szPlanBase [.agg [.sl .lkind ks, .sl .lpoint ps], .int .i64 left] [] (.int .i64 (szL left (w_PlanBase ks ps))) [] := by
  refine CallOK.of R_laws_szPlanBase_ok (by kernel_rfl) (t_laws_szPlanBase ks ps left) ?_
  simp only [ok_PlanBase, Bool.and_eq_true] at hg
  obtain ⟨⟨g0, g1, -⟩, hl⟩ := hg
  rw [w_PlanBase]
  rw [show (okS_PlanKind ks && leftOk left) = true by rw [g0, hl]; rfl]
  simp only [ifb_true]
  by_cases c0 : left - ((wS_PlanKind ks : Nat) : Int) < 0
  · rw [szL_lt c0]; exact Sat.retI (szL_neg c0).symm rfl
  rw [szL_ge c0]
  rw [decide_eq_false c0, szL_add c0]
  simp only [ifb_false]
  have hl0 := leftOk_sub hl c0
  obtain ⟨x0, e0, p0⟩ : ∃ y, left - ((wS_PlanKind ks : Nat) : Int) = y ∧ 0 ≤ y := ⟨_, rfl, by omega⟩
  rw [e0] at hl0 ⊢
  rw [show (okS_PlanPoint ps && leftOk x0) = true by rw [g1, hl0]; rfl]
  simp only [ifb_true]
  by_cases c1 : x0 - ((wS_PlanPoint ps : Nat) : Int) < 0
  · rw [szL_lt c1]; exact Sat.retI (szL_neg c1).symm rfl
  rw [szL_ge c1]
  rw [decide_eq_false c1, szL_add c1]
  simp only [ifb_false]
  have hl1 := leftOk_sub hl0 c1
  obtain ⟨x1, e1, p1⟩ : ∃ y, x0 - ((wS_PlanPoint ps : Nat) : Int) = y ∧ 0 ≤ y := ⟨_, rfl, by omega⟩
  rw [e1] at hl1 ⊢
  exact Sat.retI (szL_zero p1).symm rfl
theorem E_laws_szPlanBase_ok : EntOK Tryz.prog CP g_laws_szPlanBase E_laws_szPlanBase := by
  refine ⟨⟨Tryz.f127, by kernel_rfl, by kernel_rfl, by kernel_rfl⟩, fun args H res H' h => ?_⟩
  simp only [E_laws_szPlanBase] at h
  split at h
  · simp only [Option.some.injEq, Prod.mk.injEq] at h
    obtain ⟨hg, rfl, rfl⟩ := h
    exact c_laws_szPlanBase _ _ _ hg
  · cases h

/-- laws.szPlanField -/
noncomputable def R_laws_szPlanField : RE Ty El := ⟨Tryz.prog, CP, [], Tryz.f298, 0, [], []⟩
theorem R_laws_szPlanField_ok : REOK R_laws_szPlanField g_laws_szPlanField := ⟨CP_ok, EOKnil, by kernel_rfl, by kernel_rfl⟩
theorem t_laws_szPlanField (what : Int) (number : Int) (value : Str) (left : Int) : aRun R_laws_szPlanField 600 false (body0 R_laws_szPlanField.fn) (initSt R_laws_szPlanField.fn [.agg [.int .i64 what, .int .i64 number, .str value], .int .i64 left] []) =
  ifb (decide (IntKind.i64.wrap (left - (↑(List.length value) : Int)) < (0 : Int))) (some (.ret (.int .i64 (-1 : Int)) [])) (some (.ret (.int .i64 (IntKind.i64.wrap (left - (↑(List.length value) : Int)))) [])) := by kernel_rfl
theorem c_laws_szPlanField (what : Int) (number : Int) (value : Str) (left : Int) (hg : (ok_PlanField what number value && leftOk left) = true) : CallOK Tryz.prog CP g_laws_szPlanField [.agg [.int .i64 what, .int .i64 number, .str value], .int .i64 left] [] (.int .i64 (szL left (w_PlanField what number value))) [] := by
  refine CallOK.of R_laws_szPlanField_ok (by kernel_rfl) (t_laws_szPlanField what number value left) ?_
  simp only [ok_PlanField, Bool.and_eq_true] at hg
  obtain ⟨⟨g0, -⟩, hl⟩ := hg
  rw [w_PlanField]
  rw [szWrap hl g0]
  by_cases c0 : left - ((value.length : Nat) : Int) < 0
  · rw [decide_eq_true c0]; exact Sat.retI (szL_neg c0).symm rfl
  rw [decide_eq_false c0, szL_add c0]
  simp only [ifb_false]
  have hl0 := leftOk_sub hl c0
  obtain ⟨x0, e0, p0⟩ : ∃ y, left - ((value.length : Nat) : Int) = y ∧ 0 ≤ y := ⟨_, rfl, by omega⟩
  rw [e0] at hl0 ⊢
  exact Sat.retI (szL_zero p0).symm rfl
theorem E_laws_szPlanField_ok : EntOK Tryz.prog CP g_laws_szPlanField E_laws_szPlanField := by
  refine ⟨⟨Tryz.f298, by kernel_rfl, by kernel_rfl, by kernel_rfl⟩, fun args H res H' h => ?_⟩
  simp only [E_laws_szPlanField] at h
  split at h
  · simp only [Option.some.injEq, Prod.mk.injEq] at h
    obtain ⟨hg, rfl, rfl⟩ := h
    exact c_laws_szPlanField _ _ _ _ hg
  · cases h

/-- laws.szPlanFieldS -/
noncomputable def R_laws_szPlanFieldS : RE Ty El := ⟨Tryz.prog, CP, [(g_laws_szPlanField, E_laws_szPlanField)], Tryz.f250, 0, [], [(5, [(0, .any), (1, .any), (5, .any)])]⟩
theorem R_laws_szPlanFieldS_ok : REOK R_laws_szPlanFieldS g_laws_szPlanFieldS := ⟨CP_ok, (TabOK.cons E_laws_szPlanField_ok EOKnil), by kernel_rfl, by kernel_rfl⟩
theorem t_laws_szPlanFieldS (l : List Fld) (left : Int) : aRun R_laws_szPlanFieldS 600 false (body0 R_laws_szPlanFieldS.fn) (initSt R_laws_szPlanFieldS.fn [.sl .lfld l, .int .i64 left] []) =
  ifb (decide (IntKind.i64.wrap (left - (↑l.length : Int)) < (0 : Int))) (some (.ret (.int .i64 (-1 : Int)) [])) (some (.go (todoAt R_laws_szPlanFieldS.fn 5) [.sl .lfld l, .int .i64 (IntKind.i64.wrap (left - (↑l.length : Int))), .int .i64 (0 : Int)] [])) := by kernel_rfl
theorem t_laws_szPlanFieldS_5 (x0 : List (El .lfld)) (x1 : Int) (x2 : Int) : aRun R_laws_szPlanFieldS 600 true (todoAt R_laws_szPlanFieldS.fn 5) (cutSt R_laws_szPlanFieldS.fn (liveOf R_laws_szPlanFieldS (todoAt R_laws_szPlanFieldS.fn 5)) [.sl .lfld x0, .int .i64 x1, .int .i64 x2] []) =
  ifb (decide (x2 < (↑x0.length : Int))) (ifb (inb x2 x0.length) (ifb (ok_PlanField (x0.getD x2.toNat (R_laws_szPlanFieldS.C.dflt Ty.lfld)).what (x0.getD x2.toNat (R_laws_szPlanFieldS.C.dflt Ty.lfld)).number (x0.getD x2.toNat (R_laws_szPlanFieldS.C.dflt Ty.lfld)).value && leftOk x1) (ifb (decide (szL x1 (w_PlanField (x0.getD x2.toNat (R_laws_szPlanFieldS.C.dflt Ty.lfld)).what (x0.getD x2.toNat (R_laws_szPlanFieldS.C.dflt Ty.lfld)).number (x0.getD x2.toNat (R_laws_szPlanFieldS.C.dflt Ty.lfld)).value) < (0 : Int))) (some (.ret (.int .i64 (-1 : Int)) [])) (some (.go (todoAt R_laws_szPlanFieldS.fn 5) [.sl .lfld x0, .int .i64 (szL x1 (w_PlanField (x0.getD x2.toNat (R_laws_szPlanFieldS.C.dflt Ty.lfld)).what (x0.getD x2.toNat (R_laws_szPlanFieldS.C.dflt Ty.lfld)).number (x0.getD x2.toNat (R_laws_szPlanFieldS.C.dflt Ty.lfld)).value)), .int .i64 (IntKind.i64.wrap (x2 + (1 : Int)))] []))) (none)) (none)) (some (.ret (.int .i64 x1) [])) := by kernel_rfl
theorem l_laws_szPlanFieldS (l : List Fld) (g0 : lenOk l.length = true) (g1 : l.all (fun z : Fld => ok_PlanField z.what z.number z.value) = true) : ∀ (d i : Nat) (x : Int), i + d = l.length → leftOk x = true → 0 ≤ x →
    Cut R_laws_szPlanFieldS g_laws_szPlanFieldS 5 [.sl .lfld l, .int .i64 x, .int .i64 (i : Int)] [] (.int .i64 (szL x (sumN (fun z : Fld => w_PlanField z.what z.number z.value) (l.drop i)))) [] := by
  have gl := lenOk_le g0
  intro d
  induction d with
  | zero =>
    intro i x hi hx p
    refine Cut.of R_laws_szPlanFieldS_ok rfl (t_laws_szPlanFieldS_5 l x i) ?_
    rw [decide_eq_false (by omega), List.drop_of_length_le (by omega)]
    exact Sat.retI (szL_zero p).symm rfl
  | succ d ih =>
    intro i x hi hx p
    refine Cut.of R_laws_szPlanFieldS_ok rfl (t_laws_szPlanFieldS_5 l x i) ?_
    have hlt : i < l.length := by omega
    have hw : IntKind.wrap .i64 ((i : Int) + 1) = ((i + 1 : Nat) : Int) := by rw [wrap_ok] <;> omega
    have hw1 : IntKind.wrap .i64 ((i : Int) - 1) = (i : Int) - 1 := by rw [wrap_ok] <;> omega
    have hd : l.drop i = l[i] :: l.drop (i + 1) := List.drop_eq_getElem_cons hlt
    have hx0 : l.getD (i : Int).toNat (R_laws_szPlanFieldS.C.dflt .lfld) = l[i] := by simp [hlt]
    have hin : inb (i : Int) l.length = true := by simp only [inb, Bool.and_eq_true, decide_eq_true_eq]; omega
    have hlo : decide ((i : Int) < (l.length : Int)) = true := decide_eq_true (by omega)
    have htk := List.take_succ_eq_append_getElem hlt
    have hl : (l.take (i + 1)).getLast? = some l[i] := by rw [List.take_succ_eq_append_getElem hlt, List.getLast?_concat]
    rw [hlo, hin, hx0, hw, hd, sumN_cons]
    simp only [ifb_true]
    have hok := List.all_eq_true.1 g1 l[i] (List.getElem_mem hlt)
    rw [show (ok_PlanField l[i].what l[i].number l[i].value && leftOk x) = true by rw [hok, hx]; rfl]
    simp only [ifb_true]
    by_cases c1 : x - ((w_PlanField l[i].what l[i].number l[i].value : Nat) : Int) < 0
    · rw [szL_lt c1]; exact Sat.retI (szL_neg c1).symm rfl
    rw [szL_ge c1]
    rw [decide_eq_false c1, szL_add c1]
    simp only [ifb_false]
    have hl1 := leftOk_sub hx c1
    obtain ⟨x1, e1, p1⟩ : ∃ y, x - ((w_PlanField l[i].what l[i].number l[i].value : Nat) : Int) = y ∧ 0 ≤ y := ⟨_, rfl, by omega⟩
    rw [e1] at hl1 ⊢
    exact Sat.cut (ih (i + 1) x1 (by omega) hl1 p1)
theorem c_laws_szPlanFieldS (l : List Fld) (left : Int) (hg : (okS_PlanField l && leftOk left) = true) : CallOK Tryz.prog CP g_laws_szPlanFieldS [.sl .lfld l, .int .i64 left] [] (.int .i64 (szL left (wS_PlanField l))) [] := by
  refine CallOK.of R_laws_szPlanFieldS_ok (by kernel_rfl) (t_laws_szPlanFieldS l left) ?_
  simp only [okS_PlanField, Bool.and_eq_true] at hg
  obtain ⟨⟨g0, g1⟩, hl⟩ := hg
  rw [wS_PlanField]
  rw [szWrap hl g0]
  by_cases c0 : left - ((l.length : Nat) : Int) < 0
  · rw [decide_eq_true c0]; exact Sat.retI (szL_neg c0).symm rfl
  rw [decide_eq_false c0, szL_add c0]
  simp only [ifb_false]
  have hl0 := leftOk_sub hl c0
  obtain ⟨x0, e0, p0⟩ : ∃ y, left - ((l.length : Nat) : Int) = y ∧ 0 ≤ y := ⟨_, rfl, by omega⟩
  rw [e0] at hl0 ⊢
  exact Sat.cut (l_laws_szPlanFieldS l g0 g1 l.length 0 x0 (by omega) hl0 p0)
theorem E_laws_szPlanFieldS_ok : EntOK Tryz.prog CP g_laws_szPlanFieldS E_laws_szPlanFieldS := by
  refine ⟨⟨Tryz.f250, by kernel_rfl, by kernel_rfl, by kernel_rfl⟩, fun args H res H' h => ?_⟩
  simp only [E_laws_szPlanFieldS] at h
  split at h
  · simp only [Option.some.injEq, Prod.mk.injEq] at h
    obtain ⟨hg, rfl, rfl⟩ := h
    exact c_laws_szPlanFieldS _ _ hg
  · cases h

/-- laws.szPlanEntry -/
noncomputable def R_laws_szPlanEntry : RE Ty El := ⟨Tryz.prog, CP, [(g_laws_szPlanFieldS, E_laws_szPlanFieldS)], Tryz.f201, 0, [], []⟩
theorem R_laws_szPlanEntry_ok : REOK R_laws_szPlanEntry g_laws_szPlanEntry := ⟨CP_ok, (TabOK.cons E_laws_szPlanFieldS_ok EOKnil), by kernel_rfl, by kernel_rfl⟩
theorem t_laws_szPlanEntry (name : Str) (fields : List Fld) (left : Int) : aRun R_laws_szPlanEntry 600 false (body0 R_laws_szPlanEntry.fn) (initSt R_laws_szPlanEntry.fn [.agg [.str name, .sl .lfld fields], .int .i64 left] []) =
  ifb (decide (IntKind.i64.wrap (left - (↑(List.length name) : Int)) < (0 : Int))) (some (.ret (.int .i64 (-1 : Int)) [])) (ifb (okS_PlanField fields && leftOk (IntKind.i64.wrap (left - (↑(List.length name) : Int)))) (ifb (decide (szL (IntKind.i64.wrap (left - (↑(List.length name) : Int))) (wS_PlanField fields) < (0 : Int))) (some (.ret (.int .i64 (-1 : Int)) [])) (some (.ret (.int .i64 (szL (IntKind.i64.wrap (left - (↑(List.length name) : Int))) (wS_PlanField fields))) []))) (none)) := by kernel_rfl
theorem c_laws_szPlanEntry (name : Str) (fields : List Fld) (left : Int) (hg : (ok_PlanEntry name fields && leftOk left) = true) : CallOK Tryz.prog CP g_laws_szPlanEntry [.agg [.str name, .sl .lfld fields], .int .i64 left] [] (.int .i64 (szL left (w_PlanEntry name fields))) [] := by
  refine CallOK.of R_laws_szPlanEntry_ok (by kernel_rfl) (t_laws_szPlanEntry name fields left) ?_
  simp only [ok_PlanEntry, Bool.and_eq_true] at hg
  obtain ⟨⟨g0, g1, -⟩, hl⟩ := hg
  rw [w_PlanEntry]
  rw [szWrap hl g0]
  by_cases c0 : left - ((name.length : Nat) : Int) < 0
  · rw [decide_eq_true c0]; exact Sat.retI (szL_neg c0).symm rfl
  rw [decide_eq_false c0, szL_add c0]
  simp only [ifb_false]
  have hl0 := leftOk_sub hl c0
  obtain ⟨x0, e0, p0⟩ : ∃ y, left - ((name.length : Nat) : Int) = y ∧ 0 ≤ y := ⟨_, rfl, by omega⟩
  rw [e0] at hl0 ⊢
  rw [show (okS_PlanField fields && leftOk x0) = true by rw [g1, hl0]; rfl]
  simp only [ifb_true]
  by_cases c1 : x0 - ((wS_PlanField fields : Nat) : Int) < 0
  · rw [szL_lt c1]; exact Sat.retI (szL_neg c1).symm rfl
  rw [szL_ge c1]
  rw [decide_eq_false c1, szL_add c1]
  simp only [ifb_false]
  have hl1 := leftOk_sub hl0 c1
  obtain ⟨x1, e1, p1⟩ : ∃ y, x0 - ((wS_PlanField fields : Nat) : Int) = y ∧ 0 ≤ y := ⟨_, rfl, by omega⟩
  rw [e1] at hl1 ⊢
  exact Sat.retI (szL_zero p1).symm rfl
theorem E_laws_szPlanEntry_ok : EntOK Tryz.prog CP g_laws_szPlanEntry E_laws_szPlanEntry := by
  refine ⟨⟨Tryz.f201, by kernel_rfl, by kernel_rfl, by kernel_rfl⟩, fun args H res H' h => ?_⟩
  simp only [E_laws_szPlanEntry] at h
  split at h
  · simp only [Option.some.injEq, Prod.mk.injEq] at h
    obtain ⟨hg, rfl, rfl⟩ := h
    exact c_laws_szPlanEntry _ _ _ hg
  · cases h

/-- laws.szPlanEntryS -/
noncomputable def R_laws_szPlanEntryS : RE Ty El := ⟨Tryz.prog, CP, [(g_laws_szPlanEntry, E_laws_szPlanEntry)], Tryz.f128, 0, [], [(5, [(0, .any), (1, .any), (5, .any)])]⟩
theorem R_laws_szPlanEntryS_ok : REOK R_laws_szPlanEntryS g_laws_szPlanEntryS := ⟨CP_ok, (TabOK.cons E_laws_szPlanEntry_ok EOKnil), by kernel_rfl, by kernel_rfl⟩
theorem t_laws_szPlanEntryS (l : List Entry) (left : Int) : aRun R_laws_szPlanEntryS 600 false (body0 R_laws_szPlanEntryS.fn) (initSt R_laws_szPlanEntryS.fn [.sl .lentry l, .int .i64 left] []) =
  ifb (decide (IntKind.i64.wrap (left - (↑l.length : Int)) < (0 : Int))) (some (.ret (.int .i64 (-1 : Int)) [])) (some (.go (todoAt R_laws_szPlanEntryS.fn 5) [.sl .lentry l, .int .i64 (IntKind.i64.wrap (left - (↑l.length : Int))), .int .i64 (0 : Int)] [])) := by kernel_rfl
theorem t_laws_szPlanEntryS_5 (x0 : List (El .lentry)) (x1 : Int) (x2 : Int) : aRun R_laws_szPlanEntryS 600 true (todoAt R_laws_szPlanEntryS.fn 5) (cutSt R_laws_szPlanEntryS.fn (liveOf R_laws_szPlanEntryS (todoAt R_laws_szPlanEntryS.fn 5)) [.sl .lentry x0, .int .i64 x1, .int .i64 x2] []) =
  ifb (decide (x2 < (↑x0.length : Int))) (ifb (inb x2 x0.length) (ifb (ok_PlanEntry (x0.getD x2.toNat (R_laws_szPlanEntryS.C.dflt Ty.lentry)).name (x0.getD x2.toNat (R_laws_szPlanEntryS.C.dflt Ty.lentry)).fields && leftOk x1) (ifb (decide (szL x1 (w_PlanEntry (x0.getD x2.toNat (R_laws_szPlanEntryS.C.dflt Ty.lentry)).name (x0.getD x2.toNat (R_laws_szPlanEntryS.C.dflt Ty.lentry)).fields) < (0 : Int))) (some (.ret (.int .i64 (-1 : Int)) [])) (some (.go (todoAt R_laws_szPlanEntryS.fn 5) [.sl .lentry x0, .int .i64 (szL x1 (w_PlanEntry (x0.getD x2.toNat (R_laws_szPlanEntryS.C.dflt Ty.lentry)).name (x0.getD x2.toNat (R_laws_szPlanEntryS.C.dflt Ty.lentry)).fields)), .int .i64 (IntKind.i64.wrap (x2 + (1 : Int)))] []))) (none)) (none)) (some (.ret (.int .i64 x1) [])) := by kernel_rfl
theorem l_laws_szPlanEntryS (l : List Entry) (g0 : lenOk l.length = true) (g1 : l.all (fun z : Entry => ok_PlanEntry z.name z.fields) = true) : ∀ (d i : Nat) (x : Int), i + d = l.length → leftOk x = true → 0 ≤ x →
    Cut R_laws_szPlanEntryS g_laws_szPlanEntryS 5 [.sl .lentry l, .int .i64 x, .int .i64 (i : Int)] [] (.int .i64 (szL x (sumN (fun z : Entry => w_PlanEntry z.name z.fields) (l.drop i)))) [] := by
  have gl := lenOk_le g0
  intro d
  induction d with
  | zero =>
    intro i x hi hx p
    refine Cut.of R_laws_szPlanEntryS_ok rfl (t_laws_szPlanEntryS_5 l x i) ?_
    rw [decide_eq_false (by omega), List.drop_of_length_le (by omega)]
    exact Sat.retI (szL_zero p).symm rfl
  | succ d ih =>
    intro i x hi hx p
    refine Cut.of R_laws_szPlanEntryS_ok rfl (t_laws_szPlanEntryS_5 l x i) ?_
    have hlt : i < l.length := by omega
    have hw : IntKind.wrap .i64 ((i : Int) + 1) = ((i + 1 : Nat) : Int) := by rw [wrap_ok] <;> omega
    have hw1 : IntKind.wrap .i64 ((i : Int) - 1) = (i : Int) - 1 := by rw [wrap_ok] <;> omega
    have hd : l.drop i = l[i] :: l.drop (i + 1) := List.drop_eq_getElem_cons hlt
    have hx0 : l.getD (i : Int).toNat (R_laws_szPlanEntryS.C.dflt .lentry) = l[i] := by simp [hlt]
    have hin : inb (i : Int) l.length = true := by simp only [inb, Bool.and_eq_true, decide_eq_true_eq]; omega
    have hlo : decide ((i : Int) < (l.length : Int)) = true := decide_eq_true (by omega)
    have htk := List.take_succ_eq_append_getElem hlt
    have hl : (l.take (i + 1)).getLast? = some l[i] := by rw [List.take_succ_eq_append_getElem hlt, List.getLast?_concat]
    rw [hlo, hin, hx0, hw, hd, sumN_cons]
    simp only [ifb_true]
    have hok := List.all_eq_true.1 g1 l[i] (List.getElem_mem hlt)
    rw [show (ok_PlanEntry l[i].name l[i].fields && leftOk x) = true by rw [hok, hx]; rfl]
    simp only [ifb_true]
    by_cases c1 : x - ((w_PlanEntry l[i].name l[i].fields : Nat) : Int) < 0
    · rw [szL_lt c1]; exact Sat.retI (szL_neg c1).symm rfl
    rw [szL_ge c1]
    rw [decide_eq_false c1, szL_add c1]
    simp only [ifb_false]
    have hl1 := leftOk_sub hx c1
    obtain ⟨x1, e1, p1⟩ : ∃ y, x - ((w_PlanEntry l[i].name l[i].fields : Nat) : Int) = y ∧ 0 ≤ y := ⟨_, rfl, by omega⟩
    rw [e1] at hl1 ⊢
    exact Sat.cut (ih (i + 1) x1 (by omega) hl1 p1)
theorem c_laws_szPlanEntryS (l : List Entry) (left : Int) (hg : (okS_PlanEntry l && leftOk left) = true) : CallOK Tryz.prog CP g_laws_szPlanEntryS [.sl .lentry l, .int .i64 left] [] (.int .i64 (szL left (wS_PlanEntry l))) [] := by
  refine CallOK.of R_laws_szPlanEntryS_ok (by kernel_rfl) (t_laws_szPlanEntryS l left) ?_
  simp only [okS_PlanEntry, Bool.and_eq_true] at hg
  obtain ⟨⟨g0, g1⟩, hl⟩ := hg
  rw [wS_PlanEntry]
  rw [szWrap hl g0]
  by_cases c0 : left - ((l.length : Nat) : Int) < 0
  · rw [decide_eq_true c0]; exact Sat.retI (szL_neg c0).symm rfl
  rw [decide_eq_false c0, szL_add c0]
  simp only [ifb_false]
  have hl0 := leftOk_sub hl c0
  obtain ⟨x0, e0, p0⟩ : ∃ y, left - ((l.length : Nat) : Int) = y ∧ 0 ≤ y := ⟨_, rfl, by omega⟩
  rw [e0] at hl0 ⊢
  exact Sat.cut (l_laws_szPlanEntryS l g0 g1 l.length 0 x0 (by omega) hl0 p0)
theorem E_laws_szPlanEntryS_ok : EntOK Tryz.prog CP g_laws_szPlanEntryS E_laws_szPlanEntryS := by
  refine ⟨⟨Tryz.f128, by kernel_rfl, by kernel_rfl, by kernel_rfl⟩, fun args H res H' h => ?_⟩
  simp only [E_laws_szPlanEntryS] at h
  split at h
  · simp only [Option.some.injEq, Prod.mk.injEq] at h
    obtain ⟨hg, rfl, rfl⟩ := h
    exact c_laws_szPlanEntryS _ _ hg
  · cases h

/-- laws.szPlanBook -/
noncomputable def R_laws_szPlanBook : RE Ty El := ⟨Tryz.prog, CP, [(g_laws_szPlanBase, E_laws_szPlanBase), (g_laws_szPlanEntryS, E_laws_szPlanEntryS)], Tryz.f38, 0, [], []⟩
theorem R_laws_szPlanBook_ok : REOK R_laws_szPlanBook g_laws_szPlanBook := ⟨CP_ok, (TabOK.cons E_laws_szPlanBase_ok (TabOK.cons E_laws_szPlanEntryS_ok EOKnil)), by kernel_rfl, by kernel_rfl⟩
theorem t_laws_szPlanBook (ks : List Kind) (ps : List Point) (es : List Entry) (left : Int) : aRun R_laws_szPlanBook 600 false (body0 R_laws_szPlanBook.fn) (initSt R_laws_szPlanBook.fn [.agg [.sl .lkind ks, .sl .lpoint ps, .sl .lentry es], .int .i64 left] []) =
  ifb (ok_PlanBase ks ps && leftOk left) (ifb (decide (szL left (w_PlanBase ks ps) < (0 : Int))) (some (.ret (.int .i64 (-1 : Int)) [])) (ifb (okS_PlanEntry es && leftOk (szL left (w_PlanBase ks ps))) (ifb (decide (szL (szL left (w_PlanBase ks ps)) (wS_PlanEntry es) < (0 : Int))) (some (.ret (.int .i64 (-1 : Int)) [])) (some (.ret (.int .i64 (szL (szL left (w_PlanBase ks ps)) (wS_PlanEntry es))) []))) (none))) (none) := by kernel_rfl
theorem c_laws_szPlanBook (ks : List Kind) (ps : List Point) (es : List Entry) (left : Int) (hg : (ok_PlanBook ks ps es && leftOk left) = true) : CallOK Tryz.prog CP g_laws_szPlanBook [.agg [.sl .lkind ks, .sl .lpoint ps, .sl .lentry es], .int .i64 left] [] (.int .i64 (szL left (w_PlanBook ks ps es))) [] := by
  refine CallOK.of R_laws_szPlanBook_ok (by kernel_rfl) (t_laws_szPlanBook ks ps es left) ?_
  simp only [ok_PlanBook, Bool.and_eq_true] at hg
  obtain ⟨⟨g0, g1, -⟩, hl⟩ := hg
  rw [w_PlanBook]
  rw [show (ok_PlanBase ks ps && leftOk left) = true by rw [g0, hl]; rfl]
  simp only [ifb_true]
  by_cases c0 : left - ((w_PlanBase ks ps : Nat) : Int) < 0
  · rw [szL_lt c0]; exact Sat.retI (szL_neg c0).symm rfl
  rw [szL_ge c0]
  rw [decide_eq_false c0, szL_add c0]
  simp only [ifb_false]
  have hl0 := leftOk_sub hl c0
  obtain ⟨x0, e0, p0⟩ : ∃ y, left - ((w_PlanBase ks ps : Nat) : Int) = y ∧ 0 ≤ y := ⟨_, rfl, by omega⟩
  rw [e0] at hl0 ⊢
  rw [show (okS_PlanEntry es && leftOk x0) = true by rw [g1, hl0]; rfl]
  simp only [ifb_true]
  by_cases c1 : x0 - ((wS_PlanEntry es : Nat) : Int) < 0
  · rw [szL_lt c1]; exact Sat.retI (szL_neg c1).symm rfl
  rw [szL_ge c1]
  rw [decide_eq_false c1, szL_add c1]
  simp only [ifb_false]
  have hl1 := leftOk_sub hl0 c1
  obtain ⟨x1, e1, p1⟩ : ∃ y, x0 - ((wS_PlanEntry es : Nat) : Int) = y ∧ 0 ≤ y := ⟨_, rfl, by omega⟩
  rw [e1] at hl1 ⊢
  exact Sat.retI (szL_zero p1).symm rfl
theorem E_laws_szPlanBook_ok : EntOK Tryz.prog CP g_laws_szPlanBook E_laws_szPlanBook := by
  refine ⟨⟨Tryz.f38, by kernel_rfl, by kernel_rfl, by kernel_rfl⟩, fun args H res H' h => ?_⟩
  simp only [E_laws_szPlanBook] at h
  split at h
  · simp only [Option.some.injEq, Prod.mk.injEq] at h
    obtain ⟨hg, rfl, rfl⟩ := h
    exact c_laws_szPlanBook _ _ _ _ hg
  · cases h

/-- laws.toPlanKind -/
noncomputable def R_laws_toPlanKind : RE Ty El := ⟨Tryz.prog, CP, [], Tryz.f251, 0, [], []⟩
theorem R_laws_toPlanKind_ok : REOK R_laws_toPlanKind g_laws_toPlanKind := ⟨CP_ok, EOKnil, by kernel_rfl, by kernel_rfl⟩
theorem t_laws_toPlanKind (name : Str) (quick : Int) (slow : Int) : aRun R_laws_toPlanKind 600 false (body0 R_laws_toPlanKind.fn) (initSt R_laws_toPlanKind.fn [.agg [.str name, .int .i64 quick, .int .i64 slow]] []) =
  some (.ret (.agg [.str name, .int .i64 quick, .int .i64 slow]) []) := by kernel_rfl
theorem c_laws_toPlanKind (name : Str) (quick : Int) (slow : Int) : CallOK Tryz.prog CP g_laws_toPlanKind [.agg [.str name, .int .i64 quick, .int .i64 slow]] [] (.agg [.str name, .int .i64 quick, .int .i64 slow]) [] := by
  refine CallOK.of R_laws_toPlanKind_ok (by kernel_rfl) (t_laws_toPlanKind name quick slow) ?_
  exact Sat.ret rfl rfl
theorem E_laws_toPlanKind_ok : EntOK Tryz.prog CP g_laws_toPlanKind E_laws_toPlanKind := by
  refine ⟨⟨Tryz.f251, by kernel_rfl, by kernel_rfl, by kernel_rfl⟩, fun args H res H' h => ?_⟩
  simp only [E_laws_toPlanKind] at h
  split at h
  · simp only [Option.some.injEq, Prod.mk.injEq] at h
    obtain ⟨hg, rfl, rfl⟩ := h
    exact c_laws_toPlanKind _ _ _
  · cases h

/-- laws.toPlanKindS -/
noncomputable def R_laws_toPlanKindS : RE Ty El := ⟨Tryz.prog, CP, [(g_laws_toPlanKind, E_laws_toPlanKind)], Tryz.f202, 0, [], [(3, [(0, .any), (3, .any), (4, .any)])]⟩
theorem R_laws_toPlanKindS_ok : REOK R_laws_toPlanKindS g_laws_toPlanKindS := ⟨CP_ok, (TabOK.cons E_laws_toPlanKind_ok EOKnil), by kernel_rfl, by kernel_rfl⟩
theorem t_laws_toPlanKindS (l : List Kind) : aRun R_laws_toPlanKindS 600 false (body0 R_laws_toPlanKindS.fn) (initSt R_laws_toPlanKindS.fn [.sl .lkind l] []) =
  ifb (decide ((0 : Int) ≤ (↑l.length : Int)) && (decide ((↑l.length : Int) = (↑l.length : Int)) && decide ((↑(bytesOf' R_laws_toPlanKindS.P (40 : Nat)) : Int) * (↑l.length : Int) ≤ (281474976710656 : Int)))) (some (.go (todoAt R_laws_toPlanKindS.fn 3) [.sl .lkind l, .own 0 [] 0, .int .i64 (0 : Int)] [.row .kind (List.replicate (↑l.length : Int).toNat (R_laws_toPlanKindS.C.dflt Ty.kind)) 0 0 0 .no])) (none) := by kernel_rfl
theorem t_laws_toPlanKindS_3 (x0 : List (El .lkind)) (x1 : Int) (x2 : List (El .kind)) : aRun R_laws_toPlanKindS 600 true (todoAt R_laws_toPlanKindS.fn 3) (cutSt R_laws_toPlanKindS.fn (liveOf R_laws_toPlanKindS (todoAt R_laws_toPlanKindS.fn 3)) [.sl .lkind x0, .own 0 [] 0, .int .i64 x1] [.row .kind x2 0 0 0 .no]) =
  ifb (decide (x1 < (↑x0.length : Int))) (ifb (inb x1 x0.length) (ifb (inb x1 x2.length) (some (.go (todoAt R_laws_toPlanKindS.fn 3) [.sl .lkind x0, .own 0 [] 0, .int .i64 (IntKind.i64.wrap (x1 + (1 : Int)))] [.row .kind (x2.set x1.toNat (x0.getD x1.toNat (R_laws_toPlanKindS.C.dflt Ty.lkind))) 0 0 0 .no])) (none)) (none)) (some (.ret (.own 0 [] 0) [.row .kind x2 0 0 0 .no])) := by kernel_rfl
theorem l_laws_toPlanKindS (l : List Kind) (g0 : l.length ≤ 1000000000) (g1 : True) : ∀ (d i : Nat), i + d = l.length →
    Cut R_laws_toPlanKindS g_laws_toPlanKindS 3 [.sl .lkind l, .own 0 [] 0, .int .i64 (i : Int)] [.row .kind (l.take i ++ List.replicate d (R_laws_toPlanKindS.C.dflt .kind)) 0 0 0 .no] (.own 0 [] 0) [.row .kind l 0 0 0 .no] := by
  intro d
  induction d with
  | zero =>
    intro i hi
    refine Cut.of R_laws_toPlanKindS_ok rfl (t_laws_toPlanKindS_3 l i _) ?_
    rw [decide_eq_false (by omega), List.take_of_length_le (by omega)]
    refine Sat.ret rfl ?_
    simp
  | succ d ih =>
    intro i hi
    refine Cut.of R_laws_toPlanKindS_ok rfl (t_laws_toPlanKindS_3 l i _) ?_
    have hlt : i < l.length := by omega
    have hw : IntKind.wrap .i64 ((i : Int) + 1) = ((i + 1 : Nat) : Int) := by rw [wrap_ok] <;> omega
    have hw1 : IntKind.wrap .i64 ((i : Int) - 1) = (i : Int) - 1 := by rw [wrap_ok] <;> omega
    have hd : l.drop i = l[i] :: l.drop (i + 1) := List.drop_eq_getElem_cons hlt
    have hx : l.getD (i : Int).toNat (R_laws_toPlanKindS.C.dflt .lkind) = l[i] := by simp [hlt]
    have hin : inb (i : Int) l.length = true := by simp only [inb, Bool.and_eq_true, decide_eq_true_eq]; omega
    have hlo : decide ((i : Int) < (l.length : Int)) = true := decide_eq_true (by omega)
    have htk := List.take_succ_eq_append_getElem hlt
    have hl : (l.take (i + 1)).getLast? = some l[i] := by rw [List.take_succ_eq_append_getElem hlt, List.getLast?_concat]
    have hin2 : inb (i : Int) (l.take i ++ List.replicate (d + 1) (R_laws_toPlanKindS.C.dflt .kind)).length = true := by simp only [inb, Bool.and_eq_true, decide_eq_true_eq, List.length_append, List.length_take, List.length_replicate]; omega
    rw [hlo, hin, hin2, hx, hw]
    simp only [ifb_true]
    have e : (l.take i ++ List.replicate (d + 1) (R_laws_toPlanKindS.C.dflt .kind)).set ((i : Int).toNat) l[i] = l.take (i + 1) ++ List.replicate d (R_laws_toPlanKindS.C.dflt .kind) := set_fill hlt
    rw [e]
    exact Sat.cut (ih (i + 1) (by omega))
theorem c_laws_toPlanKindS (l : List Kind) (hg : tS_PlanKind l = true) : CallOK Tryz.prog CP g_laws_toPlanKindS [.sl .lkind l] [] (.own 0 [] 0) [.row .kind l 0 0 0 .no] := by
  refine CallOK.of R_laws_toPlanKindS_ok (by kernel_rfl) (t_laws_toPlanKindS l) ?_
  simp only [tS_PlanKind, Bool.and_eq_true, decide_eq_true_eq] at hg
  obtain ⟨g0, g1⟩ := hg
  have hb : bytesOf' R_laws_toPlanKindS.P 40 ≤ 256 := of_decide_eq_true (by kernel_rfl)
  rw [makeOk hb g0]
  simp only [ifb_true, Int.toNat_natCast]
  have := l_laws_toPlanKindS l g0 trivial l.length 0 (by omega)
  exact Sat.cut this
theorem E_laws_toPlanKindS_ok : EntOK Tryz.prog CP g_laws_toPlanKindS E_laws_toPlanKindS := by
  refine ⟨⟨Tryz.f202, by kernel_rfl, by kernel_rfl, by kernel_rfl⟩, fun args H res H' h => ?_⟩
  simp only [E_laws_toPlanKindS] at h
  split at h
  · simp only [Option.some.injEq, Prod.mk.injEq] at h
    obtain ⟨hg, rfl, rfl⟩ := h
    exact c_laws_toPlanKindS _ hg
  · cases h

/-- laws.toPlanPoint -/
noncomputable def R_laws_toPlanPoint : RE Ty El := ⟨Tryz.prog, CP, [], Tryz.f252, 0, [], []⟩
theorem R_laws_toPlanPoint_ok : REOK R_laws_toPlanPoint g_laws_toPlanPoint := ⟨CP_ok, EOKnil, by kernel_rfl, by kernel_rfl⟩
theorem t_laws_toPlanPoint (name : Str) (x : Int) (y : Int) : aRun R_laws_toPlanPoint 600 false (body0 R_laws_toPlanPoint.fn) (initSt R_laws_toPlanPoint.fn [.agg [.str name, .int .i64 x, .int .i64 y]] []) =
  some (.ret (.agg [.str name, .int .i64 x, .int .i64 y]) []) := by kernel_rfl
theorem c_laws_toPlanPoint (name : Str) (x : Int) (y : Int) : CallOK Tryz.prog CP g_laws_toPlanPoint [.agg [.str name, .int .i64 x, .int .i64 y]] [] (.agg [.str name, .int .i64 x, .int .i64 y]) [] := by
  refine CallOK.of R_laws_toPlanPoint_ok (by kernel_rfl) (t_laws_toPlanPoint name x y) ?_
  exact Sat.ret rfl rfl
theorem E_laws_toPlanPoint_ok : EntOK Tryz.prog CP g_laws_toPlanPoint E_laws_toPlanPoint := by
  refine ⟨⟨Tryz.f252, by kernel_rfl, by kernel_rfl, by kernel_rfl⟩, fun args H res H' h => ?_⟩
  simp only [E_laws_toPlanPoint] at h
  split at h
  · simp only [Option.some.injEq, Prod.mk.injEq] at h
    obtain ⟨hg, rfl, rfl⟩ := h
    exact c_laws_toPlanPoint _ _ _
  · cases h

/-- laws.toPlanPointS -/
noncomputable def R_laws_toPlanPointS : RE Ty El := ⟨Tryz.prog, CP, [(g_laws_toPlanPoint, E_laws_toPlanPoint)], Tryz.f203, 0, [], [(3, [(0, .any), (3, .any), (4, .any)])]⟩
theorem R_laws_toPlanPointS_ok : REOK R_laws_toPlanPointS g_laws_toPlanPointS := ⟨CP_ok, (TabOK.cons E_laws_toPlanPoint_ok EOKnil), by kernel_rfl, by kernel_rfl⟩
theorem t_laws_toPlanPointS (l : List Point) : aRun R_laws_toPlanPointS 600 false (body0 R_laws_toPlanPointS.fn) (initSt R_laws_toPlanPointS.fn [.sl .lpoint l] []) =
  ifb (decide ((0 : Int) ≤ (↑l.length : Int)) && (decide ((↑l.length : Int) = (↑l.length : Int)) && decide ((↑(bytesOf' R_laws_toPlanPointS.P (160 : Nat)) : Int) * (↑l.length : Int) ≤ (281474976710656 : Int)))) (some (.go (todoAt R_laws_toPlanPointS.fn 3) [.sl .lpoint l, .own 0 [] 0, .int .i64 (0 : Int)] [.row .point (List.replicate (↑l.length : Int).toNat (R_laws_toPlanPointS.C.dflt Ty.point)) 0 0 0 .no])) (none) := by kernel_rfl
theorem t_laws_toPlanPointS_3 (x0 : List (El .lpoint)) (x1 : Int) (x2 : List (El .point)) : aRun R_laws_toPlanPointS 600 true (todoAt R_laws_toPlanPointS.fn 3) (cutSt R_laws_toPlanPointS.fn (liveOf R_laws_toPlanPointS (todoAt R_laws_toPlanPointS.fn 3)) [.sl .lpoint x0, .own 0 [] 0, .int .i64 x1] [.row .point x2 0 0 0 .no]) =
  ifb (decide (x1 < (↑x0.length : Int))) (ifb (inb x1 x0.length) (ifb (inb x1 x2.length) (some (.go (todoAt R_laws_toPlanPointS.fn 3) [.sl .lpoint x0, .own 0 [] 0, .int .i64 (IntKind.i64.wrap (x1 + (1 : Int)))] [.row .point (x2.set x1.toNat (x0.getD x1.toNat (R_laws_toPlanPointS.C.dflt Ty.lpoint))) 0 0 0 .no])) (none)) (none)) (some (.ret (.own 0 [] 0) [.row .point x2 0 0 0 .no])) := by kernel_rfl
theorem l_laws_toPlanPointS (l : List Point) (g0 : l.length ≤ 1000000000) (g1 : True) : ∀ (d i : Nat), i + d = l.length →
    Cut R_laws_toPlanPointS g_laws_toPlanPointS 3 [.sl .lpoint l, .own 0 [] 0, .int .i64 (i : Int)] [.row .point (l.take i ++ List.replicate d (R_laws_toPlanPointS.C.dflt .point)) 0 0 0 .no] (.own 0 [] 0) [.row .point l 0 0 0 .no] := by
  intro d
  induction d with
  | zero =>
    intro i hi
    refine Cut.of R_laws_toPlanPointS_ok rfl (t_laws_toPlanPointS_3 l i _) ?_
    rw [decide_eq_false (by omega), List.take_of_length_le (by omega)]
    refine Sat.ret rfl ?_
    simp
  | succ d ih =>
    intro i hi
    refine Cut.of R_laws_toPlanPointS_ok rfl (t_laws_toPlanPointS_3 l i _) ?_
    have hlt : i < l.length := by omega
    have hw : IntKind.wrap .i64 ((i : Int) + 1) = ((i + 1 : Nat) : Int) := by rw [wrap_ok] <;> omega
    have hw1 : IntKind.wrap .i64 ((i : Int) - 1) = (i : Int) - 1 := by rw [wrap_ok] <;> omega
    have hd : l.drop i = l[i] :: l.drop (i + 1) := List.drop_eq_getElem_cons hlt
    have hx : l.getD (i : Int).toNat (R_laws_toPlanPointS.C.dflt .lpoint) = l[i] := by simp [hlt]
    have hin : inb (i : Int) l.length = true := by simp only [inb, Bool.and_eq_true, decide_eq_true_eq]; omega
    have hlo : decide ((i : Int) < (l.length : Int)) = true := decide_eq_true (by omega)
    have htk := List.take_succ_eq_append_getElem hlt
    have hl : (l.take (i + 1)).getLast? = some l[i] := by rw [List.take_succ_eq_append_getElem hlt, List.getLast?_concat]
    have hin2 : inb (i : Int) (l.take i ++ List.replicate (d + 1) (R_laws_toPlanPointS.C.dflt .point)).length = true := by simp only [inb, Bool.and_eq_true, decide_eq_true_eq, List.length_append, List.length_take, List.length_replicate]; omega
    rw [hlo, hin, hin2, hx, hw]
    simp only [ifb_true]
    have e : (l.take i ++ List.replicate (d + 1) (R_laws_toPlanPointS.C.dflt .point)).set ((i : Int).toNat) l[i] = l.take (i + 1) ++ List.replicate d (R_laws_toPlanPointS.C.dflt .point) := set_fill hlt
    rw [e]
    exact Sat.cut (ih (i + 1) (by omega))
theorem c_laws_toPlanPointS (l : List Point) (hg : tS_PlanPoint l = true) : CallOK Tryz.prog CP g_laws_toPlanPointS [.sl .lpoint l] [] (.own 0 [] 0) [.row .point l 0 0 0 .no] := by
  refine CallOK.of R_laws_toPlanPointS_ok (by kernel_rfl) (t_laws_toPlanPointS l) ?_
  simp only [tS_PlanPoint, Bool.and_eq_true, decide_eq_true_eq] at hg
  obtain ⟨g0, g1⟩ := hg
  have hb : bytesOf' R_laws_toPlanPointS.P 160 ≤ 256 := of_decide_eq_true (by kernel_rfl)
  rw [makeOk hb g0]
  simp only [ifb_true, Int.toNat_natCast]
  have := l_laws_toPlanPointS l g0 trivial l.length 0 (by omega)
  exact Sat.cut this
theorem E_laws_toPlanPointS_ok : EntOK Tryz.prog CP g_laws_toPlanPointS E_laws_toPlanPointS := by
  refine ⟨⟨Tryz.f203, by kernel_rfl, by kernel_rfl, by kernel_rfl⟩, fun args H res H' h => ?_⟩
  simp only [E_laws_toPlanPointS] at h
  split at h
  · simp only [Option.some.injEq, Prod.mk.injEq] at h
    obtain ⟨hg, rfl, rfl⟩ := h
    exact c_laws_toPlanPointS _ hg
  · cases h

/-- laws.toPlanBase -/
noncomputable def R_laws_toPlanBase : RE Ty El := ⟨Tryz.prog, CP, [(g_laws_toPlanKindS, E_laws_toPlanKindS), (g_laws_toPlanPointS, E_laws_toPlanPointS)], Tryz.f129, 0, [], []⟩
theorem R_laws_toPlanBase_ok : REOK R_laws_toPlanBase g_laws_toPlanBase := ⟨CP_ok, (TabOK.cons E_laws_toPlanKindS_ok (TabOK.cons E_laws_toPlanPointS_ok EOKnil)), by kernel_rfl, by kernel_rfl⟩
theorem t_laws_toPlanBase (ks : List Kind) (ps : List Point) : aRun R_laws_toPlanBase 600 false (body0 R_laws_toPlanBase.fn) (initSt R_laws_toPlanBase.fn [.agg [.sl .lkind ks, .sl .lpoint ps]] []) =
  ifb (tS_PlanKind ks) (ifb (tS_PlanPoint ps) (some (.ret (.agg [.own 0 [] 0, .own 1 [] 0]) [.row .kind ks 0 0 0 .no, .row .point ps 0 0 0 .no])) (none)) (none) := by kernel_rfl
theorem c_laws_toPlanBase (ks : List Kind) (ps : List Point) (hg : t_PlanBase ks ps = true) : CallOK Tryz.prog CP g_laws_toPlanBase [.agg [.sl .lkind ks, .sl .lpoint ps]] [] (.agg [.own 0 [] 0, .own 1 [] 0]) [.row .kind ks 0 0 0 .no, .row .point ps 0 0 0 .no] := by
  refine CallOK.of R_laws_toPlanBase_ok (by kernel_rfl) (t_laws_toPlanBase ks ps) ?_
  simp only [t_PlanBase, Bool.and_eq_true] at hg
  obtain ⟨g0, g1, -⟩ := hg
  rw [show (tS_PlanKind ks) = true by assumption]
  simp only [ifb_true]
  rw [show (tS_PlanPoint ps) = true by assumption]
  simp only [ifb_true]
  exact Sat.ret rfl rfl
theorem E_laws_toPlanBase_ok : EntOK Tryz.prog CP g_laws_toPlanBase E_laws_toPlanBase := by
  refine ⟨⟨Tryz.f129, by kernel_rfl, by kernel_rfl, by kernel_rfl⟩, fun args H res H' h => ?_⟩
  simp only [E_laws_toPlanBase] at h
  split at h
  · simp only [Option.some.injEq, Prod.mk.injEq] at h
    obtain ⟨hg, rfl, rfl⟩ := h
    exact c_laws_toPlanBase _ _ hg
  · cases h

/-- laws.toPlanField -/
noncomputable def R_laws_toPlanField : RE Ty El := ⟨Tryz.prog, CP, [], Tryz.f299, 0, [], []⟩
theorem R_laws_toPlanField_ok : REOK R_laws_toPlanField g_laws_toPlanField := ⟨CP_ok, EOKnil, by kernel_rfl, by kernel_rfl⟩
theorem t_laws_toPlanField (what : Int) (number : Int) (value : Str) : aRun R_laws_toPlanField 600 false (body0 R_laws_toPlanField.fn) (initSt R_laws_toPlanField.fn [.agg [.int .i64 what, .int .i64 number, .str value]] []) =
  some (.ret (.agg [.int .i64 what, .int .i64 number, .str value]) []) := by kernel_rfl
theorem c_laws_toPlanField (what : Int) (number : Int) (value : Str) : CallOK Tryz.prog CP g_laws_toPlanField [.agg [.int .i64 what, .int .i64 number, .str value]] [] (.agg [.int .i64 what, .int .i64 number, .str value]) [] := by
  refine CallOK.of R_laws_toPlanField_ok (by kernel_rfl) (t_laws_toPlanField what number value) ?_
  exact Sat.ret rfl rfl
theorem E_laws_toPlanField_ok : EntOK Tryz.prog CP g_laws_toPlanField E_laws_toPlanField := by
  refine ⟨⟨Tryz.f299, by kernel_rfl, by kernel_rfl, by kernel_rfl⟩, fun args H res H' h => ?_⟩
  simp only [E_laws_toPlanField] at h
  split at h
  · simp only [Option.some.injEq, Prod.mk.injEq] at h
    obtain ⟨hg, rfl, rfl⟩ := h
    exact c_laws_toPlanField _ _ _
  · cases h

/-- laws.toPlanFieldS -/
noncomputable def R_laws_toPlanFieldS : RE Ty El := ⟨Tryz.prog, CP, [(g_laws_toPlanField, E_laws_toPlanField)], Tryz.f253, 0, [], [(3, [(0, .any), (3, .any), (4, .any)])]⟩
theorem R_laws_toPlanFieldS_ok : REOK R_laws_toPlanFieldS g_laws_toPlanFieldS := ⟨CP_ok, (TabOK.cons E_laws_toPlanField_ok EOKnil), by kernel_rfl, by kernel_rfl⟩
theorem t_laws_toPlanFieldS (l : List Fld) : aRun R_laws_toPlanFieldS 600 false (body0 R_laws_toPlanFieldS.fn) (initSt R_laws_toPlanFieldS.fn [.sl .lfld l] []) =
  ifb (decide ((0 : Int) ≤ (↑l.length : Int)) && (decide ((↑l.length : Int) = (↑l.length : Int)) && decide ((↑(bytesOf' R_laws_toPlanFieldS.P (94 : Nat)) : Int) * (↑l.length : Int) ≤ (281474976710656 : Int)))) (some (.go (todoAt R_laws_toPlanFieldS.fn 3) [.sl .lfld l, .own 0 [] 0, .int .i64 (0 : Int)] [.row .fld (List.replicate (↑l.length : Int).toNat (R_laws_toPlanFieldS.C.dflt Ty.fld)) 0 0 0 .no])) (none) := by kernel_rfl
theorem t_laws_toPlanFieldS_3 (x0 : List (El .lfld)) (x1 : Int) (x2 : List (El .fld)) : aRun R_laws_toPlanFieldS 600 true (todoAt R_laws_toPlanFieldS.fn 3) (cutSt R_laws_toPlanFieldS.fn (liveOf R_laws_toPlanFieldS (todoAt R_laws_toPlanFieldS.fn 3)) [.sl .lfld x0, .own 0 [] 0, .int .i64 x1] [.row .fld x2 0 0 0 .no]) =
  ifb (decide (x1 < (↑x0.length : Int))) (ifb (inb x1 x0.length) (ifb (inb x1 x2.length) (some (.go (todoAt R_laws_toPlanFieldS.fn 3) [.sl .lfld x0, .own 0 [] 0, .int .i64 (IntKind.i64.wrap (x1 + (1 : Int)))] [.row .fld (x2.set x1.toNat (x0.getD x1.toNat (R_laws_toPlanFieldS.C.dflt Ty.lfld))) 0 0 0 .no])) (none)) (none)) (some (.ret (.own 0 [] 0) [.row .fld x2 0 0 0 .no])) := by kernel_rfl
theorem l_laws_toPlanFieldS (l : List Fld) (g0 : l.length ≤ 1000000000) (g1 : True) : ∀ (d i : Nat), i + d = l.length →
    Cut R_laws_toPlanFieldS g_laws_toPlanFieldS 3 [.sl .lfld l, .own 0 [] 0, .int .i64 (i : Int)] [.row .fld (l.take i ++ List.replicate d (R_laws_toPlanFieldS.C.dflt .fld)) 0 0 0 .no] (.own 0 [] 0) [.row .fld l 0 0 0 .no] := by
  intro d
  induction d with
  | zero =>
    intro i hi
    refine Cut.of R_laws_toPlanFieldS_ok rfl (t_laws_toPlanFieldS_3 l i _) ?_
    rw [decide_eq_false (by omega), List.take_of_length_le (by omega)]
    refine Sat.ret rfl ?_
    simp
  | succ d ih =>
    intro i hi
    refine Cut.of R_laws_toPlanFieldS_ok rfl (t_laws_toPlanFieldS_3 l i _) ?_
    have hlt : i < l.length := by omega
    have hw : IntKind.wrap .i64 ((i : Int) + 1) = ((i + 1 : Nat) : Int) := by rw [wrap_ok] <;> omega
    have hw1 : IntKind.wrap .i64 ((i : Int) - 1) = (i : Int) - 1 := by rw [wrap_ok] <;> omega
    have hd : l.drop i = l[i] :: l.drop (i + 1) := List.drop_eq_getElem_cons hlt
    have hx : l.getD (i : Int).toNat (R_laws_toPlanFieldS.C.dflt .lfld) = l[i] := by simp [hlt]
    have hin : inb (i : Int) l.length = true := by simp only [inb, Bool.and_eq_true, decide_eq_true_eq]; omega
    have hlo : decide ((i : Int) < (l.length : Int)) = true := decide_eq_true (by omega)
    have htk := List.take_succ_eq_append_getElem hlt
    have hl : (l.take (i + 1)).getLast? = some l[i] := by rw [List.take_succ_eq_append_getElem hlt, List.getLast?_concat]
    have hin2 : inb (i : Int) (l.take i ++ List.replicate (d + 1) (R_laws_toPlanFieldS.C.dflt .fld)).length = true := by simp only [inb, Bool.and_eq_true, decide_eq_true_eq, List.length_append, List.length_take, List.length_replicate]; omega
    rw [hlo, hin, hin2, hx, hw]
    simp only [ifb_true]
    have e : (l.take i ++ List.replicate (d + 1) (R_laws_toPlanFieldS.C.dflt .fld)).set ((i : Int).toNat) l[i] = l.take (i + 1) ++ List.replicate d (R_laws_toPlanFieldS.C.dflt .fld) := set_fill hlt
    rw [e]
    exact Sat.cut (ih (i + 1) (by omega))
theorem c_laws_toPlanFieldS (l : List Fld) (hg : tS_PlanField l = true) : CallOK Tryz.prog CP g_laws_toPlanFieldS [.sl .lfld l] [] (.own 0 [] 0) [.row .fld l 0 0 0 .no] := by
  refine CallOK.of R_laws_toPlanFieldS_ok (by kernel_rfl) (t_laws_toPlanFieldS l) ?_
  simp only [tS_PlanField, Bool.and_eq_true, decide_eq_true_eq] at hg
  obtain ⟨g0, g1⟩ := hg
  have hb : bytesOf' R_laws_toPlanFieldS.P 94 ≤ 256 := of_decide_eq_true (by kernel_rfl)
  rw [makeOk hb g0]
  simp only [ifb_true, Int.toNat_natCast]
  have := l_laws_toPlanFieldS l g0 trivial l.length 0 (by omega)
  exact Sat.cut this
theorem E_laws_toPlanFieldS_ok : EntOK Tryz.prog CP g_laws_toPlanFieldS E_laws_toPlanFieldS := by
  refine ⟨⟨Tryz.f253, by kernel_rfl, by kernel_rfl, by kernel_rfl⟩, fun args H res H' h => ?_⟩
  simp only [E_laws_toPlanFieldS] at h
  split at h
  · simp only [Option.some.injEq, Prod.mk.injEq] at h
    obtain ⟨hg, rfl, rfl⟩ := h
    exact c_laws_toPlanFieldS _ hg
  · cases h

/-- laws.toPlanEntry -/
noncomputable def R_laws_toPlanEntry : RE Ty El := ⟨Tryz.prog, CP, [(g_laws_toPlanFieldS, E_laws_toPlanFieldS)], Tryz.f204, 0, [], []⟩
theorem R_laws_toPlanEntry_ok : REOK R_laws_toPlanEntry g_laws_toPlanEntry := ⟨CP_ok, (TabOK.cons E_laws_toPlanFieldS_ok EOKnil), by kernel_rfl, by kernel_rfl⟩
theorem t_laws_toPlanEntry (name : Str) (fields : List Fld) : aRun R_laws_toPlanEntry 600 false (body0 R_laws_toPlanEntry.fn) (initSt R_laws_toPlanEntry.fn [.agg [.str name, .sl .lfld fields]] []) =
  ifb (tS_PlanField fields) (some (.ret (.agg [.str name, .own 0 [] 0]) [.row .fld fields 0 0 0 .no])) (none) := by kernel_rfl
theorem c_laws_toPlanEntry (name : Str) (fields : List Fld) (hg : t_PlanEntry name fields = true) : CallOK Tryz.prog CP g_laws_toPlanEntry [.agg [.str name, .sl .lfld fields]] [] (.agg [.str name, .own 0 [] 0]) [.row .fld fields 0 0 0 .no] := by
  refine CallOK.of R_laws_toPlanEntry_ok (by kernel_rfl) (t_laws_toPlanEntry name fields) ?_
  simp only [t_PlanEntry, Bool.and_eq_true] at hg
  obtain ⟨g0, -⟩ := hg
  rw [show (tS_PlanField fields) = true by assumption]
  simp only [ifb_true]
  exact Sat.ret rfl rfl
theorem E_laws_toPlanEntry_ok : EntOK Tryz.prog CP g_laws_toPlanEntry E_laws_toPlanEntry := by
  refine ⟨⟨Tryz.f204, by kernel_rfl, by kernel_rfl, by kernel_rfl⟩, fun args H res H' h => ?_⟩
  simp only [E_laws_toPlanEntry] at h
  split at h
  · simp only [Option.some.injEq, Prod.mk.injEq] at h
    obtain ⟨hg, rfl, rfl⟩ := h
    exact c_laws_toPlanEntry _ _ hg
  · cases h

/-- laws.toPlanEntryS -/
noncomputable def R_laws_toPlanEntryS : RE Ty El := ⟨Tryz.prog, CP, [(g_laws_toPlanEntry, E_laws_toPlanEntry)], Tryz.f130, 0, [], [(3, [(0, .any), (3, .any), (4, .any)])]⟩
theorem R_laws_toPlanEntryS_ok : REOK R_laws_toPlanEntryS g_laws_toPlanEntryS := ⟨CP_ok, (TabOK.cons E_laws_toPlanEntry_ok EOKnil), by kernel_rfl, by kernel_rfl⟩
theorem t_laws_toPlanEntryS (l : List Entry) : aRun R_laws_toPlanEntryS 600 false (body0 R_laws_toPlanEntryS.fn) (initSt R_laws_toPlanEntryS.fn [.sl .lentry l] []) =
  ifb (decide ((0 : Int) ≤ (↑l.length : Int)) && (decide ((↑l.length : Int) = (↑l.length : Int)) && decide ((↑(bytesOf' R_laws_toPlanEntryS.P (92 : Nat)) : Int) * (↑l.length : Int) ≤ (281474976710656 : Int)))) (some (.go (todoAt R_laws_toPlanEntryS.fn 3) [.sl .lentry l, .own 0 [] 0, .int .i64 (0 : Int)] [.row .entry (List.replicate (↑l.length : Int).toNat (R_laws_toPlanEntryS.C.dflt Ty.entry)) 1 0 0 .no])) (none) := by kernel_rfl
theorem t_laws_toPlanEntryS_3 (x0 : List (El .lentry)) (x1 : Int) (x2 : List (El .entry)) : aRun R_laws_toPlanEntryS 600 true (todoAt R_laws_toPlanEntryS.fn 3) (cutSt R_laws_toPlanEntryS.fn (liveOf R_laws_toPlanEntryS (todoAt R_laws_toPlanEntryS.fn 3)) [.sl .lentry x0, .own 0 [] 0, .int .i64 x1] [.row .entry x2 1 0 0 .no]) =
  ifb (decide (x1 < (↑x0.length : Int))) (ifb (inb x1 x0.length) (ifb (t_PlanEntry (x0.getD x1.toNat (R_laws_toPlanEntryS.C.dflt Ty.lentry)).name (x0.getD x1.toNat (R_laws_toPlanEntryS.C.dflt Ty.lentry)).fields) (ifb (inb x1 x2.length) (some (.go (todoAt R_laws_toPlanEntryS.fn 3) [.sl .lentry x0, .own 0 [] 0, .int .i64 (IntKind.i64.wrap (x1 + (1 : Int)))] [.row .entry (x2.set x1.toNat (x0.getD x1.toNat (R_laws_toPlanEntryS.C.dflt Ty.lentry))) 1 0 0 .no])) (none)) (none)) (none)) (some (.ret (.own 0 [] 0) [.row .entry x2 1 0 0 .no])) := by kernel_rfl
theorem l_laws_toPlanEntryS (l : List Entry) (g0 : l.length ≤ 1000000000) (g1 : l.all (fun z : Entry => t_PlanEntry z.name z.fields) = true) : ∀ (d i : Nat), i + d = l.length →
    Cut R_laws_toPlanEntryS g_laws_toPlanEntryS 3 [.sl .lentry l, .own 0 [] 0, .int .i64 (i : Int)] [.row .entry (l.take i ++ List.replicate d (R_laws_toPlanEntryS.C.dflt .entry)) 1 0 0 .no] (.own 0 [] 0) [.row .entry l 1 0 0 .no] := by
  intro d
  induction d with
  | zero =>
    intro i hi
    refine Cut.of R_laws_toPlanEntryS_ok rfl (t_laws_toPlanEntryS_3 l i _) ?_
    rw [decide_eq_false (by omega), List.take_of_length_le (by omega)]
    refine Sat.ret rfl ?_
    simp
  | succ d ih =>
    intro i hi
    refine Cut.of R_laws_toPlanEntryS_ok rfl (t_laws_toPlanEntryS_3 l i _) ?_
    have hlt : i < l.length := by omega
    have hw : IntKind.wrap .i64 ((i : Int) + 1) = ((i + 1 : Nat) : Int) := by rw [wrap_ok] <;> omega
    have hw1 : IntKind.wrap .i64 ((i : Int) - 1) = (i : Int) - 1 := by rw [wrap_ok] <;> omega
    have hd : l.drop i = l[i] :: l.drop (i + 1) := List.drop_eq_getElem_cons hlt
    have hx : l.getD (i : Int).toNat (R_laws_toPlanEntryS.C.dflt .lentry) = l[i] := by simp [hlt]
    have hin : inb (i : Int) l.length = true := by simp only [inb, Bool.and_eq_true, decide_eq_true_eq]; omega
    have hlo : decide ((i : Int) < (l.length : Int)) = true := decide_eq_true (by omega)
    have htk := List.take_succ_eq_append_getElem hlt
    have hl : (l.take (i + 1)).getLast? = some l[i] := by rw [List.take_succ_eq_append_getElem hlt, List.getLast?_concat]
    have hin2 : inb (i : Int) (l.take i ++ List.replicate (d + 1) (R_laws_toPlanEntryS.C.dflt .entry)).length = true := by simp only [inb, Bool.and_eq_true, decide_eq_true_eq, List.length_append, List.length_take, List.length_replicate]; omega
    rw [hlo, hin, hin2, hx, hw]
    simp only [ifb_true]
    rw [show (t_PlanEntry l[i].name l[i].fields) = true from List.all_eq_true.1 g1 l[i] (List.getElem_mem hlt)]
    simp only [ifb_true]
    have e : (l.take i ++ List.replicate (d + 1) (R_laws_toPlanEntryS.C.dflt .entry)).set ((i : Int).toNat) l[i] = l.take (i + 1) ++ List.replicate d (R_laws_toPlanEntryS.C.dflt .entry) := set_fill hlt
    rw [e]
    exact Sat.cut (ih (i + 1) (by omega))
theorem c_laws_toPlanEntryS (l : List Entry) (hg : tS_PlanEntry l = true) : CallOK Tryz.prog CP g_laws_toPlanEntryS [.sl .lentry l] [] (.own 0 [] 0) [.row .entry l 1 0 0 .no] := by
  refine CallOK.of R_laws_toPlanEntryS_ok (by kernel_rfl) (t_laws_toPlanEntryS l) ?_
  simp only [tS_PlanEntry, Bool.and_eq_true, decide_eq_true_eq] at hg
  obtain ⟨g0, g1⟩ := hg
  have hb : bytesOf' R_laws_toPlanEntryS.P 92 ≤ 256 := of_decide_eq_true (by kernel_rfl)
  rw [makeOk hb g0]
  simp only [ifb_true, Int.toNat_natCast]
  have := l_laws_toPlanEntryS l g0 g1 l.length 0 (by omega)
  exact Sat.cut this
theorem E_laws_toPlanEntryS_ok : EntOK Tryz.prog CP g_laws_toPlanEntryS E_laws_toPlanEntryS := by
  refine ⟨⟨Tryz.f130, by kernel_rfl, by kernel_rfl, by kernel_rfl⟩, fun args H res H' h => ?_⟩
  simp only [E_laws_toPlanEntryS] at h
  split at h
  · simp only [Option.some.injEq, Prod.mk.injEq] at h
    obtain ⟨hg, rfl, rfl⟩ := h
    exact c_laws_toPlanEntryS _ hg
  · cases h

/-- laws.toPlanBook -/
noncomputable def R_laws_toPlanBook : RE Ty El := ⟨Tryz.prog, CP, [(g_laws_toPlanBase, E_laws_toPlanBase), (g_laws_toPlanEntryS, E_laws_toPlanEntryS)], Tryz.f39, 0, [], []⟩
theorem R_laws_toPlanBook_ok : REOK R_laws_toPlanBook g_laws_toPlanBook := ⟨CP_ok, (TabOK.cons E_laws_toPlanBase_ok (TabOK.cons E_laws_toPlanEntryS_ok EOKnil)), by kernel_rfl, by kernel_rfl⟩
theorem t_laws_toPlanBook (ks : List Kind) (ps : List Point) (es : List Entry) : aRun R_laws_toPlanBook 600 false (body0 R_laws_toPlanBook.fn) (initSt R_laws_toPlanBook.fn [.agg [.sl .lkind ks, .sl .lpoint ps, .sl .lentry es]] []) =
  ifb (t_PlanBase ks ps) (ifb (tS_PlanEntry es) (some (.ret (.agg [.own 0 [] 0, .own 1 [] 0, .own 2 [] 0]) [.row .kind ks 0 0 0 .no, .row .point ps 0 0 0 .no, .row .entry es 1 0 0 .no])) (none)) (none) := by kernel_rfl
theorem c_laws_toPlanBook (ks : List Kind) (ps : List Point) (es : List Entry) (hg : t_PlanBook ks ps es = true) : CallOK Tryz.prog CP g_laws_toPlanBook [.agg [.sl .lkind ks, .sl .lpoint ps, .sl .lentry es]] [] (.agg [.own 0 [] 0, .own 1 [] 0, .own 2 [] 0]) [.row .kind ks 0 0 0 .no, .row .point ps 0 0 0 .no, .row .entry es 1 0 0 .no] := by
  refine CallOK.of R_laws_toPlanBook_ok (by kernel_rfl) (t_laws_toPlanBook ks ps es) ?_
  simp only [t_PlanBook, Bool.and_eq_true] at hg
  obtain ⟨g0, g1, g2, -⟩ := hg
  rw [show (t_PlanBase ks ps) = true by first | exact g0 | simp only [t_PlanBase, g0, g1, g2, Bool.and_true]]
  simp only [ifb_true]
  rw [show (tS_PlanEntry es) = true by assumption]
  simp only [ifb_true]
  exact Sat.ret rfl rfl
theorem E_laws_toPlanBook_ok : EntOK Tryz.prog CP g_laws_toPlanBook E_laws_toPlanBook := by
  refine ⟨⟨Tryz.f39, by kernel_rfl, by kernel_rfl, by kernel_rfl⟩, fun args H res H' h => ?_⟩
  simp only [E_laws_toPlanBook] at h
  split at h
  · simp only [Option.some.injEq, Prod.mk.injEq] at h
    obtain ⟨hg, rfl, rfl⟩ := h
    exact c_laws_toPlanBook _ _ _ hg
  · cases h

/-- laws.eqPlanKind -/
noncomputable def R_laws_eqPlanKind : RE Ty El := ⟨Tryz.prog, CP, [], Tryz.f254, 0, [], []⟩
theorem R_laws_eqPlanKind_ok : REOK R_laws_eqPlanKind g_laws_eqPlanKind := ⟨CP_ok, EOKnil, by kernel_rfl, by kernel_rfl⟩
theorem t_laws_eqPlanKind (name : Str) (quick : Int) (slow : Int) (name' : Str) (quick' : Int) (slow' : Int) : aRun R_laws_eqPlanKind 600 false (body0 R_laws_eqPlanKind.fn) (initSt R_laws_eqPlanKind.fn [.agg [.str name, .int .i64 quick, .int .i64 slow], .agg [.str name', .int .i64 quick', .int .i64 slow']] []) =
  ifb (!name == name') (some (.ret (.bool false) [])) (ifb (quick != quick') (some (.ret (.bool false) [])) (ifb (slow != slow') (some (.ret (.bool false) [])) (some (.ret (.bool true) [])))) := by kernel_rfl
theorem c_laws_eqPlanKind (name : Str) (quick : Int) (slow : Int) (name' : Str) (quick' : Int) (slow' : Int) : CallOK Tryz.prog CP g_laws_eqPlanKind [.agg [.str name, .int .i64 quick, .int .i64 slow], .agg [.str name', .int .i64 quick', .int .i64 slow']] [] (.bool (decide ((⟨name, quick, slow⟩ : Kind) = ⟨name', quick', slow'⟩))) [] := by
  refine CallOK.of R_laws_eqPlanKind_ok (by kernel_rfl) (t_laws_eqPlanKind name quick slow name' quick' slow') ?_
  repeat' (refine Sat.ifb (fun h => ?_) (fun h => ?_))
  all_goals (first | (refine Sat.retB ?_ rfl; simp_all; done) | (refine Sat.no ?_; simp_all; done))
theorem E_laws_eqPlanKind_ok : EntOK Tryz.prog CP g_laws_eqPlanKind E_laws_eqPlanKind := by
  refine ⟨⟨Tryz.f254, by kernel_rfl, by kernel_rfl, by kernel_rfl⟩, fun args H res H' h => ?_⟩
  simp only [E_laws_eqPlanKind] at h
  split at h
  · simp only [Option.some.injEq, Prod.mk.injEq] at h
    obtain ⟨hg, rfl, rfl⟩ := h
    exact c_laws_eqPlanKind _ _ _ _ _ _
  · cases h

/-- laws.eqPlanKindS -/
noncomputable def R_laws_eqPlanKindS : RE Ty El := ⟨Tryz.prog, CP, [(g_laws_eqPlanKind, E_laws_eqPlanKind)], Tryz.f205, 0, [], [(4, [(0, .any), (1, .any), (5, .any)])]⟩
theorem R_laws_eqPlanKindS_ok : REOK R_laws_eqPlanKindS g_laws_eqPlanKindS := ⟨CP_ok, (TabOK.cons E_laws_eqPlanKind_ok EOKnil), by kernel_rfl, by kernel_rfl⟩
theorem t_laws_eqPlanKindS (l l' : List Kind) : aRun R_laws_eqPlanKindS 600 false (body0 R_laws_eqPlanKindS.fn) (initSt R_laws_eqPlanKindS.fn [.sl .kind l, .sl .kind l'] []) =
  ifb ((↑l.length : Int) != (↑l'.length : Int)) (some (.ret (.bool false) [])) (some (.go (todoAt R_laws_eqPlanKindS.fn 4) [.sl .kind l, .sl .kind l', .int .i64 (0 : Int)] [])) := by kernel_rfl
theorem t_laws_eqPlanKindS_4 (x0 : List (El .kind)) (x1 : List (El .kind)) (x2 : Int) : aRun R_laws_eqPlanKindS 600 true (todoAt R_laws_eqPlanKindS.fn 4) (cutSt R_laws_eqPlanKindS.fn (liveOf R_laws_eqPlanKindS (todoAt R_laws_eqPlanKindS.fn 4)) [.sl .kind x0, .sl .kind x1, .int .i64 x2] []) =
  ifb (decide (x2 < (↑x0.length : Int))) (ifb (inb x2 x0.length) (ifb (inb x2 x1.length) (ifb (!decide (x0.getD x2.toNat (R_laws_eqPlanKindS.C.dflt Ty.kind) = x1.getD x2.toNat (R_laws_eqPlanKindS.C.dflt Ty.kind))) (some (.ret (.bool false) [])) (some (.go (todoAt R_laws_eqPlanKindS.fn 4) [.sl .kind x0, .sl .kind x1, .int .i64 (IntKind.i64.wrap (x2 + (1 : Int)))] []))) (none)) (none)) (some (.ret (.bool true) [])) := by kernel_rfl
theorem l_laws_eqPlanKindS (l l' : List Kind) (hl' : l.length = l'.length) (g0 : l.length ≤ 1000000000) (g1 : True) : ∀ (d i : Nat), i + d = l.length → l.take i = l'.take i →
    Cut R_laws_eqPlanKindS g_laws_eqPlanKindS 4 [.sl .kind l, .sl .kind l', .int .i64 (i : Int)] [] (.bool (decide (l = l'))) [] := by
  intro d
  induction d with
  | zero =>
    intro i hi ht
    refine Cut.of R_laws_eqPlanKindS_ok rfl (t_laws_eqPlanKindS_4 l l' i) ?_
    rw [show decide ((i : Int) < (l.length : Int)) = false from decide_eq_false (by omega)]
    rw [List.take_of_length_le (by omega), List.take_of_length_le (by omega)] at ht
    exact Sat.retB (decide_eq_true ht).symm rfl
  | succ d ih =>
    intro i hi ht
    refine Cut.of R_laws_eqPlanKindS_ok rfl (t_laws_eqPlanKindS_4 l l' i) ?_
    have hlt : i < l.length := by omega
    have hw : IntKind.wrap .i64 ((i : Int) + 1) = ((i + 1 : Nat) : Int) := by rw [wrap_ok] <;> omega
    have hw1 : IntKind.wrap .i64 ((i : Int) - 1) = (i : Int) - 1 := by rw [wrap_ok] <;> omega
    have hd : l.drop i = l[i] :: l.drop (i + 1) := List.drop_eq_getElem_cons hlt
    have hx : l.getD (i : Int).toNat (R_laws_eqPlanKindS.C.dflt .kind) = l[i] := by simp [hlt]
    have hin : inb (i : Int) l.length = true := by simp only [inb, Bool.and_eq_true, decide_eq_true_eq]; omega
    have hlo : decide ((i : Int) < (l.length : Int)) = true := decide_eq_true (by omega)
    have htk := List.take_succ_eq_append_getElem hlt
    have hl : (l.take (i + 1)).getLast? = some l[i] := by rw [List.take_succ_eq_append_getElem hlt, List.getLast?_concat]
    have hlt' : i < l'.length := by omega
    have hin' : inb (i : Int) l'.length = true := by simp only [inb, Bool.and_eq_true, decide_eq_true_eq]; omega
    have hx' : l'.getD (i : Int).toNat (R_laws_eqPlanKindS.C.dflt .kind) = l'[i] := by simp [hlt']
    rw [hlo, hin, hin', hx, hx', hw]
    simp only [ifb_true]
    by_cases he : l[i] = l'[i]
    · rw [show decide (l[i] = l'[i]) = true from decide_eq_true he]
      simp only [Bool.not_true, ifb_false]
      exact Sat.cut (ih (i + 1) (by omega) (by rw [List.take_succ_eq_append_getElem hlt, List.take_succ_eq_append_getElem hlt', ht, he]))
    · rw [show decide (l[i] = l'[i]) = false from decide_eq_false he]
      simp only [Bool.not_false, ifb_true]
      exact Sat.retB (decide_eq_false (fun h => he (by subst h; rfl))).symm rfl
theorem c_laws_eqPlanKindS (l l' : List Kind) (hg : tS_PlanKind l = true) : CallOK Tryz.prog CP g_laws_eqPlanKindS [.sl .kind l, .sl .kind l'] [] ((.bool (decide (l = l')))) [] := by
  refine CallOK.of R_laws_eqPlanKindS_ok (by kernel_rfl) (t_laws_eqPlanKindS l l') ?_
  simp only [tS_PlanKind, Bool.and_eq_true, decide_eq_true_eq] at hg
  obtain ⟨g0, g1⟩ := hg
  by_cases hl : l.length = l'.length
  · rw [show ((l.length : Int) != (l'.length : Int)) = false by simp [hl]]
    simp only [ifb_false]
    have := l_laws_eqPlanKindS l l' hl g0 trivial l.length 0 (by omega) rfl
    exact Sat.cut this
  · rw [show ((l.length : Int) != (l'.length : Int)) = true by simp; omega]
    exact Sat.retB (decide_eq_false (fun h => hl (by rw [h]))).symm rfl
theorem E_laws_eqPlanKindS_ok : EntOK Tryz.prog CP g_laws_eqPlanKindS E_laws_eqPlanKindS := by
  refine ⟨⟨Tryz.f205, by kernel_rfl, by kernel_rfl, by kernel_rfl⟩, fun args H res H' h => ?_⟩
  simp only [E_laws_eqPlanKindS] at h
  split at h
  · simp only [Option.some.injEq, Prod.mk.injEq] at h
    obtain ⟨hg, rfl, rfl⟩ := h
    exact c_laws_eqPlanKindS _ _ hg
  · cases h

/-- laws.eqPlanPoint -/
noncomputable def R_laws_eqPlanPoint : RE Ty El := ⟨Tryz.prog, CP, [], Tryz.f255, 0, [], []⟩
theorem R_laws_eqPlanPoint_ok : REOK R_laws_eqPlanPoint g_laws_eqPlanPoint := ⟨CP_ok, EOKnil, by kernel_rfl, by kernel_rfl⟩
theorem t_laws_eqPlanPoint (name : Str) (x : Int) (y : Int) (name' : Str) (x' : Int) (y' : Int) : aRun R_laws_eqPlanPoint 600 false (body0 R_laws_eqPlanPoint.fn) (initSt R_laws_eqPlanPoint.fn [.agg [.str name, .int .i64 x, .int .i64 y], .agg [.str name', .int .i64 x', .int .i64 y']] []) =
  ifb (!name == name') (some (.ret (.bool false) [])) (ifb (x != x') (some (.ret (.bool false) [])) (ifb (y != y') (some (.ret (.bool false) [])) (some (.ret (.bool true) [])))) := by kernel_rfl
theorem c_laws_eqPlanPoint (name : Str) (x : Int) (y : Int) (name' : Str) (x' : Int) (y' : Int) : CallOK Tryz.prog CP g_laws_eqPlanPoint [.agg [.str name, .int .i64 x, .int .i64 y], .agg [.str name', .int .i64 x', .int .i64 y']] [] (.bool (decide ((⟨name, x, y⟩ : Point) = ⟨name', x', y'⟩))) [] := by
  refine CallOK.of R_laws_eqPlanPoint_ok (by kernel_rfl) (t_laws_eqPlanPoint name x y name' x' y') ?_
  repeat' (refine Sat.ifb (fun h => ?_) (fun h => ?_))
  all_goals (first | (refine Sat.retB ?_ rfl; simp_all; done) | (refine Sat.no ?_; simp_all; done))
theorem E_laws_eqPlanPoint_ok : EntOK Tryz.prog CP g_laws_eqPlanPoint E_laws_eqPlanPoint := by
  refine ⟨⟨Tryz.f255, by kernel_rfl, by kernel_rfl, by kernel_rfl⟩, fun args H res H' h => ?_⟩
  simp only [E_laws_eqPlanPoint] at h
  split at h
  · simp only [Option.some.injEq, Prod.mk.injEq] at h
    obtain ⟨hg, rfl, rfl⟩ := h
    exact c_laws_eqPlanPoint _ _ _ _ _ _
  · cases h

/-- laws.eqPlanPointS -/
noncomputable def R_laws_eqPlanPointS : RE Ty El := ⟨Tryz.prog, CP, [(g_laws_eqPlanPoint, E_laws_eqPlanPoint)], Tryz.f206, 0, [], [(4, [(0, .any), (1, .any), (5, .any)])]⟩
theorem R_laws_eqPlanPointS_ok : REOK R_laws_eqPlanPointS g_laws_eqPlanPointS := ⟨CP_ok, (TabOK.cons E_laws_eqPlanPoint_ok EOKnil), by kernel_rfl, by kernel_rfl⟩
theorem t_laws_eqPlanPointS (l l' : List Point) : aRun R_laws_eqPlanPointS 600 false (body0 R_laws_eqPlanPointS.fn) (initSt R_laws_eqPlanPointS.fn [.sl .point l, .sl .point l'] []) =
  ifb ((↑l.length : Int) != (↑l'.length : Int)) (some (.ret (.bool false) [])) (some (.go (todoAt R_laws_eqPlanPointS.fn 4) [.sl .point l, .sl .point l', .int .i64 (0 : Int)] [])) := by kernel_rfl
theorem t_laws_eqPlanPointS_4 (x0 : List (El .point)) (x1 : List (El .point)) (x2 : Int) : aRun R_laws_eqPlanPointS 600 true (todoAt R_laws_eqPlanPointS.fn 4) (cutSt R_laws_eqPlanPointS.fn (liveOf R_laws_eqPlanPointS (todoAt R_laws_eqPlanPointS.fn 4)) [.sl .point x0, .sl .point x1, .int .i64 x2] []) =
  ifb (decide (x2 < (↑x0.length : Int))) (ifb (inb x2 x0.length) (ifb (inb x2 x1.length) (ifb (!decide (x0.getD x2.toNat (R_laws_eqPlanPointS.C.dflt Ty.point) = x1.getD x2.toNat (R_laws_eqPlanPointS.C.dflt Ty.point))) (some (.ret (.bool false) [])) (some (.go (todoAt R_laws_eqPlanPointS.fn 4) [.sl .point x0, .sl .point x1, .int .i64 (IntKind.i64.wrap (x2 + (1 : Int)))] []))) (none)) (none)) (some (.ret (.bool true) [])) := by kernel_rfl
theorem l_laws_eqPlanPointS (l l' : List Point) (hl' : l.length = l'.length) (g0 : l.length ≤ 1000000000) (g1 : True) : ∀ (d i : Nat), i + d = l.length → l.take i = l'.take i →
    Cut R_laws_eqPlanPointS g_laws_eqPlanPointS 4 [.sl .point l, .sl .point l', .int .i64 (i : Int)] [] (.bool (decide (l = l'))) [] := by
  intro d
  induction d with
  | zero =>
    intro i hi ht
    refine Cut.of R_laws_eqPlanPointS_ok rfl (t_laws_eqPlanPointS_4 l l' i) ?_
    rw [show decide ((i : Int) < (l.length : Int)) = false from decide_eq_false (by omega)]
    rw [List.take_of_length_le (by omega), List.take_of_length_le (by omega)] at ht
    exact Sat.retB (decide_eq_true ht).symm rfl
  | succ d ih =>
    intro i hi ht
    refine Cut.of R_laws_eqPlanPointS_ok rfl (t_laws_eqPlanPointS_4 l l' i) ?_
    have hlt : i < l.length := by omega
    have hw : IntKind.wrap .i64 ((i : Int) + 1) = ((i + 1 : Nat) : Int) := by rw [wrap_ok] <;> omega
    have hw1 : IntKind.wrap .i64 ((i : Int) - 1) = (i : Int) - 1 := by rw [wrap_ok] <;> omega
    have hd : l.drop i = l[i] :: l.drop (i + 1) := List.drop_eq_getElem_cons hlt
    have hx : l.getD (i : Int).toNat (R_laws_eqPlanPointS.C.dflt .point) = l[i] := by simp [hlt]
    have hin : inb (i : Int) l.length = true := by simp only [inb, Bool.and_eq_true, decide_eq_true_eq]; omega
    have hlo : decide ((i : Int) < (l.length : Int)) = true := decide_eq_true (by omega)
    have htk := List.take_succ_eq_append_getElem hlt
    have hl : (l.take (i + 1)).getLast? = some l[i] := by rw [List.take_succ_eq_append_getElem hlt, List.getLast?_concat]
    have hlt' : i < l'.length := by omega
    have hin' : inb (i : Int) l'.length = true := by simp only [inb, Bool.and_eq_true, decide_eq_true_eq]; omega
    have hx' : l'.getD (i : Int).toNat (R_laws_eqPlanPointS.C.dflt .point) = l'[i] := by simp [hlt']
    rw [hlo, hin, hin', hx, hx', hw]
    simp only [ifb_true]
    by_cases he : l[i] = l'[i]
    · rw [show decide (l[i] = l'[i]) = true from decide_eq_true he]
      simp only [Bool.not_true, ifb_false]
      exact Sat.cut (ih (i + 1) (by omega) (by rw [List.take_succ_eq_append_getElem hlt, List.take_succ_eq_append_getElem hlt', ht, he]))
    · rw [show decide (l[i] = l'[i]) = false from decide_eq_false he]
      simp only [Bool.not_false, ifb_true]
      exact Sat.retB (decide_eq_false (fun h => he (by subst h; rfl))).symm rfl
theorem c_laws_eqPlanPointS (l l' : List Point) (hg : tS_PlanPoint l = true) : CallOK Tryz.prog CP g_laws_eqPlanPointS [.sl .point l, .sl .point l'] [] ((.bool (decide (l = l')))) [] := by
  refine CallOK.of R_laws_eqPlanPointS_ok (by kernel_rfl) (t_laws_eqPlanPointS l l') ?_
  simp only [tS_PlanPoint, Bool.and_eq_true, decide_eq_true_eq] at hg
  obtain ⟨g0, g1⟩ := hg
  by_cases hl : l.length = l'.length
  · rw [show ((l.length : Int) != (l'.length : Int)) = false by simp [hl]]
    simp only [ifb_false]
    have := l_laws_eqPlanPointS l l' hl g0 trivial l.length 0 (by omega) rfl
    exact Sat.cut this
  · rw [show ((l.length : Int) != (l'.length : Int)) = true by simp; omega]
    exact Sat.retB (decide_eq_false (fun h => hl (by rw [h]))).symm rfl
theorem E_laws_eqPlanPointS_ok : EntOK Tryz.prog CP g_laws_eqPlanPointS E_laws_eqPlanPointS := by
  refine ⟨⟨Tryz.f206, by kernel_rfl, by kernel_rfl, by kernel_rfl⟩, fun args H res H' h => ?_⟩
  simp only [E_laws_eqPlanPointS] at h
  split at h
  · simp only [Option.some.injEq, Prod.mk.injEq] at h
    obtain ⟨hg, rfl, rfl⟩ := h
    exact c_laws_eqPlanPointS _ _ hg
  · cases h

/-- laws.eqPlanBase -/
noncomputable def R_laws_eqPlanBase : RE Ty El := ⟨Tryz.prog, CP, [(g_laws_eqPlanKindS, E_laws_eqPlanKindS), (g_laws_eqPlanPointS, E_laws_eqPlanPointS)], Tryz.f131, 0, [], []⟩
theorem R_laws_eqPlanBase_ok : REOK R_laws_eqPlanBase g_laws_eqPlanBase := ⟨CP_ok, (TabOK.cons E_laws_eqPlanKindS_ok (TabOK.cons E_laws_eqPlanPointS_ok EOKnil)), by kernel_rfl, by kernel_rfl⟩
theorem t_laws_eqPlanBase (ks : List Kind) (ps : List Point) (ks' : List Kind) (ps' : List Point) : aRun R_laws_eqPlanBase 600 false (body0 R_laws_eqPlanBase.fn) (initSt R_laws_eqPlanBase.fn [.agg [.sl .kind ks, .sl .point ps], .agg [.sl .kind ks', .sl .point ps']] []) =
  ifb (tS_PlanKind ks) (ifb (!decide (ks = ks')) (some (.ret (.bool false) [])) (ifb (tS_PlanPoint ps) (ifb (!decide (ps = ps')) (some (.ret (.bool false) [])) (some (.ret (.bool true) []))) (none))) (none) := by kernel_rfl
theorem c_laws_eqPlanBase (ks : List Kind) (ps : List Point) (ks' : List Kind) (ps' : List Point) (hg : t_PlanBase ks ps = true) : CallOK Tryz.prog CP g_laws_eqPlanBase [.agg [.sl .kind ks, .sl .point ps], .agg [.sl .kind ks', .sl .point ps']] [] (.bool ((decide (ks = ks') && (decide (ps = ps') && true)))) [] := by
  refine CallOK.of R_laws_eqPlanBase_ok (by kernel_rfl) (t_laws_eqPlanBase ks ps ks' ps') ?_
  simp only [t_PlanBase, Bool.and_eq_true] at hg
  obtain ⟨g0, g1, -⟩ := hg
  rw [show tS_PlanKind ks = true by assumption]
  simp only [ifb_true]
  cases q0 : decide (ks = ks') with
  | false =>
    simp only [Bool.not_false, ifb_true, Bool.false_and]
    exact Sat.retB rfl rfl
  | true =>
  simp only [Bool.not_true, ifb_false, Bool.true_and]
  rw [show tS_PlanPoint ps = true by assumption]
  simp only [ifb_true]
  cases q1 : decide (ps = ps') with
  | false =>
    simp only [Bool.not_false, ifb_true, Bool.false_and]
    exact Sat.retB rfl rfl
  | true =>
  simp only [Bool.not_true, ifb_false, Bool.true_and]
  exact Sat.retB rfl rfl
theorem E_laws_eqPlanBase_ok : EntOK Tryz.prog CP g_laws_eqPlanBase E_laws_eqPlanBase := by
  refine ⟨⟨Tryz.f131, by kernel_rfl, by kernel_rfl, by kernel_rfl⟩, fun args H res H' h => ?_⟩
  simp only [E_laws_eqPlanBase] at h
  split at h
  · simp only [Option.some.injEq, Prod.mk.injEq] at h
    obtain ⟨hg, rfl, rfl⟩ := h
    exact c_laws_eqPlanBase _ _ _ _ hg
  · cases h

/-- laws.eqPlanField -/
noncomputable def R_laws_eqPlanField : RE Ty El := ⟨Tryz.prog, CP, [], Tryz.f300, 0, [], []⟩
theorem R_laws_eqPlanField_ok : REOK R_laws_eqPlanField g_laws_eqPlanField := ⟨CP_ok, EOKnil, by kernel_rfl, by kernel_rfl⟩
theorem t_laws_eqPlanField (what : Int) (number : Int) (value : Str) (what' : Int) (number' : Int) (value' : Str) : aRun R_laws_eqPlanField 600 false (body0 R_laws_eqPlanField.fn) (initSt R_laws_eqPlanField.fn [.agg [.int .i64 what, .int .i64 number, .str value], .agg [.int .i64 what', .int .i64 number', .str value']] []) =
  ifb (what != what') (some (.ret (.bool false) [])) (ifb (number != number') (some (.ret (.bool false) [])) (ifb (!value == value') (some (.ret (.bool false) [])) (some (.ret (.bool true) [])))) := by kernel_rfl
theorem c_laws_eqPlanField (what : Int) (number : Int) (value : Str) (what' : Int) (number' : Int) (value' : Str) : CallOK Tryz.prog CP g_laws_eqPlanField [.agg [.int .i64 what, .int .i64 number, .str value], .agg [.int .i64 what', .int .i64 number', .str value']] [] (.bool (decide ((⟨what, number, value⟩ : Fld) = ⟨what', number', value'⟩))) [] := by
  refine CallOK.of R_laws_eqPlanField_ok (by kernel_rfl) (t_laws_eqPlanField what number value what' number' value') ?_
  repeat' (refine Sat.ifb (fun h => ?_) (fun h => ?_))
  all_goals (first | (refine Sat.retB ?_ rfl; simp_all; done) | (refine Sat.no ?_; simp_all; done))
theorem E_laws_eqPlanField_ok : EntOK Tryz.prog CP g_laws_eqPlanField E_laws_eqPlanField := by
  refine ⟨⟨Tryz.f300, by kernel_rfl, by kernel_rfl, by kernel_rfl⟩, fun args H res H' h => ?_⟩
  simp only [E_laws_eqPlanField] at h
  split at h
  · simp only [Option.some.injEq, Prod.mk.injEq] at h
    obtain ⟨hg, rfl, rfl⟩ := h
    exact c_laws_eqPlanField _ _ _ _ _ _
  · cases h

/-- laws.eqPlanFieldS -/
noncomputable def R_laws_eqPlanFieldS : RE Ty El := ⟨Tryz.prog, CP, [(g_laws_eqPlanField, E_laws_eqPlanField)], Tryz.f256, 0, [], [(4, [(0, .any), (1, .any), (5, .any)])]⟩
theorem R_laws_eqPlanFieldS_ok : REOK R_laws_eqPlanFieldS g_laws_eqPlanFieldS := ⟨CP_ok, (TabOK.cons E_laws_eqPlanField_ok EOKnil), by kernel_rfl, by kernel_rfl⟩
theorem t_laws_eqPlanFieldS (l l' : List Fld) : aRun R_laws_eqPlanFieldS 600 false (body0 R_laws_eqPlanFieldS.fn) (initSt R_laws_eqPlanFieldS.fn [.sl .fld l, .sl .fld l'] []) =
  ifb ((↑l.length : Int) != (↑l'.length : Int)) (some (.ret (.bool false) [])) (some (.go (todoAt R_laws_eqPlanFieldS.fn 4) [.sl .fld l, .sl .fld l', .int .i64 (0 : Int)] [])) := by kernel_rfl
theorem t_laws_eqPlanFieldS_4 (x0 : List (El .fld)) (x1 : List (El .fld)) (x2 : Int) : aRun R_laws_eqPlanFieldS 600 true (todoAt R_laws_eqPlanFieldS.fn 4) (cutSt R_laws_eqPlanFieldS.fn (liveOf R_laws_eqPlanFieldS (todoAt R_laws_eqPlanFieldS.fn 4)) [.sl .fld x0, .sl .fld x1, .int .i64 x2] []) =
  ifb (decide (x2 < (↑x0.length : Int))) (ifb (inb x2 x0.length) (ifb (inb x2 x1.length) (ifb (!decide (x0.getD x2.toNat (R_laws_eqPlanFieldS.C.dflt Ty.fld) = x1.getD x2.toNat (R_laws_eqPlanFieldS.C.dflt Ty.fld))) (some (.ret (.bool false) [])) (some (.go (todoAt R_laws_eqPlanFieldS.fn 4) [.sl .fld x0, .sl .fld x1, .int .i64 (IntKind.i64.wrap (x2 + (1 : Int)))] []))) (none)) (none)) (some (.ret (.bool true) [])) := by kernel_rfl
theorem l_laws_eqPlanFieldS (l l' : List Fld) (hl' : l.length = l'.length) (g0 : l.length ≤ 1000000000) (g1 : True) : ∀ (d i : Nat), i + d = l.length → l.take i = l'.take i →
    Cut R_laws_eqPlanFieldS g_laws_eqPlanFieldS 4 [.sl .fld l, .sl .fld l', .int .i64 (i : Int)] [] (.bool (decide (l = l'))) [] := by
  intro d
  induction d with
  | zero =>
    intro i hi ht
    refine Cut.of R_laws_eqPlanFieldS_ok rfl (t_laws_eqPlanFieldS_4 l l' i) ?_
    rw [show decide ((i : Int) < (l.length : Int)) = false from decide_eq_false (by omega)]
    rw [List.take_of_length_le (by omega), List.take_of_length_le (by omega)] at ht
    exact Sat.retB (decide_eq_true ht).symm rfl
  | succ d ih =>
    intro i hi ht
    refine Cut.of R_laws_eqPlanFieldS_ok rfl (t_laws_eqPlanFieldS_4 l l' i) ?_
    have hlt : i < l.length := by omega
    have hw : IntKind.wrap .i64 ((i : Int) + 1) = ((i + 1 : Nat) : Int) := by rw [wrap_ok] <;> omega
    have hw1 : IntKind.wrap .i64 ((i : Int) - 1) = (i : Int) - 1 := by rw [wrap_ok] <;> omega
    have hd : l.drop i = l[i] :: l.drop (i + 1) := List.drop_eq_getElem_cons hlt
    have hx : l.getD (i : Int).toNat (R_laws_eqPlanFieldS.C.dflt .fld) = l[i] := by simp [hlt]
    have hin : inb (i : Int) l.length = true := by simp only [inb, Bool.and_eq_true, decide_eq_true_eq]; omega
    have hlo : decide ((i : Int) < (l.length : Int)) = true := decide_eq_true (by omega)
    have htk := List.take_succ_eq_append_getElem hlt
    have hl : (l.take (i + 1)).getLast? = some l[i] := by rw [List.take_succ_eq_append_getElem hlt, List.getLast?_concat]
    have hlt' : i < l'.length := by omega
    have hin' : inb (i : Int) l'.length = true := by simp only [inb, Bool.and_eq_true, decide_eq_true_eq]; omega
    have hx' : l'.getD (i : Int).toNat (R_laws_eqPlanFieldS.C.dflt .fld) = l'[i] := by simp [hlt']
    rw [hlo, hin, hin', hx, hx', hw]
    simp only [ifb_true]
    by_cases he : l[i] = l'[i]
    · rw [show decide (l[i] = l'[i]) = true from decide_eq_true he]
      simp only [Bool.not_true, ifb_false]
      exact Sat.cut (ih (i + 1) (by omega) (by rw [List.take_succ_eq_append_getElem hlt, List.take_succ_eq_append_getElem hlt', ht, he]))
    · rw [show decide (l[i] = l'[i]) = false from decide_eq_false he]
      simp only [Bool.not_false, ifb_true]
      exact Sat.retB (decide_eq_false (fun h => he (by subst h; rfl))).symm rfl
theorem c_laws_eqPlanFieldS (l l' : List Fld) (hg : tS_PlanField l = true) : CallOK Tryz.prog CP g_laws_eqPlanFieldS [.sl .fld l, .sl .fld l'] [] ((.bool (decide (l = l')))) [] := by
  refine CallOK.of R_laws_eqPlanFieldS_ok (by kernel_rfl) (t_laws_eqPlanFieldS l l') ?_
  simp only [tS_PlanField, Bool.and_eq_true, decide_eq_true_eq] at hg
  obtain ⟨g0, g1⟩ := hg
  by_cases hl : l.length = l'.length
  · rw [show ((l.length : Int) != (l'.length : Int)) = false by simp [hl]]
    simp only [ifb_false]
    have := l_laws_eqPlanFieldS l l' hl g0 trivial l.length 0 (by omega) rfl
    exact Sat.cut this
  · rw [show ((l.length : Int) != (l'.length : Int)) = true by simp; omega]
    exact Sat.retB (decide_eq_false (fun h => hl (by rw [h]))).symm rfl
theorem E_laws_eqPlanFieldS_ok : EntOK Tryz.prog CP g_laws_eqPlanFieldS E_laws_eqPlanFieldS := by
  refine ⟨⟨Tryz.f256, by kernel_rfl, by kernel_rfl, by kernel_rfl⟩, fun args H res H' h => ?_⟩
  simp only [E_laws_eqPlanFieldS] at h
  split at h
  · simp only [Option.some.injEq, Prod.mk.injEq] at h
    obtain ⟨hg, rfl, rfl⟩ := h
    exact c_laws_eqPlanFieldS _ _ hg
  · cases h

/-- laws.eqPlanEntry -/
noncomputable def R_laws_eqPlanEntry : RE Ty El := ⟨Tryz.prog, CP, [(g_laws_eqPlanFieldS, E_laws_eqPlanFieldS)], Tryz.f207, 0, [], []⟩
theorem R_laws_eqPlanEntry_ok : REOK R_laws_eqPlanEntry g_laws_eqPlanEntry := ⟨CP_ok, (TabOK.cons E_laws_eqPlanFieldS_ok EOKnil), by kernel_rfl, by kernel_rfl⟩
theorem t_laws_eqPlanEntry (name : Str) (fields : List Fld) (name' : Str) (fields' : List Fld) : aRun R_laws_eqPlanEntry 600 false (body0 R_laws_eqPlanEntry.fn) (initSt R_laws_eqPlanEntry.fn [.agg [.str name, .sl .fld fields], .agg [.str name', .sl .fld fields']] []) =
  ifb (!name == name') (some (.ret (.bool false) [])) (ifb (tS_PlanField fields) (ifb (!decide (fields = fields')) (some (.ret (.bool false) [])) (some (.ret (.bool true) []))) (none)) := by kernel_rfl
theorem c_laws_eqPlanEntry (name : Str) (fields : List Fld) (name' : Str) (fields' : List Fld) (hg : t_PlanEntry name fields = true) : CallOK Tryz.prog CP g_laws_eqPlanEntry [.agg [.str name, .sl .fld fields], .agg [.str name', .sl .fld fields']] [] (.bool (decide ((⟨name, fields⟩ : Entry) = ⟨name', fields'⟩))) [] := by
  refine CallOK.of R_laws_eqPlanEntry_ok (by kernel_rfl) (t_laws_eqPlanEntry name fields name' fields') ?_
  simp only [t_PlanEntry, Bool.and_eq_true] at hg
  obtain ⟨g0, -⟩ := hg
  repeat' (refine Sat.ifb (fun h => ?_) (fun h => ?_))
  all_goals (first | (refine Sat.retB ?_ rfl; simp_all; done) | (refine Sat.no ?_; simp_all; done))
theorem E_laws_eqPlanEntry_ok : EntOK Tryz.prog CP g_laws_eqPlanEntry E_laws_eqPlanEntry := by
  refine ⟨⟨Tryz.f207, by kernel_rfl, by kernel_rfl, by kernel_rfl⟩, fun args H res H' h => ?_⟩
  simp only [E_laws_eqPlanEntry] at h
  split at h
  · simp only [Option.some.injEq, Prod.mk.injEq] at h
    obtain ⟨hg, rfl, rfl⟩ := h
    exact c_laws_eqPlanEntry _ _ _ _ hg
  · cases h

/-- laws.eqPlanEntryS -/
noncomputable def R_laws_eqPlanEntryS : RE Ty El := ⟨Tryz.prog, CP, [(g_laws_eqPlanEntry, E_laws_eqPlanEntry)], Tryz.f132, 0, [], [(4, [(0, .any), (1, .any), (5, .any)])]⟩
theorem R_laws_eqPlanEntryS_ok : REOK R_laws_eqPlanEntryS g_laws_eqPlanEntryS := ⟨CP_ok, (TabOK.cons E_laws_eqPlanEntry_ok EOKnil), by kernel_rfl, by kernel_rfl⟩
theorem t_laws_eqPlanEntryS (l l' : List Entry) : aRun R_laws_eqPlanEntryS 600 false (body0 R_laws_eqPlanEntryS.fn) (initSt R_laws_eqPlanEntryS.fn [.sl .entry l, .sl .entry l'] []) =
  ifb ((↑l.length : Int) != (↑l'.length : Int)) (some (.ret (.bool false) [])) (some (.go (todoAt R_laws_eqPlanEntryS.fn 4) [.sl .entry l, .sl .entry l', .int .i64 (0 : Int)] [])) := by kernel_rfl
theorem t_laws_eqPlanEntryS_4 (x0 : List (El .entry)) (x1 : List (El .entry)) (x2 : Int) : aRun R_laws_eqPlanEntryS 600 true (todoAt R_laws_eqPlanEntryS.fn 4) (cutSt R_laws_eqPlanEntryS.fn (liveOf R_laws_eqPlanEntryS (todoAt R_laws_eqPlanEntryS.fn 4)) [.sl .entry x0, .sl .entry x1, .int .i64 x2] []) =
  ifb (decide (x2 < (↑x0.length : Int))) (ifb (inb x2 x0.length) (ifb (inb x2 x1.length) (ifb (t_PlanEntry (x0.getD x2.toNat (R_laws_eqPlanEntryS.C.dflt Ty.entry)).name (x0.getD x2.toNat (R_laws_eqPlanEntryS.C.dflt Ty.entry)).fields) (ifb (!decide (x0.getD x2.toNat (R_laws_eqPlanEntryS.C.dflt Ty.entry) = x1.getD x2.toNat (R_laws_eqPlanEntryS.C.dflt Ty.entry))) (some (.ret (.bool false) [])) (some (.go (todoAt R_laws_eqPlanEntryS.fn 4) [.sl .entry x0, .sl .entry x1, .int .i64 (IntKind.i64.wrap (x2 + (1 : Int)))] []))) (none)) (none)) (none)) (some (.ret (.bool true) [])) := by kernel_rfl
theorem l_laws_eqPlanEntryS (l l' : List Entry) (hl' : l.length = l'.length) (g0 : l.length ≤ 1000000000) (g1 : l.all (fun z : Entry => t_PlanEntry z.name z.fields) = true) : ∀ (d i : Nat), i + d = l.length → l.take i = l'.take i →
    Cut R_laws_eqPlanEntryS g_laws_eqPlanEntryS 4 [.sl .entry l, .sl .entry l', .int .i64 (i : Int)] [] (.bool (decide (l = l'))) [] := by
  intro d
  induction d with
  | zero =>
    intro i hi ht
    refine Cut.of R_laws_eqPlanEntryS_ok rfl (t_laws_eqPlanEntryS_4 l l' i) ?_
    rw [show decide ((i : Int) < (l.length : Int)) = false from decide_eq_false (by omega)]
    rw [List.take_of_length_le (by omega), List.take_of_length_le (by omega)] at ht
    exact Sat.retB (decide_eq_true ht).symm rfl
  | succ d ih =>
    intro i hi ht
    refine Cut.of R_laws_eqPlanEntryS_ok rfl (t_laws_eqPlanEntryS_4 l l' i) ?_
    have hlt : i < l.length := by omega
    have hw : IntKind.wrap .i64 ((i : Int) + 1) = ((i + 1 : Nat) : Int) := by rw [wrap_ok] <;> omega
    have hw1 : IntKind.wrap .i64 ((i : Int) - 1) = (i : Int) - 1 := by rw [wrap_ok] <;> omega
    have hd : l.drop i = l[i] :: l.drop (i + 1) := List.drop_eq_getElem_cons hlt
    have hx : l.getD (i : Int).toNat (R_laws_eqPlanEntryS.C.dflt .entry) = l[i] := by simp [hlt]
    have hin : inb (i : Int) l.length = true := by simp only [inb, Bool.and_eq_true, decide_eq_true_eq]; omega
    have hlo : decide ((i : Int) < (l.length : Int)) = true := decide_eq_true (by omega)
    have htk := List.take_succ_eq_append_getElem hlt
    have hl : (l.take (i + 1)).getLast? = some l[i] := by rw [List.take_succ_eq_append_getElem hlt, List.getLast?_concat]
    have hlt' : i < l'.length := by omega
    have hin' : inb (i : Int) l'.length = true := by simp only [inb, Bool.and_eq_true, decide_eq_true_eq]; omega
    have hx' : l'.getD (i : Int).toNat (R_laws_eqPlanEntryS.C.dflt .entry) = l'[i] := by simp [hlt']
    rw [hlo, hin, hin', hx, hx', hw]
    simp only [ifb_true]
    rw [show (t_PlanEntry l[i].name l[i].fields) = true from List.all_eq_true.1 g1 l[i] (List.getElem_mem hlt)]
    simp only [ifb_true]
    by_cases he : l[i] = l'[i]
    · rw [show decide (l[i] = l'[i]) = true from decide_eq_true he]
      simp only [Bool.not_true, ifb_false]
      exact Sat.cut (ih (i + 1) (by omega) (by rw [List.take_succ_eq_append_getElem hlt, List.take_succ_eq_append_getElem hlt', ht, he]))
    · rw [show decide (l[i] = l'[i]) = false from decide_eq_false he]
      simp only [Bool.not_false, ifb_true]
      exact Sat.retB (decide_eq_false (fun h => he (by subst h; rfl))).symm rfl
theorem c_laws_eqPlanEntryS (l l' : List Entry) (hg : tS_PlanEntry l = true) : CallOK Tryz.prog CP g_laws_eqPlanEntryS [.sl .entry l, .sl .entry l'] [] ((.bool (decide (l = l')))) [] := by
  refine CallOK.of R_laws_eqPlanEntryS_ok (by kernel_rfl) (t_laws_eqPlanEntryS l l') ?_
  simp only [tS_PlanEntry, Bool.and_eq_true, decide_eq_true_eq] at hg
  obtain ⟨g0, g1⟩ := hg
  by_cases hl : l.length = l'.length
  · rw [show ((l.length : Int) != (l'.length : Int)) = false by simp [hl]]
    simp only [ifb_false]
    have := l_laws_eqPlanEntryS l l' hl g0 g1 l.length 0 (by omega) rfl
    exact Sat.cut this
  · rw [show ((l.length : Int) != (l'.length : Int)) = true by simp; omega]
    exact Sat.retB (decide_eq_false (fun h => hl (by rw [h]))).symm rfl
theorem E_laws_eqPlanEntryS_ok : EntOK Tryz.prog CP g_laws_eqPlanEntryS E_laws_eqPlanEntryS := by
  refine ⟨⟨Tryz.f132, by kernel_rfl, by kernel_rfl, by kernel_rfl⟩, fun args H res H' h => ?_⟩
  simp only [E_laws_eqPlanEntryS] at h
  split at h
  · simp only [Option.some.injEq, Prod.mk.injEq] at h
    obtain ⟨hg, rfl, rfl⟩ := h
    exact c_laws_eqPlanEntryS _ _ hg
  · cases h

/-- laws.eqPlanBook -/
noncomputable def R_laws_eqPlanBook : RE Ty El := ⟨Tryz.prog, CP, [(g_laws_eqPlanBase, E_laws_eqPlanBase), (g_laws_eqPlanEntryS, E_laws_eqPlanEntryS)], Tryz.f40, 0, [], []⟩
theorem R_laws_eqPlanBook_ok : REOK R_laws_eqPlanBook g_laws_eqPlanBook := ⟨CP_ok, (TabOK.cons E_laws_eqPlanBase_ok (TabOK.cons E_laws_eqPlanEntryS_ok EOKnil)), by kernel_rfl, by kernel_rfl⟩
theorem t_laws_eqPlanBook (ks : List Kind) (ps : List Point) (es : List Entry) (ks' : List Kind) (ps' : List Point) (es' : List Entry) : aRun R_laws_eqPlanBook 600 false (body0 R_laws_eqPlanBook.fn) (initSt R_laws_eqPlanBook.fn [.agg [.sl .kind ks, .sl .point ps, .sl .entry es], .agg [.sl .kind ks', .sl .point ps', .sl .entry es']] []) =
  ifb (t_PlanBase ks ps) (ifb (!(decide (ks = ks') && (decide (ps = ps') && true))) (some (.ret (.bool false) [])) (ifb (tS_PlanEntry es) (ifb (!decide (es = es')) (some (.ret (.bool false) [])) (some (.ret (.bool true) []))) (none))) (none) := by kernel_rfl
theorem c_laws_eqPlanBook (ks : List Kind) (ps : List Point) (es : List Entry) (ks' : List Kind) (ps' : List Point) (es' : List Entry) (hg : t_PlanBook ks ps es = true) : CallOK Tryz.prog CP g_laws_eqPlanBook [.agg [.sl .kind ks, .sl .point ps, .sl .entry es], .agg [.sl .kind ks', .sl .point ps', .sl .entry es']] [] (.bool (((decide (ks = ks') && (decide (ps = ps') && true)) && (decide (es = es') && true)))) [] := by
  refine CallOK.of R_laws_eqPlanBook_ok (by kernel_rfl) (t_laws_eqPlanBook ks ps es ks' ps' es') ?_
  simp only [t_PlanBook, Bool.and_eq_true] at hg
  obtain ⟨g0, g1, g2, -⟩ := hg
  have n0 : t_PlanBase ks ps = true := by simp only [t_PlanBase, g0, g1, g2, Bool.and_true]
  rw [n0]
  simp only [ifb_true]
  cases q0 : (decide (ks = ks') && (decide (ps = ps') && true)) with
  | false =>
    simp only [Bool.not_false, ifb_true, Bool.false_and]
    exact Sat.retB rfl rfl
  | true =>
  simp only [Bool.not_true, ifb_false, Bool.true_and]
  rw [show tS_PlanEntry es = true by assumption]
  simp only [ifb_true]
  cases q1 : decide (es = es') with
  | false =>
    simp only [Bool.not_false, ifb_true, Bool.false_and]
    exact Sat.retB rfl rfl
  | true =>
  simp only [Bool.not_true, ifb_false, Bool.true_and]
  exact Sat.retB rfl rfl
theorem E_laws_eqPlanBook_ok : EntOK Tryz.prog CP g_laws_eqPlanBook E_laws_eqPlanBook := by
  refine ⟨⟨Tryz.f40, by kernel_rfl, by kernel_rfl, by kernel_rfl⟩, fun args H res H' h => ?_⟩
  simp only [E_laws_eqPlanBook] at h
  split at h
  · simp only [Option.some.injEq, Prod.mk.injEq] at h
    obtain ⟨hg, rfl, rfl⟩ := h
    exact c_laws_eqPlanBook _ _ _ _ _ _ hg
  · cases h
end Lx
/- Arguments read as data. -/
set_option linter.unusedVariables false
set_option linter.unusedSimpArgs false
namespace Lx
open Go Go.Proofs
theorem Rd.mono {P : Program} {Ty : Type} {El : Ty → Type} {C : Cod Ty El} {t : TypeId} {n : Nat} {Φ Ψ : List (AV Ty El) → Prop} (h : Rd P C t n Φ) (hm : ∀ L, Φ L → Ψ L) : Rd P C t n Ψ := fun H enc w fuel cs x hx => by
  obtain ⟨h1, L, h2, h3, h4⟩ := h H enc w fuel cs x hx
  exact ⟨h1, L, h2, hm L h3, h4⟩
theorem lenOk_max {n : Nat} (h : n ≤ maxLen) : lenOk n = true := decide_eq_true (by unfold maxLen at h; omega)
theorem okS_of {α : Type} {l : List α} {f : α → Bool} (h : l.length ≤ maxLen) (hf : ∀ z ∈ l, f z = true) : (lenOk l.length && l.all f) = true := by
  rw [lenOk_max h, List.all_eq_true.2 hf]; rfl
theorem rd_int : Rd Tryz.prog CP 3 1 (fun L => ∃ n, L = [.int .i64 n] ∧ (Lit.int .i64 n).wf = true) := Rd.int Tryz.underlying3
theorem rd_str : Rd Tryz.prog CP 9 1 (fun L => ∃ s : Str, L = [.str s] ∧ s.length ≤ maxLen) := Rd.str Tryz.underlying9
theorem rd_PlanKind : Rd Tryz.prog CP 274 3 (fun L => ∃ (name : Str) (quick : Int) (slow : Int), L = [.str name, .int .i64 quick, .int .i64 slow] ∧ ok_PlanKind name quick slow = true) := by
  refine Rd.mono (Rd.struct (fs := _) Tryz.underlying274 (by kernel_rfl) (RdL.cons _ _ 0 1 2 _ _ rfl rd_str (RdL.cons _ _ 1 1 1 _ _ rfl rd_int (RdL.cons _ _ 2 1 0 _ _ rfl rd_int (RdL.nil 3))))) ?_
  rintro L ⟨_, _, rfl, ⟨name, rfl, h0⟩, _, _, rfl, ⟨quick, rfl, _⟩, _, _, rfl, ⟨slow, rfl, _⟩, rfl⟩
  exact ⟨name, quick, slow, rfl, by simp only [ok_PlanKind, Bool.and_eq_true]; exact ⟨lenOk_max h0, trivial⟩⟩
theorem rds_PlanKind : Rd Tryz.prog CP 73 1 (fun L => ∃ xs : List Kind, L = [.sl .lkind xs] ∧ xs.length ≤ maxLen ∧ ∀ z ∈ xs, ok_PlanKind z.name z.quick z.slow = true) := Rd.slice CP_ok (T := .lkind) (Q := fun z : Kind => ok_PlanKind z.name z.quick z.slow = true) Tryz.underlying73 (by kernel_rfl) rd_PlanKind (fun L h => by obtain ⟨name, quick, slow, rfl, h⟩ := h; exact ⟨⟨name, quick, slow⟩, rfl, h⟩)
theorem rd_PlanPoint : Rd Tryz.prog CP 276 3 (fun L => ∃ (name : Str) (x : Int) (y : Int), L = [.str name, .int .i64 x, .int .i64 y] ∧ ok_PlanPoint name x y = true) := by
  refine Rd.mono (Rd.struct (fs := _) Tryz.underlying276 (by kernel_rfl) (RdL.cons _ _ 0 1 2 _ _ rfl rd_str (RdL.cons _ _ 1 1 1 _ _ rfl rd_int (RdL.cons _ _ 2 1 0 _ _ rfl rd_int (RdL.nil 3))))) ?_
  rintro L ⟨_, _, rfl, ⟨name, rfl, h0⟩, _, _, rfl, ⟨x, rfl, _⟩, _, _, rfl, ⟨y, rfl, _⟩, rfl⟩
  exact ⟨name, x, y, rfl, by simp only [ok_PlanPoint, Bool.and_eq_true]; exact ⟨lenOk_max h0, trivial⟩⟩
theorem rds_PlanPoint : Rd Tryz.prog CP 74 1 (fun L => ∃ xs : List Point, L = [.sl .lpoint xs] ∧ xs.length ≤ maxLen ∧ ∀ z ∈ xs, ok_PlanPoint z.name z.x z.y = true) := Rd.slice CP_ok (T := .lpoint) (Q := fun z : Point => ok_PlanPoint z.name z.x z.y = true) Tryz.underlying74 (by kernel_rfl) rd_PlanPoint (fun L h => by obtain ⟨name, x, y, rfl, h⟩ := h; exact ⟨⟨name, x, y⟩, rfl, h⟩)
theorem rd_PlanField : Rd Tryz.prog CP 320 3 (fun L => ∃ (what : Int) (number : Int) (value : Str), L = [.int .i64 what, .int .i64 number, .str value] ∧ ok_PlanField what number value = true) := by
  refine Rd.mono (Rd.struct (fs := _) Tryz.underlying320 (by kernel_rfl) (RdL.cons _ _ 0 1 2 _ _ rfl rd_int (RdL.cons _ _ 1 1 1 _ _ rfl rd_int (RdL.cons _ _ 2 1 0 _ _ rfl rd_str (RdL.nil 3))))) ?_
  rintro L ⟨_, _, rfl, ⟨what, rfl, _⟩, _, _, rfl, ⟨number, rfl, _⟩, _, _, rfl, ⟨value, rfl, h0⟩, rfl⟩
  exact ⟨what, number, value, rfl, by simp only [ok_PlanField, Bool.and_eq_true]; exact ⟨lenOk_max h0, trivial⟩⟩
theorem rds_PlanField : Rd Tryz.prog CP 238 1 (fun L => ∃ xs : List Fld, L = [.sl .lfld xs] ∧ xs.length ≤ maxLen ∧ ∀ z ∈ xs, ok_PlanField z.what z.number z.value = true) := Rd.slice CP_ok (T := .lfld) (Q := fun z : Fld => ok_PlanField z.what z.number z.value = true) Tryz.underlying238 (by kernel_rfl) rd_PlanField (fun L h => by obtain ⟨what, number, value, rfl, h⟩ := h; exact ⟨⟨what, number, value⟩, rfl, h⟩)
theorem rd_PlanEntry : Rd Tryz.prog CP 240 2 (fun L => ∃ (name : Str) (fields : List Fld), L = [.str name, .sl .lfld fields] ∧ ok_PlanEntry name fields = true) := by
  refine Rd.mono (Rd.struct (fs := _) Tryz.underlying240 (by kernel_rfl) (RdL.cons _ _ 0 1 1 _ _ rfl rd_str (RdL.cons _ _ 1 1 0 _ _ rfl rds_PlanField (RdL.nil 2)))) ?_
  rintro L ⟨_, _, rfl, ⟨name, rfl, h0⟩, _, _, rfl, ⟨fields, rfl, h1, m1⟩, rfl⟩
  exact ⟨name, fields, rfl, by simp only [ok_PlanEntry, Bool.and_eq_true]; exact ⟨lenOk_max h0, okS_of h1 m1, trivial⟩⟩
theorem rds_PlanEntry : Rd Tryz.prog CP 77 1 (fun L => ∃ xs : List Entry, L = [.sl .lentry xs] ∧ xs.length ≤ maxLen ∧ ∀ z ∈ xs, ok_PlanEntry z.name z.fields = true) := Rd.slice CP_ok (T := .lentry) (Q := fun z : Entry => ok_PlanEntry z.name z.fields = true) Tryz.underlying77 (by kernel_rfl) rd_PlanEntry (fun L h => by obtain ⟨name, fields, rfl, h⟩ := h; exact ⟨⟨name, fields⟩, rfl, h⟩)
theorem rd_PlanBase : Rd Tryz.prog CP 76 2 (fun L => ∃ (ks : List Kind) (ps : List Point), L = [.sl .lkind ks, .sl .lpoint ps] ∧ ok_PlanBase ks ps = true) := by
  refine Rd.mono (Rd.struct (fs := _) Tryz.underlying76 (by kernel_rfl) (RdL.cons _ _ 0 1 1 _ _ rfl rds_PlanKind (RdL.cons _ _ 1 1 0 _ _ rfl rds_PlanPoint (RdL.nil 2)))) ?_
  rintro L ⟨_, _, rfl, ⟨ks, rfl, h0, m0⟩, _, _, rfl, ⟨ps, rfl, h1, m1⟩, rfl⟩
  exact ⟨ks, ps, rfl, by simp only [ok_PlanBase, Bool.and_eq_true]; exact ⟨okS_of h0 m0, okS_of h1 m1, trivial⟩⟩
theorem rd_PlanBook : Rd Tryz.prog CP 79 3 (fun L => ∃ (ks : List Kind) (ps : List Point) (es : List Entry), L = [.sl .lkind ks, .sl .lpoint ps, .sl .lentry es] ∧ ok_PlanBook ks ps es = true) := by
  refine Rd.mono (Rd.struct (fs := _) Tryz.underlying79 (by kernel_rfl) (RdL.cons _ _ 0 2 1 _ _ rfl rd_PlanBase (RdL.cons _ _ 2 1 0 _ _ rfl rds_PlanEntry (RdL.nil 3)))) ?_
  rintro L ⟨_, _, rfl, ⟨ks, ps, rfl, h0⟩, _, _, rfl, ⟨es, rfl, h1, m1⟩, rfl⟩
  exact ⟨ks, ps, es, rfl, by simp only [ok_PlanBook, Bool.and_eq_true]; exact ⟨h0, okS_of h1 m1, trivial⟩⟩
end Lx
/- What the plan's small functions mean, and the entries of the callees. -/
set_option linter.unusedVariables false
namespace Lx
open Go Go.Proofs
def nameB (b : UInt8) : Bool := (decide ((b.toNat : Int) ≥ 97) && decide ((b.toNat : Int) ≤ 122)) || (decide ((b.toNat : Int) ≥ 48) && decide ((b.toNat : Int) ≤ 57)) || (b.toNat : Int) == 45
def nameOk (s : Str) : Bool := decide (1 ≤ s.length) && (decide (s.length ≤ 8) && s.all nameB)
def inR (x y z : Int) : Bool := decide (y ≤ x) && decide (x ≤ z)
def idxF {α : Type} (p : α → Bool) (l : List α) : Int := match l.findIdx? p with
  | some i => (i : Int)
  | none => -1
def Kind.ok (k : Kind) : Bool := nameOk k.name && (decide (1 ≤ k.quick) && (decide (k.quick ≤ k.slow) && decide (k.slow ≤ 50)))
def Point.ok (p : Point) : Bool := nameOk p.name && (inR p.x 0 15 && inR p.y 0 15)
def Fld.later (f g : Fld) : Bool := if f.number = g.number then bytesLt g.value f.value else decide (f.number > g.number)

theorem idxF_none {α : Type} {p : α → Bool} {l : List α} (h : ∀ (k : Nat) x, l[k]? = some x → p x = false) : idxF p l = -1 := by
  unfold idxF
  rw [List.findIdx?_eq_none_iff.2 (fun x hx => by obtain ⟨k, hk⟩ := List.getElem?_of_mem hx; simpa using h k x hk)]
theorem idxF_at {α : Type} {p : α → Bool} {l : List α} {i : Nat} {x : α} (hx : l[i]? = some x) (hp : p x = true) (h : ∀ k, k < i → ∀ y, l[k]? = some y → p y = false) : idxF p l = (i : Int) := by
  unfold idxF
  obtain ⟨hlt, hxe⟩ := List.getElem?_eq_some_iff.1 hx
  rw [List.findIdx?_eq_some_iff_getElem.2 ⟨hlt, by rw [hxe]; exact hp, fun k hk => by
    have hkl : k < l.length := by omega
    simpa using h k hk l[k] (List.getElem?_eq_getElem hkl)⟩]

theorem idxF_lt {α : Type} {p : α → Bool} {l : List α} : idxF p l < (l.length : Int) := by
  unfold idxF
  cases h : l.findIdx? p with
  | none => simp; omega
  | some i =>
    have := (List.findIdx?_eq_some_iff_getElem.1 h).1
    simp; omega
def E_impl_isName : Ent Ty El := ⟨[.ro], 0, fun a h => match a, h with
  | [.str s], [] => some (true, .bool (nameOk s), [])
  | _, _ => none⟩
def E_spec_l11NameOk : Ent Ty El := E_impl_isName
def E_impl_within : Ent Ty El := ⟨[.ro, .ro, .ro], 0, fun a h => match a, h with
  | [.int .i64 x, .int .i64 y, .int .i64 z], [] => some (true, .bool (inR x y z), [])
  | _, _ => none⟩
def E_spec_l11In : Ent Ty El := E_impl_within
def E_impl_PlanBase_point_1 : Ent Ty El := ⟨[.ro, .ro], 0, fun a h => match a, h with
  | [.agg [.str s, .int .i64 x, .int .i64 y], .rop [.str n] 0], [] => some (true, .bool (s == n), [])
  | _, _ => none⟩
def E_impl_PlanBase_kind_1 : Ent Ty El := E_impl_PlanBase_point_1
def E_impl_PlanBook_entry_1 : Ent Ty El := ⟨[.ro, .ro], 0, fun a h => match a, h with
  | [.agg [.str s, .sl .fld fs], .rop [.str n] 0], [] => some (true, .bool (s == n), [])
  | _, _ => none⟩
def E_slices_IndexFunc_PlanPoint : Ent Ty El := ⟨[.ro, .ro], 0, fun a h => match a, h with
  | [.sl .point ps, .fn (.func g) [.rop [.str n] 0]], [] => some (decide (g = g_impl_PlanBase_point_1) && decide (ps.length < 1000000000), .int .i64 (idxF (fun p => p.name == n) ps), [])
  | _, _ => none⟩
def E_slices_IndexFunc_PlanKind : Ent Ty El := ⟨[.ro, .ro], 0, fun a h => match a, h with
  | [.sl .kind ps, .fn (.func g) [.rop [.str n] 0]], [] => some (decide (g = g_impl_PlanBase_kind_1) && decide (ps.length < 1000000000), .int .i64 (idxF (fun p => p.name == n) ps), [])
  | _, _ => none⟩
def E_slices_IndexFunc_PlanEntry : Ent Ty El := ⟨[.ro, .ro], 0, fun a h => match a, h with
  | [.sl .entry ps, .fn (.func g) [.rop [.str n] 0]], [] => some (decide (g = g_impl_PlanBook_entry_1) && decide (ps.length < 1000000000), .int .i64 (idxF (fun p => p.name == n) ps), [])
  | _, _ => none⟩
def E_impl_PlanBase_point : Ent Ty El := ⟨[.ro, .ro], 0, fun a h => match a, h with
  | [.agg [.sl .kind ks, .sl .point ps], .str n], [] => some (decide (ps.length < 1000000000), .int .i64 (idxF (fun p => p.name == n) ps), [])
  | _, _ => none⟩
def E_impl_PlanBase_kind : Ent Ty El := ⟨[.ro, .ro], 0, fun a h => match a, h with
  | [.agg [.sl .kind ks, .sl .point ps], .str n], [] => some (decide (ks.length < 1000000000), .int .i64 (idxF (fun p => p.name == n) ks), [])
  | _, _ => none⟩
def E_impl_PlanBook_entry : Ent Ty El := ⟨[.ro, .ro], 0, fun a h => match a, h with
  | [.agg [.sl .kind ks, .sl .point ps, .sl .entry es], .str n], [] => some (decide (es.length < 1000000000), .int .i64 (idxF (fun p => p.name == n) es), [])
  | _, _ => none⟩
def E_spec_l11Point : Ent Ty El := E_impl_PlanBase_point
def E_spec_l11Kind : Ent Ty El := E_impl_PlanBase_kind
def E_spec_l13At : Ent Ty El := E_impl_PlanBook_entry
def E_impl_kindOk : Ent Ty El := ⟨[.ro], 0, fun a h => match a, h with
  | [.agg [.str s, .int .i64 x, .int .i64 y]], [] => some (true, .bool (Kind.ok ⟨s, x, y⟩), [])
  | _, _ => none⟩
def E_impl_pointOk : Ent Ty El := ⟨[.ro], 0, fun a h => match a, h with
  | [.agg [.str s, .int .i64 x, .int .i64 y]], [] => some (true, .bool (Point.ok ⟨s, x, y⟩), [])
  | _, _ => none⟩
def E_spec_l11KindOk : Ent Ty El := E_impl_kindOk
def E_spec_l11PointOk : Ent Ty El := E_impl_pointOk
def E_spec_l13Later : Ent Ty El := ⟨[.ro, .ro], 0, fun a h => match a, h with
  | [.agg [.int .i64 a, .int .i64 b, .str s], .agg [.int .i64 c, .int .i64 d, .str t]], [] => some (true, .bool (Fld.later ⟨a, b, s⟩ ⟨c, d, t⟩), [])
  | _, _ => none⟩
def E_impl_PlanField_later : Ent Ty El := E_spec_l13Later
end Lx
/- The small functions, each with its contract. -/
set_option linter.unusedVariables false
set_option linter.unusedSimpArgs false
set_option maxRecDepth 4000
namespace Lx
open Go Go.Proofs
/-- impl.isName -/
noncomputable def R_impl_isName : RE Ty El := ⟨Tryz.prog, CP, [], Tryz.f99, 0, [], [(4, [(0, .any), (3, .any)])]⟩
theorem R_impl_isName_ok : REOK R_impl_isName g_impl_isName := ⟨CP_ok, EOKnil, by kernel_rfl, by kernel_rfl⟩
theorem t_impl_isName (s : Str) : aRun R_impl_isName 600 false (body0 R_impl_isName.fn) (initSt R_impl_isName.fn [.str s] []) =
  ifb (decide ((↑(List.length s) : Int) < (1 : Int))) (some (.ret (.bool false) [])) (ifb (decide ((↑(List.length s) : Int) > (8 : Int))) (some (.ret (.bool false) [])) (some (.go (todoAt R_impl_isName.fn 4) [.str s, .int .i64 (0 : Int)] []))) := by kernel_rfl
theorem t_impl_isName_4 (x0 : Str) (x1 : Int) : aRun R_impl_isName 600 true (todoAt R_impl_isName.fn 4) (cutSt R_impl_isName.fn (liveOf R_impl_isName (todoAt R_impl_isName.fn 4)) [.str x0, .int .i64 x1] []) =
  ifb (decide (x1 < (↑(List.length x0) : Int))) (ifb (inb x1 (List.length x0)) (ifb (decide ((↑(List.getD x0 x1.toNat (0 : UInt8)).toNat : Int) ≥ (97 : Int))) (ifb (decide ((↑(List.getD x0 x1.toNat (0 : UInt8)).toNat : Int) ≤ (122 : Int))) (some (.go (todoAt R_impl_isName.fn 4) [.str x0, .int .i64 (IntKind.i64.wrap (x1 + (1 : Int)))] [])) (ifb (decide ((↑(List.getD x0 x1.toNat (0 : UInt8)).toNat : Int) ≥ (48 : Int))) (ifb (decide ((↑(List.getD x0 x1.toNat (0 : UInt8)).toNat : Int) ≤ (57 : Int))) (some (.go (todoAt R_impl_isName.fn 4) [.str x0, .int .i64 (IntKind.i64.wrap (x1 + (1 : Int)))] [])) (ifb (!(↑(List.getD x0 x1.toNat (0 : UInt8)).toNat : Int) == (45 : Int)) (some (.ret (.bool false) [])) (some (.go (todoAt R_impl_isName.fn 4) [.str x0, .int .i64 (IntKind.i64.wrap (x1 + (1 : Int)))] [])))) (ifb (!(↑(List.getD x0 x1.toNat (0 : UInt8)).toNat : Int) == (45 : Int)) (some (.ret (.bool false) [])) (some (.go (todoAt R_impl_isName.fn 4) [.str x0, .int .i64 (IntKind.i64.wrap (x1 + (1 : Int)))] []))))) (ifb (decide ((↑(List.getD x0 x1.toNat (0 : UInt8)).toNat : Int) ≥ (48 : Int))) (ifb (decide ((↑(List.getD x0 x1.toNat (0 : UInt8)).toNat : Int) ≤ (57 : Int))) (some (.go (todoAt R_impl_isName.fn 4) [.str x0, .int .i64 (IntKind.i64.wrap (x1 + (1 : Int)))] [])) (ifb (!(↑(List.getD x0 x1.toNat (0 : UInt8)).toNat : Int) == (45 : Int)) (some (.ret (.bool false) [])) (some (.go (todoAt R_impl_isName.fn 4) [.str x0, .int .i64 (IntKind.i64.wrap (x1 + (1 : Int)))] [])))) (ifb (!(↑(List.getD x0 x1.toNat (0 : UInt8)).toNat : Int) == (45 : Int)) (some (.ret (.bool false) [])) (some (.go (todoAt R_impl_isName.fn 4) [.str x0, .int .i64 (IntKind.i64.wrap (x1 + (1 : Int)))] []))))) (none)) (some (.ret (.bool true) [])) := by kernel_rfl
theorem l_impl_isName (s : Str) (hs : s.length ≤ 8) : ∀ (d i : Nat), i + d = s.length → Cut R_impl_isName g_impl_isName 4 [.str s, .int .i64 (i : Int)] [] (.bool ((s.drop i).all nameB)) [] := by
  intro d
  induction d with
  | zero =>
    intro i hi
    refine Cut.of R_impl_isName_ok rfl (t_impl_isName_4 s i) ?_
    refine Sat.ifb (fun h => ?_) (fun h => ?_)
    · simp at h; omega
    · refine Sat.ret ?_ rfl
      rw [List.drop_of_length_le (by omega)]; rfl
  | succ d ih =>
    intro i hi
    refine Cut.of R_impl_isName_ok rfl (t_impl_isName_4 s i) ?_
    have hlt : i < s.length := by omega
    have hw : IntKind.wrap .i64 ((i : Int) + 1) = ((i + 1 : Nat) : Int) := by rw [wrap_ok] <;> omega
    rw [hw]
    have hd : s.drop i = s.getD i 0 :: s.drop (i + 1) := by rw [List.drop_eq_getElem_cons hlt]; simp [hlt]
    have hgo : nameB (s.getD i 0) = true → Sat R_impl_isName g_impl_isName (.bool ((s.drop i).all nameB)) [] (some (.go (todoAt R_impl_isName.fn 4) [.str s, .int .i64 ((i + 1 : Nat) : Int)] [])) := fun h => by
      refine Sat.cut ?_
      rw [hd, List.all_cons, h, Bool.true_and]
      exact ih (i + 1) (by omega)
    have hno : nameB (s.getD i 0) = false → Sat R_impl_isName g_impl_isName (.bool ((s.drop i).all nameB)) [] (some (.ret (.bool false) [])) := fun h => by
      refine Sat.ret ?_ rfl
      rw [hd, List.all_cons, h, Bool.false_and]
    rw [show ((i : Int).toNat) = i from Int.toNat_natCast i]
    generalize s.getD i 0 = b at *
    repeat' (first | (refine Sat.ifb (fun h => ?_) (fun h => ?_)) | (apply hgo; simp_all [nameB]; done) | (apply hno; simp_all [nameB]; done) | (apply hno; simp_all [nameB]; omega) | (apply hgo; simp_all [nameB]; omega))
    all_goals (simp_all [inb]; try omega)
theorem c_impl_isName (s : Str) : CallOK Tryz.prog CP g_impl_isName [.str s] [] (.bool (nameOk s)) [] := by
  refine CallOK.of R_impl_isName_ok (by kernel_rfl) (t_impl_isName s) ?_
  refine Sat.ifb (fun h => ?_) (fun h => ?_)
  · refine Sat.retB ?_ rfl
    have : ¬ 1 ≤ s.length := by simp at h; omega
    simp [nameOk, this]
  · refine Sat.ifb (fun h2 => ?_) (fun h2 => ?_)
    · refine Sat.retB ?_ rfl
      have : ¬ s.length ≤ 8 := by simp at h2; omega
      simp [nameOk, this]
    · have h8 : s.length ≤ 8 := by simp at h2; omega
      have h1 : 1 ≤ s.length := by simp at h; omega
      have := l_impl_isName s h8 s.length 0 (by omega)
      rw [show nameOk s = (s.drop 0).all nameB by simp [nameOk, h8, h1]]
      exact Sat.cut this
theorem E_impl_isName_ok : EntOK Tryz.prog CP g_impl_isName E_impl_isName := by
  refine ⟨⟨Tryz.f99, by kernel_rfl, by kernel_rfl, by kernel_rfl⟩, fun args H res H' h => ?_⟩
  simp only [E_impl_isName] at h
  split at h
  · simp only [Option.some.injEq, Prod.mk.injEq] at h
    obtain ⟨hg, rfl, rfl⟩ := h
    exact c_impl_isName _
  · cases h

/-- impl.within -/
noncomputable def R_impl_within : RE Ty El := ⟨Tryz.prog, CP, [], Tryz.f100, 0, [], []⟩
theorem R_impl_within_ok : REOK R_impl_within g_impl_within := ⟨CP_ok, EOKnil, by kernel_rfl, by kernel_rfl⟩
theorem t_impl_within (x y z : Int) : aRun R_impl_within 600 false (body0 R_impl_within.fn) (initSt R_impl_within.fn [.int .i64 x, .int .i64 y, .int .i64 z] []) =
  ifb (decide (x ≥ y)) (some (.ret (.bool (decide (x ≤ z))) [])) (some (.ret (.bool false) [])) := by kernel_rfl
theorem c_impl_within (x y z : Int) : CallOK Tryz.prog CP g_impl_within [.int .i64 x, .int .i64 y, .int .i64 z] [] (.bool (inR x y z)) [] := by
  refine CallOK.of R_impl_within_ok (by kernel_rfl) (t_impl_within x y z) ?_
  repeat' (first | (refine Sat.ifb (fun h => ?_) (fun h => ?_)) | (refine Sat.retB ?_ rfl; simp_all [inR]; done) | (refine Sat.retI ?_ rfl; simp_all [inR]; done))
  all_goals (first | (refine Sat.no ?_; simp_all; done) | (refine Sat.no ?_; simp_all; omega) | (refine Sat.retB ?_ rfl; simp_all [inR]; omega) | (refine Sat.retI ?_ rfl; simp_all [inR]; omega))
theorem E_impl_within_ok : EntOK Tryz.prog CP g_impl_within E_impl_within := by
  refine ⟨⟨Tryz.f100, by kernel_rfl, by kernel_rfl, by kernel_rfl⟩, fun args H res H' h => ?_⟩
  simp only [E_impl_within] at h
  split at h
  · simp only [Option.some.injEq, Prod.mk.injEq] at h
    obtain ⟨hg, rfl, rfl⟩ := h
    exact c_impl_within _ _ _
  · cases h

/-- spec.l11In -/
noncomputable def R_spec_l11In : RE Ty El := ⟨Tryz.prog, CP, [], Tryz.f95, 0, [], []⟩
theorem R_spec_l11In_ok : REOK R_spec_l11In g_spec_l11In := ⟨CP_ok, EOKnil, by kernel_rfl, by kernel_rfl⟩
theorem t_spec_l11In (x y z : Int) : aRun R_spec_l11In 600 false (body0 R_spec_l11In.fn) (initSt R_spec_l11In.fn [.int .i64 x, .int .i64 y, .int .i64 z] []) =
  ifb (decide (x ≥ y)) (some (.ret (.bool (decide (x ≤ z))) [])) (some (.ret (.bool false) [])) := by kernel_rfl
theorem c_spec_l11In (x y z : Int) : CallOK Tryz.prog CP g_spec_l11In [.int .i64 x, .int .i64 y, .int .i64 z] [] (.bool (inR x y z)) [] := by
  refine CallOK.of R_spec_l11In_ok (by kernel_rfl) (t_spec_l11In x y z) ?_
  repeat' (first | (refine Sat.ifb (fun h => ?_) (fun h => ?_)) | (refine Sat.retB ?_ rfl; simp_all [inR]; done) | (refine Sat.retI ?_ rfl; simp_all [inR]; done))
  all_goals (first | (refine Sat.no ?_; simp_all; done) | (refine Sat.no ?_; simp_all; omega) | (refine Sat.retB ?_ rfl; simp_all [inR]; omega) | (refine Sat.retI ?_ rfl; simp_all [inR]; omega))
theorem E_spec_l11In_ok : EntOK Tryz.prog CP g_spec_l11In E_spec_l11In := by
  refine ⟨⟨Tryz.f95, by kernel_rfl, by kernel_rfl, by kernel_rfl⟩, fun args H res H' h => ?_⟩
  simp only [E_spec_l11In, E_impl_within] at h
  split at h
  · simp only [Option.some.injEq, Prod.mk.injEq] at h
    obtain ⟨hg, rfl, rfl⟩ := h
    exact c_spec_l11In _ _ _
  · cases h

/-- spec.l11NameOk -/
noncomputable def R_spec_l11NameOk : RE Ty El := ⟨Tryz.prog, CP, [(g_spec_l11In, E_spec_l11In)], Tryz.f94, 0, [], [(4, [(0, .any), (3, .any)])]⟩
theorem R_spec_l11NameOk_ok : REOK R_spec_l11NameOk g_spec_l11NameOk := ⟨CP_ok, (TabOK.cons E_spec_l11In_ok EOKnil), by kernel_rfl, by kernel_rfl⟩
theorem t_spec_l11NameOk (s : Str) : aRun R_spec_l11NameOk 600 false (body0 R_spec_l11NameOk.fn) (initSt R_spec_l11NameOk.fn [.str s] []) =
  ifb (!inR (↑(List.length s) : Int) (1 : Int) (8 : Int)) (some (.ret (.bool false) [])) (some (.go (todoAt R_spec_l11NameOk.fn 4) [.str s, .int .i64 (0 : Int)] [])) := by kernel_rfl
theorem t_spec_l11NameOk_4 (x0 : Str) (x1 : Int) : aRun R_spec_l11NameOk 600 true (todoAt R_spec_l11NameOk.fn 4) (cutSt R_spec_l11NameOk.fn (liveOf R_spec_l11NameOk (todoAt R_spec_l11NameOk.fn 4)) [.str x0, .int .i64 x1] []) =
  ifb (decide (x1 < (↑(List.length x0) : Int))) (ifb (inb x1 (List.length x0)) (ifb (decide ((↑(List.getD x0 x1.toNat (0 : UInt8)).toNat : Int) ≥ (97 : Int))) (ifb (decide ((↑(List.getD x0 x1.toNat (0 : UInt8)).toNat : Int) ≤ (122 : Int))) (some (.go (todoAt R_spec_l11NameOk.fn 4) [.str x0, .int .i64 (IntKind.i64.wrap (x1 + (1 : Int)))] [])) (ifb (decide ((↑(List.getD x0 x1.toNat (0 : UInt8)).toNat : Int) ≥ (48 : Int))) (ifb (decide ((↑(List.getD x0 x1.toNat (0 : UInt8)).toNat : Int) ≤ (57 : Int))) (some (.go (todoAt R_spec_l11NameOk.fn 4) [.str x0, .int .i64 (IntKind.i64.wrap (x1 + (1 : Int)))] [])) (ifb (!(↑(List.getD x0 x1.toNat (0 : UInt8)).toNat : Int) == (45 : Int)) (some (.ret (.bool false) [])) (some (.go (todoAt R_spec_l11NameOk.fn 4) [.str x0, .int .i64 (IntKind.i64.wrap (x1 + (1 : Int)))] [])))) (ifb (!(↑(List.getD x0 x1.toNat (0 : UInt8)).toNat : Int) == (45 : Int)) (some (.ret (.bool false) [])) (some (.go (todoAt R_spec_l11NameOk.fn 4) [.str x0, .int .i64 (IntKind.i64.wrap (x1 + (1 : Int)))] []))))) (ifb (decide ((↑(List.getD x0 x1.toNat (0 : UInt8)).toNat : Int) ≥ (48 : Int))) (ifb (decide ((↑(List.getD x0 x1.toNat (0 : UInt8)).toNat : Int) ≤ (57 : Int))) (some (.go (todoAt R_spec_l11NameOk.fn 4) [.str x0, .int .i64 (IntKind.i64.wrap (x1 + (1 : Int)))] [])) (ifb (!(↑(List.getD x0 x1.toNat (0 : UInt8)).toNat : Int) == (45 : Int)) (some (.ret (.bool false) [])) (some (.go (todoAt R_spec_l11NameOk.fn 4) [.str x0, .int .i64 (IntKind.i64.wrap (x1 + (1 : Int)))] [])))) (ifb (!(↑(List.getD x0 x1.toNat (0 : UInt8)).toNat : Int) == (45 : Int)) (some (.ret (.bool false) [])) (some (.go (todoAt R_spec_l11NameOk.fn 4) [.str x0, .int .i64 (IntKind.i64.wrap (x1 + (1 : Int)))] []))))) (none)) (some (.ret (.bool true) [])) := by kernel_rfl
theorem l_spec_l11NameOk (s : Str) (hs : s.length ≤ 8) : ∀ (d i : Nat), i + d = s.length → Cut R_spec_l11NameOk g_spec_l11NameOk 4 [.str s, .int .i64 (i : Int)] [] (.bool ((s.drop i).all nameB)) [] := by
  intro d
  induction d with
  | zero =>
    intro i hi
    refine Cut.of R_spec_l11NameOk_ok rfl (t_spec_l11NameOk_4 s i) ?_
    refine Sat.ifb (fun h => ?_) (fun h => ?_)
    · simp at h; omega
    · refine Sat.ret ?_ rfl
      rw [List.drop_of_length_le (by omega)]; rfl
  | succ d ih =>
    intro i hi
    refine Cut.of R_spec_l11NameOk_ok rfl (t_spec_l11NameOk_4 s i) ?_
    have hlt : i < s.length := by omega
    have hw : IntKind.wrap .i64 ((i : Int) + 1) = ((i + 1 : Nat) : Int) := by rw [wrap_ok] <;> omega
    rw [hw]
    have hd : s.drop i = s.getD i 0 :: s.drop (i + 1) := by rw [List.drop_eq_getElem_cons hlt]; simp [hlt]
    have hgo : nameB (s.getD i 0) = true → Sat R_spec_l11NameOk g_spec_l11NameOk (.bool ((s.drop i).all nameB)) [] (some (.go (todoAt R_spec_l11NameOk.fn 4) [.str s, .int .i64 ((i + 1 : Nat) : Int)] [])) := fun h => by
      refine Sat.cut ?_
      rw [hd, List.all_cons, h, Bool.true_and]
      exact ih (i + 1) (by omega)
    have hno : nameB (s.getD i 0) = false → Sat R_spec_l11NameOk g_spec_l11NameOk (.bool ((s.drop i).all nameB)) [] (some (.ret (.bool false) [])) := fun h => by
      refine Sat.ret ?_ rfl
      rw [hd, List.all_cons, h, Bool.false_and]
    rw [show ((i : Int).toNat) = i from Int.toNat_natCast i]
    generalize s.getD i 0 = b at *
    repeat' (first | (refine Sat.ifb (fun h => ?_) (fun h => ?_)) | (apply hgo; simp_all [nameB]; done) | (apply hno; simp_all [nameB]; done) | (apply hno; simp_all [nameB]; omega) | (apply hgo; simp_all [nameB]; omega))
    all_goals (simp_all [inb]; try omega)
theorem c_spec_l11NameOk (s : Str) : CallOK Tryz.prog CP g_spec_l11NameOk [.str s] [] (.bool (nameOk s)) [] := by
  refine CallOK.of R_spec_l11NameOk_ok (by kernel_rfl) (t_spec_l11NameOk s) ?_
  refine Sat.ifb (fun h => ?_) (fun h => ?_)
  · refine Sat.retB ?_ rfl
    simp [inR] at h
    by_cases h1 : 1 ≤ s.length
    · have : ¬ s.length ≤ 8 := by omega
      simp [nameOk, this]
    · simp [nameOk, h1]
  · simp [inR] at h
    have h8 : s.length ≤ 8 := by omega
    have h1 : 1 ≤ s.length := by omega
    have := l_spec_l11NameOk s h8 s.length 0 (by omega)
    rw [show nameOk s = (s.drop 0).all nameB by simp [nameOk, h8, h1]]
    exact Sat.cut this
theorem E_spec_l11NameOk_ok : EntOK Tryz.prog CP g_spec_l11NameOk E_spec_l11NameOk := by
  refine ⟨⟨Tryz.f94, by kernel_rfl, by kernel_rfl, by kernel_rfl⟩, fun args H res H' h => ?_⟩
  simp only [E_spec_l11NameOk, E_impl_isName] at h
  split at h
  · simp only [Option.some.injEq, Prod.mk.injEq] at h
    obtain ⟨hg, rfl, rfl⟩ := h
    exact c_spec_l11NameOk _
  · cases h

/-- (impl.PlanBase).point$1 -/
noncomputable def R_impl_PlanBase_point_1 : RE Ty El := ⟨Tryz.prog, CP, [], Tryz.f189, 0, [], []⟩
theorem R_impl_PlanBase_point_1_ok : REOK R_impl_PlanBase_point_1 g_impl_PlanBase_point_1 := ⟨CP_ok, EOKnil, by kernel_rfl, by kernel_rfl⟩
theorem t_impl_PlanBase_point_1 (s : Str) (x y : Int) (n : Str) : aRun R_impl_PlanBase_point_1 600 false (body0 R_impl_PlanBase_point_1.fn) (initSt R_impl_PlanBase_point_1.fn [.agg [.str s, .int .i64 x, .int .i64 y], .rop [.str n] 0] []) =
  some (.ret (.bool (s == n)) []) := by kernel_rfl
theorem c_impl_PlanBase_point_1 (s : Str) (x y : Int) (n : Str) : CallOK Tryz.prog CP g_impl_PlanBase_point_1 [.agg [.str s, .int .i64 x, .int .i64 y], .rop [.str n] 0] [] (.bool (s == n)) [] := by
  refine CallOK.of R_impl_PlanBase_point_1_ok (by kernel_rfl) (t_impl_PlanBase_point_1 s x y n) ?_
  repeat' (first | (refine Sat.ifb (fun h => ?_) (fun h => ?_)) | (refine Sat.retB ?_ rfl; simp_all []; done) | (refine Sat.retI ?_ rfl; simp_all []; done))
  all_goals (first | (refine Sat.no ?_; simp_all; done) | (refine Sat.no ?_; simp_all; omega) | (refine Sat.retB ?_ rfl; simp_all []; omega) | (refine Sat.retI ?_ rfl; simp_all []; omega))
theorem E_impl_PlanBase_point_1_ok : EntOK Tryz.prog CP g_impl_PlanBase_point_1 E_impl_PlanBase_point_1 := by
  refine ⟨⟨Tryz.f189, by kernel_rfl, by kernel_rfl, by kernel_rfl⟩, fun args H res H' h => ?_⟩
  simp only [E_impl_PlanBase_point_1] at h
  split at h
  · simp only [Option.some.injEq, Prod.mk.injEq] at h
    obtain ⟨hg, rfl, rfl⟩ := h
    exact c_impl_PlanBase_point_1 _ _ _ _
  · cases h

/-- (impl.PlanBase).kind$1 -/
noncomputable def R_impl_PlanBase_kind_1 : RE Ty El := ⟨Tryz.prog, CP, [], Tryz.f228, 0, [], []⟩
theorem R_impl_PlanBase_kind_1_ok : REOK R_impl_PlanBase_kind_1 g_impl_PlanBase_kind_1 := ⟨CP_ok, EOKnil, by kernel_rfl, by kernel_rfl⟩
theorem t_impl_PlanBase_kind_1 (s : Str) (x y : Int) (n : Str) : aRun R_impl_PlanBase_kind_1 600 false (body0 R_impl_PlanBase_kind_1.fn) (initSt R_impl_PlanBase_kind_1.fn [.agg [.str s, .int .i64 x, .int .i64 y], .rop [.str n] 0] []) =
  some (.ret (.bool (s == n)) []) := by kernel_rfl
theorem c_impl_PlanBase_kind_1 (s : Str) (x y : Int) (n : Str) : CallOK Tryz.prog CP g_impl_PlanBase_kind_1 [.agg [.str s, .int .i64 x, .int .i64 y], .rop [.str n] 0] [] (.bool (s == n)) [] := by
  refine CallOK.of R_impl_PlanBase_kind_1_ok (by kernel_rfl) (t_impl_PlanBase_kind_1 s x y n) ?_
  repeat' (first | (refine Sat.ifb (fun h => ?_) (fun h => ?_)) | (refine Sat.retB ?_ rfl; simp_all []; done) | (refine Sat.retI ?_ rfl; simp_all []; done))
  all_goals (first | (refine Sat.no ?_; simp_all; done) | (refine Sat.no ?_; simp_all; omega) | (refine Sat.retB ?_ rfl; simp_all []; omega) | (refine Sat.retI ?_ rfl; simp_all []; omega))
theorem E_impl_PlanBase_kind_1_ok : EntOK Tryz.prog CP g_impl_PlanBase_kind_1 E_impl_PlanBase_kind_1 := by
  refine ⟨⟨Tryz.f228, by kernel_rfl, by kernel_rfl, by kernel_rfl⟩, fun args H res H' h => ?_⟩
  simp only [E_impl_PlanBase_kind_1, E_impl_PlanBase_point_1] at h
  split at h
  · simp only [Option.some.injEq, Prod.mk.injEq] at h
    obtain ⟨hg, rfl, rfl⟩ := h
    exact c_impl_PlanBase_kind_1 _ _ _ _
  · cases h

/-- (impl.PlanBook).entry$1 -/
noncomputable def R_impl_PlanBook_entry_1 : RE Ty El := ⟨Tryz.prog, CP, [], Tryz.f230, 0, [], []⟩
theorem R_impl_PlanBook_entry_1_ok : REOK R_impl_PlanBook_entry_1 g_impl_PlanBook_entry_1 := ⟨CP_ok, EOKnil, by kernel_rfl, by kernel_rfl⟩
theorem t_impl_PlanBook_entry_1 (s : Str) (fs : List Fld) (n : Str) : aRun R_impl_PlanBook_entry_1 600 false (body0 R_impl_PlanBook_entry_1.fn) (initSt R_impl_PlanBook_entry_1.fn [.agg [.str s, .sl .fld fs], .rop [.str n] 0] []) =
  some (.ret (.bool (s == n)) []) := by kernel_rfl
theorem c_impl_PlanBook_entry_1 (s : Str) (fs : List Fld) (n : Str) : CallOK Tryz.prog CP g_impl_PlanBook_entry_1 [.agg [.str s, .sl .fld fs], .rop [.str n] 0] [] (.bool (s == n)) [] := by
  refine CallOK.of R_impl_PlanBook_entry_1_ok (by kernel_rfl) (t_impl_PlanBook_entry_1 s fs n) ?_
  repeat' (first | (refine Sat.ifb (fun h => ?_) (fun h => ?_)) | (refine Sat.retB ?_ rfl; simp_all []; done) | (refine Sat.retI ?_ rfl; simp_all []; done))
  all_goals (first | (refine Sat.no ?_; simp_all; done) | (refine Sat.no ?_; simp_all; omega) | (refine Sat.retB ?_ rfl; simp_all []; omega) | (refine Sat.retI ?_ rfl; simp_all []; omega))
theorem E_impl_PlanBook_entry_1_ok : EntOK Tryz.prog CP g_impl_PlanBook_entry_1 E_impl_PlanBook_entry_1 := by
  refine ⟨⟨Tryz.f230, by kernel_rfl, by kernel_rfl, by kernel_rfl⟩, fun args H res H' h => ?_⟩
  simp only [E_impl_PlanBook_entry_1] at h
  split at h
  · simp only [Option.some.injEq, Prod.mk.injEq] at h
    obtain ⟨hg, rfl, rfl⟩ := h
    exact c_impl_PlanBook_entry_1 _ _ _
  · cases h

/-- slices.IndexFunc[[]impl.PlanPoint,impl.PlanPoint] -/
noncomputable def R_slices_IndexFunc_PlanPoint : RE Ty El := ⟨Tryz.prog, CP, [(g_impl_PlanBase_point_1, E_impl_PlanBase_point_1)], Tryz.f188, 0, [], [(2, [(0, .any), (1, .any), (7, .any), (8, .any)])]⟩
theorem R_slices_IndexFunc_PlanPoint_ok : REOK R_slices_IndexFunc_PlanPoint g_slices_IndexFunc_PlanPoint := ⟨CP_ok, (TabOK.cons E_impl_PlanBase_point_1_ok EOKnil), by kernel_rfl, by kernel_rfl⟩
theorem t_slices_IndexFunc_PlanPoint (ps : List Point) (n : Str) : aRun R_slices_IndexFunc_PlanPoint 600 false (body0 R_slices_IndexFunc_PlanPoint.fn) (initSt R_slices_IndexFunc_PlanPoint.fn [.sl .point ps, .fn (.func g_impl_PlanBase_point_1) [.rop [.str n] 0]] []) =
  some (.go (todoAt R_slices_IndexFunc_PlanPoint.fn 2) [.sl .point ps, .fn (Fn.func g_impl_PlanBase_point_1) [.rop [.str n] 0], .int .i64 (↑ps.length : Int), .int .i64 (0 : Int)] []) := by kernel_rfl
theorem t_slices_IndexFunc_PlanPoint_2 (x0 : List (El .point)) (x1 : Str) (x2 : Int) (x3 : Int) : aRun R_slices_IndexFunc_PlanPoint 600 true (todoAt R_slices_IndexFunc_PlanPoint.fn 2) (cutSt R_slices_IndexFunc_PlanPoint.fn (liveOf R_slices_IndexFunc_PlanPoint (todoAt R_slices_IndexFunc_PlanPoint.fn 2)) [.sl .point x0, .fn (Fn.func g_impl_PlanBase_point_1) [.rop [.str x1] 0], .int .i64 x2, .int .i64 x3] []) =
  ifb (decide (x3 < x2)) (ifb (inb x3 x0.length) (ifb ((x0.getD x3.toNat (R_slices_IndexFunc_PlanPoint.C.dflt Ty.point)).name == x1) (some (.ret (.int .i64 x3) [])) (some (.go (todoAt R_slices_IndexFunc_PlanPoint.fn 2) [.sl .point x0, .fn (Fn.func g_impl_PlanBase_point_1) [.rop [.str x1] 0], .int .i64 x2, .int .i64 (IntKind.i64.wrap (x3 + (1 : Int)))] []))) (none)) (some (.ret (.int .i64 (-1 : Int)) [])) := by kernel_rfl
theorem l_slices_IndexFunc_PlanPoint (ps : List Point) (n : Str) (hl : ps.length < 1000000000) : ∀ (d i : Nat), i + d = ps.length → (∀ k, k < i → ∀ x, ps[k]? = some x → (x.name == n) = false) → Cut R_slices_IndexFunc_PlanPoint g_slices_IndexFunc_PlanPoint 2 [.sl .point ps, .fn (.func g_impl_PlanBase_point_1) [.rop [.str n] 0], .int .i64 (ps.length : Int), .int .i64 (i : Int)] [] (.int .i64 (idxF (fun p => p.name == n) ps)) [] := by
  intro d
  induction d with
  | zero =>
    intro i hi hno
    refine Cut.of R_slices_IndexFunc_PlanPoint_ok rfl (t_slices_IndexFunc_PlanPoint_2 ps n ps.length i) ?_
    refine Sat.ifb (fun h => ?_) (fun h => ?_)
    · simp at h; omega
    · exact Sat.retI (idxF_none (fun k x hk => hno k (by have := (List.getElem?_eq_some_iff.1 hk).1; omega) x hk)).symm rfl
  | succ d ih =>
    intro i hi hno
    refine Cut.of R_slices_IndexFunc_PlanPoint_ok rfl (t_slices_IndexFunc_PlanPoint_2 ps n ps.length i) ?_
    have hlt : i < ps.length := by omega
    have hw : IntKind.wrap .i64 ((i : Int) + 1) = ((i + 1 : Nat) : Int) := by rw [wrap_ok] <;> omega
    rw [hw]
    have hd : ps.getD (i : Int).toNat (R_slices_IndexFunc_PlanPoint.C.dflt .point) = ps[i] := by simp [hlt]
    rw [hd]
    refine Sat.ifb (fun h => ?_) (fun h => ?_)
    · refine Sat.ifb (fun h2 => ?_) (fun h2 => ?_)
      · refine Sat.ifb (fun h3 => ?_) (fun h3 => ?_)
        · exact Sat.retI (idxF_at (List.getElem?_eq_getElem hlt) h3 hno).symm rfl
        · refine Sat.cut (ih (i + 1) (by omega) fun k hk x hx => ?_)
          by_cases hki : k = i
          · subst hki
            rw [List.getElem?_eq_getElem hlt] at hx
            obtain rfl := Option.some.inj hx
            exact h3
          · exact hno k (by omega) x hx
      · simp [inb] at h2; omega
    · simp at h; omega
theorem c_slices_IndexFunc_PlanPoint (ps : List Point) (n : Str) (hg : decide (ps.length < 1000000000) = true) : CallOK Tryz.prog CP g_slices_IndexFunc_PlanPoint [.sl .point ps, .fn (.func g_impl_PlanBase_point_1) [.rop [.str n] 0]] [] (.int .i64 (idxF (fun p => p.name == n) ps)) [] := by
  refine CallOK.of R_slices_IndexFunc_PlanPoint_ok (by kernel_rfl) (t_slices_IndexFunc_PlanPoint ps n) ?_
  exact Sat.cut (l_slices_IndexFunc_PlanPoint ps n (of_decide_eq_true hg) ps.length 0 (by omega) (fun k hk => by omega))
theorem E_slices_IndexFunc_PlanPoint_ok : EntOK Tryz.prog CP g_slices_IndexFunc_PlanPoint E_slices_IndexFunc_PlanPoint := by
  refine ⟨⟨Tryz.f188, by kernel_rfl, by kernel_rfl, by kernel_rfl⟩, fun args H res H' h => ?_⟩
  simp only [E_slices_IndexFunc_PlanPoint] at h
  split at h
  · simp only [Option.some.injEq, Prod.mk.injEq] at h
    obtain ⟨hg, rfl, rfl⟩ := h
    simp only [Bool.and_eq_true, decide_eq_true_eq] at hg
    obtain ⟨rfl, hg⟩ := hg
    exact c_slices_IndexFunc_PlanPoint _ _ (decide_eq_true hg)
  · cases h

/-- slices.IndexFunc[[]impl.PlanKind,impl.PlanKind] -/
noncomputable def R_slices_IndexFunc_PlanKind : RE Ty El := ⟨Tryz.prog, CP, [(g_impl_PlanBase_kind_1, E_impl_PlanBase_kind_1)], Tryz.f227, 0, [], [(2, [(0, .any), (1, .any), (7, .any), (8, .any)])]⟩
theorem R_slices_IndexFunc_PlanKind_ok : REOK R_slices_IndexFunc_PlanKind g_slices_IndexFunc_PlanKind := ⟨CP_ok, (TabOK.cons E_impl_PlanBase_kind_1_ok EOKnil), by kernel_rfl, by kernel_rfl⟩
theorem t_slices_IndexFunc_PlanKind (ps : List Kind) (n : Str) : aRun R_slices_IndexFunc_PlanKind 600 false (body0 R_slices_IndexFunc_PlanKind.fn) (initSt R_slices_IndexFunc_PlanKind.fn [.sl .kind ps, .fn (.func g_impl_PlanBase_kind_1) [.rop [.str n] 0]] []) =
  some (.go (todoAt R_slices_IndexFunc_PlanKind.fn 2) [.sl .kind ps, .fn (Fn.func g_impl_PlanBase_kind_1) [.rop [.str n] 0], .int .i64 (↑ps.length : Int), .int .i64 (0 : Int)] []) := by kernel_rfl
theorem t_slices_IndexFunc_PlanKind_2 (x0 : List (El .kind)) (x1 : Str) (x2 : Int) (x3 : Int) : aRun R_slices_IndexFunc_PlanKind 600 true (todoAt R_slices_IndexFunc_PlanKind.fn 2) (cutSt R_slices_IndexFunc_PlanKind.fn (liveOf R_slices_IndexFunc_PlanKind (todoAt R_slices_IndexFunc_PlanKind.fn 2)) [.sl .kind x0, .fn (Fn.func g_impl_PlanBase_kind_1) [.rop [.str x1] 0], .int .i64 x2, .int .i64 x3] []) =
  ifb (decide (x3 < x2)) (ifb (inb x3 x0.length) (ifb ((x0.getD x3.toNat (R_slices_IndexFunc_PlanKind.C.dflt Ty.kind)).name == x1) (some (.ret (.int .i64 x3) [])) (some (.go (todoAt R_slices_IndexFunc_PlanKind.fn 2) [.sl .kind x0, .fn (Fn.func g_impl_PlanBase_kind_1) [.rop [.str x1] 0], .int .i64 x2, .int .i64 (IntKind.i64.wrap (x3 + (1 : Int)))] []))) (none)) (some (.ret (.int .i64 (-1 : Int)) [])) := by kernel_rfl
theorem l_slices_IndexFunc_PlanKind (ps : List Kind) (n : Str) (hl : ps.length < 1000000000) : ∀ (d i : Nat), i + d = ps.length → (∀ k, k < i → ∀ x, ps[k]? = some x → (x.name == n) = false) → Cut R_slices_IndexFunc_PlanKind g_slices_IndexFunc_PlanKind 2 [.sl .kind ps, .fn (.func g_impl_PlanBase_kind_1) [.rop [.str n] 0], .int .i64 (ps.length : Int), .int .i64 (i : Int)] [] (.int .i64 (idxF (fun p => p.name == n) ps)) [] := by
  intro d
  induction d with
  | zero =>
    intro i hi hno
    refine Cut.of R_slices_IndexFunc_PlanKind_ok rfl (t_slices_IndexFunc_PlanKind_2 ps n ps.length i) ?_
    refine Sat.ifb (fun h => ?_) (fun h => ?_)
    · simp at h; omega
    · exact Sat.retI (idxF_none (fun k x hk => hno k (by have := (List.getElem?_eq_some_iff.1 hk).1; omega) x hk)).symm rfl
  | succ d ih =>
    intro i hi hno
    refine Cut.of R_slices_IndexFunc_PlanKind_ok rfl (t_slices_IndexFunc_PlanKind_2 ps n ps.length i) ?_
    have hlt : i < ps.length := by omega
    have hw : IntKind.wrap .i64 ((i : Int) + 1) = ((i + 1 : Nat) : Int) := by rw [wrap_ok] <;> omega
    rw [hw]
    have hd : ps.getD (i : Int).toNat (R_slices_IndexFunc_PlanKind.C.dflt .kind) = ps[i] := by simp [hlt]
    rw [hd]
    refine Sat.ifb (fun h => ?_) (fun h => ?_)
    · refine Sat.ifb (fun h2 => ?_) (fun h2 => ?_)
      · refine Sat.ifb (fun h3 => ?_) (fun h3 => ?_)
        · exact Sat.retI (idxF_at (List.getElem?_eq_getElem hlt) h3 hno).symm rfl
        · refine Sat.cut (ih (i + 1) (by omega) fun k hk x hx => ?_)
          by_cases hki : k = i
          · subst hki
            rw [List.getElem?_eq_getElem hlt] at hx
            obtain rfl := Option.some.inj hx
            exact h3
          · exact hno k (by omega) x hx
      · simp [inb] at h2; omega
    · simp at h; omega
theorem c_slices_IndexFunc_PlanKind (ps : List Kind) (n : Str) (hg : decide (ps.length < 1000000000) = true) : CallOK Tryz.prog CP g_slices_IndexFunc_PlanKind [.sl .kind ps, .fn (.func g_impl_PlanBase_kind_1) [.rop [.str n] 0]] [] (.int .i64 (idxF (fun p => p.name == n) ps)) [] := by
  refine CallOK.of R_slices_IndexFunc_PlanKind_ok (by kernel_rfl) (t_slices_IndexFunc_PlanKind ps n) ?_
  exact Sat.cut (l_slices_IndexFunc_PlanKind ps n (of_decide_eq_true hg) ps.length 0 (by omega) (fun k hk => by omega))
theorem E_slices_IndexFunc_PlanKind_ok : EntOK Tryz.prog CP g_slices_IndexFunc_PlanKind E_slices_IndexFunc_PlanKind := by
  refine ⟨⟨Tryz.f227, by kernel_rfl, by kernel_rfl, by kernel_rfl⟩, fun args H res H' h => ?_⟩
  simp only [E_slices_IndexFunc_PlanKind] at h
  split at h
  · simp only [Option.some.injEq, Prod.mk.injEq] at h
    obtain ⟨hg, rfl, rfl⟩ := h
    simp only [Bool.and_eq_true, decide_eq_true_eq] at hg
    obtain ⟨rfl, hg⟩ := hg
    exact c_slices_IndexFunc_PlanKind _ _ (decide_eq_true hg)
  · cases h

/-- slices.IndexFunc[[]impl.PlanEntry,impl.PlanEntry] -/
noncomputable def R_slices_IndexFunc_PlanEntry : RE Ty El := ⟨Tryz.prog, CP, [(g_impl_PlanBook_entry_1, E_impl_PlanBook_entry_1)], Tryz.f229, 0, [], [(2, [(0, .any), (1, .any), (7, .any), (8, .any)])]⟩
theorem R_slices_IndexFunc_PlanEntry_ok : REOK R_slices_IndexFunc_PlanEntry g_slices_IndexFunc_PlanEntry := ⟨CP_ok, (TabOK.cons E_impl_PlanBook_entry_1_ok EOKnil), by kernel_rfl, by kernel_rfl⟩
theorem t_slices_IndexFunc_PlanEntry (ps : List Entry) (n : Str) : aRun R_slices_IndexFunc_PlanEntry 600 false (body0 R_slices_IndexFunc_PlanEntry.fn) (initSt R_slices_IndexFunc_PlanEntry.fn [.sl .entry ps, .fn (.func g_impl_PlanBook_entry_1) [.rop [.str n] 0]] []) =
  some (.go (todoAt R_slices_IndexFunc_PlanEntry.fn 2) [.sl .entry ps, .fn (Fn.func g_impl_PlanBook_entry_1) [.rop [.str n] 0], .int .i64 (↑ps.length : Int), .int .i64 (0 : Int)] []) := by kernel_rfl
theorem t_slices_IndexFunc_PlanEntry_2 (x0 : List (El .entry)) (x1 : Str) (x2 : Int) (x3 : Int) : aRun R_slices_IndexFunc_PlanEntry 600 true (todoAt R_slices_IndexFunc_PlanEntry.fn 2) (cutSt R_slices_IndexFunc_PlanEntry.fn (liveOf R_slices_IndexFunc_PlanEntry (todoAt R_slices_IndexFunc_PlanEntry.fn 2)) [.sl .entry x0, .fn (Fn.func g_impl_PlanBook_entry_1) [.rop [.str x1] 0], .int .i64 x2, .int .i64 x3] []) =
  ifb (decide (x3 < x2)) (ifb (inb x3 x0.length) (ifb ((x0.getD x3.toNat (R_slices_IndexFunc_PlanEntry.C.dflt Ty.entry)).name == x1) (some (.ret (.int .i64 x3) [])) (some (.go (todoAt R_slices_IndexFunc_PlanEntry.fn 2) [.sl .entry x0, .fn (Fn.func g_impl_PlanBook_entry_1) [.rop [.str x1] 0], .int .i64 x2, .int .i64 (IntKind.i64.wrap (x3 + (1 : Int)))] []))) (none)) (some (.ret (.int .i64 (-1 : Int)) [])) := by kernel_rfl
theorem l_slices_IndexFunc_PlanEntry (ps : List Entry) (n : Str) (hl : ps.length < 1000000000) : ∀ (d i : Nat), i + d = ps.length → (∀ k, k < i → ∀ x, ps[k]? = some x → (x.name == n) = false) → Cut R_slices_IndexFunc_PlanEntry g_slices_IndexFunc_PlanEntry 2 [.sl .entry ps, .fn (.func g_impl_PlanBook_entry_1) [.rop [.str n] 0], .int .i64 (ps.length : Int), .int .i64 (i : Int)] [] (.int .i64 (idxF (fun p => p.name == n) ps)) [] := by
  intro d
  induction d with
  | zero =>
    intro i hi hno
    refine Cut.of R_slices_IndexFunc_PlanEntry_ok rfl (t_slices_IndexFunc_PlanEntry_2 ps n ps.length i) ?_
    refine Sat.ifb (fun h => ?_) (fun h => ?_)
    · simp at h; omega
    · exact Sat.retI (idxF_none (fun k x hk => hno k (by have := (List.getElem?_eq_some_iff.1 hk).1; omega) x hk)).symm rfl
  | succ d ih =>
    intro i hi hno
    refine Cut.of R_slices_IndexFunc_PlanEntry_ok rfl (t_slices_IndexFunc_PlanEntry_2 ps n ps.length i) ?_
    have hlt : i < ps.length := by omega
    have hw : IntKind.wrap .i64 ((i : Int) + 1) = ((i + 1 : Nat) : Int) := by rw [wrap_ok] <;> omega
    rw [hw]
    have hd : ps.getD (i : Int).toNat (R_slices_IndexFunc_PlanEntry.C.dflt .entry) = ps[i] := by simp [hlt]
    rw [hd]
    refine Sat.ifb (fun h => ?_) (fun h => ?_)
    · refine Sat.ifb (fun h2 => ?_) (fun h2 => ?_)
      · refine Sat.ifb (fun h3 => ?_) (fun h3 => ?_)
        · exact Sat.retI (idxF_at (List.getElem?_eq_getElem hlt) h3 hno).symm rfl
        · refine Sat.cut (ih (i + 1) (by omega) fun k hk x hx => ?_)
          by_cases hki : k = i
          · subst hki
            rw [List.getElem?_eq_getElem hlt] at hx
            obtain rfl := Option.some.inj hx
            exact h3
          · exact hno k (by omega) x hx
      · simp [inb] at h2; omega
    · simp at h; omega
theorem c_slices_IndexFunc_PlanEntry (ps : List Entry) (n : Str) (hg : decide (ps.length < 1000000000) = true) : CallOK Tryz.prog CP g_slices_IndexFunc_PlanEntry [.sl .entry ps, .fn (.func g_impl_PlanBook_entry_1) [.rop [.str n] 0]] [] (.int .i64 (idxF (fun p => p.name == n) ps)) [] := by
  refine CallOK.of R_slices_IndexFunc_PlanEntry_ok (by kernel_rfl) (t_slices_IndexFunc_PlanEntry ps n) ?_
  exact Sat.cut (l_slices_IndexFunc_PlanEntry ps n (of_decide_eq_true hg) ps.length 0 (by omega) (fun k hk => by omega))
theorem E_slices_IndexFunc_PlanEntry_ok : EntOK Tryz.prog CP g_slices_IndexFunc_PlanEntry E_slices_IndexFunc_PlanEntry := by
  refine ⟨⟨Tryz.f229, by kernel_rfl, by kernel_rfl, by kernel_rfl⟩, fun args H res H' h => ?_⟩
  simp only [E_slices_IndexFunc_PlanEntry] at h
  split at h
  · simp only [Option.some.injEq, Prod.mk.injEq] at h
    obtain ⟨hg, rfl, rfl⟩ := h
    simp only [Bool.and_eq_true, decide_eq_true_eq] at hg
    obtain ⟨rfl, hg⟩ := hg
    exact c_slices_IndexFunc_PlanEntry _ _ (decide_eq_true hg)
  · cases h

/-- (impl.PlanBase).point -/
noncomputable def R_impl_PlanBase_point : RE Ty El := ⟨Tryz.prog, CP, [(g_slices_IndexFunc_PlanPoint, E_slices_IndexFunc_PlanPoint)], Tryz.f114, 0, [], []⟩
theorem R_impl_PlanBase_point_ok : REOK R_impl_PlanBase_point g_impl_PlanBase_point := ⟨CP_ok, (TabOK.cons E_slices_IndexFunc_PlanPoint_ok EOKnil), by kernel_rfl, by kernel_rfl⟩
theorem t_impl_PlanBase_point (ks : List Kind) (ps : List Point) (n : Str) : aRun R_impl_PlanBase_point 600 false (body0 R_impl_PlanBase_point.fn) (initSt R_impl_PlanBase_point.fn [.agg [.sl .kind ks, .sl .point ps], .str n] []) =
  ifb (decide (ps.length < (1000000000 : Nat))) (some (.ret (.int .i64 (idxF (fun p => p.name == n) ps)) [])) (none) := by kernel_rfl
theorem c_impl_PlanBase_point (ks : List Kind) (ps : List Point) (n : Str) (hg : decide (ps.length < 1000000000) = true) : CallOK Tryz.prog CP g_impl_PlanBase_point [.agg [.sl .kind ks, .sl .point ps], .str n] [] (.int .i64 (idxF (fun p => p.name == n) ps)) [] := by
  refine CallOK.of R_impl_PlanBase_point_ok (by kernel_rfl) (t_impl_PlanBase_point ks ps n) ?_
  repeat' (first | (refine Sat.ifb (fun h => ?_) (fun h => ?_)) | (refine Sat.retB ?_ rfl; simp_all []; done) | (refine Sat.retI ?_ rfl; simp_all []; done))
  all_goals (first | (refine Sat.no ?_; simp_all; done) | (refine Sat.no ?_; simp_all; omega) | (refine Sat.retB ?_ rfl; simp_all []; omega) | (refine Sat.retI ?_ rfl; simp_all []; omega))
theorem E_impl_PlanBase_point_ok : EntOK Tryz.prog CP g_impl_PlanBase_point E_impl_PlanBase_point := by
  refine ⟨⟨Tryz.f114, by kernel_rfl, by kernel_rfl, by kernel_rfl⟩, fun args H res H' h => ?_⟩
  simp only [E_impl_PlanBase_point] at h
  split at h
  · simp only [Option.some.injEq, Prod.mk.injEq] at h
    obtain ⟨hg, rfl, rfl⟩ := h
    exact c_impl_PlanBase_point _ _ _ hg
  · cases h

/-- (impl.PlanBase).kind -/
noncomputable def R_impl_PlanBase_kind : RE Ty El := ⟨Tryz.prog, CP, [(g_slices_IndexFunc_PlanKind, E_slices_IndexFunc_PlanKind)], Tryz.f169, 0, [], []⟩
theorem R_impl_PlanBase_kind_ok : REOK R_impl_PlanBase_kind g_impl_PlanBase_kind := ⟨CP_ok, (TabOK.cons E_slices_IndexFunc_PlanKind_ok EOKnil), by kernel_rfl, by kernel_rfl⟩
theorem t_impl_PlanBase_kind (ks : List Kind) (ps : List Point) (n : Str) : aRun R_impl_PlanBase_kind 600 false (body0 R_impl_PlanBase_kind.fn) (initSt R_impl_PlanBase_kind.fn [.agg [.sl .kind ks, .sl .point ps], .str n] []) =
  ifb (decide (ks.length < (1000000000 : Nat))) (some (.ret (.int .i64 (idxF (fun p => p.name == n) ks)) [])) (none) := by kernel_rfl
theorem c_impl_PlanBase_kind (ks : List Kind) (ps : List Point) (n : Str) (hg : decide (ks.length < 1000000000) = true) : CallOK Tryz.prog CP g_impl_PlanBase_kind [.agg [.sl .kind ks, .sl .point ps], .str n] [] (.int .i64 (idxF (fun p => p.name == n) ks)) [] := by
  refine CallOK.of R_impl_PlanBase_kind_ok (by kernel_rfl) (t_impl_PlanBase_kind ks ps n) ?_
  repeat' (first | (refine Sat.ifb (fun h => ?_) (fun h => ?_)) | (refine Sat.retB ?_ rfl; simp_all []; done) | (refine Sat.retI ?_ rfl; simp_all []; done))
  all_goals (first | (refine Sat.no ?_; simp_all; done) | (refine Sat.no ?_; simp_all; omega) | (refine Sat.retB ?_ rfl; simp_all []; omega) | (refine Sat.retI ?_ rfl; simp_all []; omega))
theorem E_impl_PlanBase_kind_ok : EntOK Tryz.prog CP g_impl_PlanBase_kind E_impl_PlanBase_kind := by
  refine ⟨⟨Tryz.f169, by kernel_rfl, by kernel_rfl, by kernel_rfl⟩, fun args H res H' h => ?_⟩
  simp only [E_impl_PlanBase_kind] at h
  split at h
  · simp only [Option.some.injEq, Prod.mk.injEq] at h
    obtain ⟨hg, rfl, rfl⟩ := h
    exact c_impl_PlanBase_kind _ _ _ hg
  · cases h

/-- (impl.PlanBook).entry -/
noncomputable def R_impl_PlanBook_entry : RE Ty El := ⟨Tryz.prog, CP, [(g_slices_IndexFunc_PlanEntry, E_slices_IndexFunc_PlanEntry)], Tryz.f176, 0, [], []⟩
theorem R_impl_PlanBook_entry_ok : REOK R_impl_PlanBook_entry g_impl_PlanBook_entry := ⟨CP_ok, (TabOK.cons E_slices_IndexFunc_PlanEntry_ok EOKnil), by kernel_rfl, by kernel_rfl⟩
theorem t_impl_PlanBook_entry (ks : List Kind) (ps : List Point) (es : List Entry) (n : Str) : aRun R_impl_PlanBook_entry 600 false (body0 R_impl_PlanBook_entry.fn) (initSt R_impl_PlanBook_entry.fn [.agg [.sl .kind ks, .sl .point ps, .sl .entry es], .str n] []) =
  ifb (decide (es.length < (1000000000 : Nat))) (some (.ret (.int .i64 (idxF (fun p => p.name == n) es)) [])) (none) := by kernel_rfl
theorem c_impl_PlanBook_entry (ks : List Kind) (ps : List Point) (es : List Entry) (n : Str) (hg : decide (es.length < 1000000000) = true) : CallOK Tryz.prog CP g_impl_PlanBook_entry [.agg [.sl .kind ks, .sl .point ps, .sl .entry es], .str n] [] (.int .i64 (idxF (fun p => p.name == n) es)) [] := by
  refine CallOK.of R_impl_PlanBook_entry_ok (by kernel_rfl) (t_impl_PlanBook_entry ks ps es n) ?_
  repeat' (first | (refine Sat.ifb (fun h => ?_) (fun h => ?_)) | (refine Sat.retB ?_ rfl; simp_all []; done) | (refine Sat.retI ?_ rfl; simp_all []; done))
  all_goals (first | (refine Sat.no ?_; simp_all; done) | (refine Sat.no ?_; simp_all; omega) | (refine Sat.retB ?_ rfl; simp_all []; omega) | (refine Sat.retI ?_ rfl; simp_all []; omega))
theorem E_impl_PlanBook_entry_ok : EntOK Tryz.prog CP g_impl_PlanBook_entry E_impl_PlanBook_entry := by
  refine ⟨⟨Tryz.f176, by kernel_rfl, by kernel_rfl, by kernel_rfl⟩, fun args H res H' h => ?_⟩
  simp only [E_impl_PlanBook_entry] at h
  split at h
  · simp only [Option.some.injEq, Prod.mk.injEq] at h
    obtain ⟨hg, rfl, rfl⟩ := h
    exact c_impl_PlanBook_entry _ _ _ _ hg
  · cases h

/-- spec.l11Point -/
noncomputable def R_spec_l11Point : RE Ty El := ⟨Tryz.prog, CP, [], Tryz.f115, 0, [], [(2, [(1, .any), (2, .any), (5, .any)])]⟩
theorem R_spec_l11Point_ok : REOK R_spec_l11Point g_spec_l11Point := ⟨CP_ok, EOKnil, by kernel_rfl, by kernel_rfl⟩
theorem t_spec_l11Point (ks : List Kind) (ps : List Point) (n : Str) : aRun R_spec_l11Point 600 false (body0 R_spec_l11Point.fn) (initSt R_spec_l11Point.fn [.agg [.sl .kind ks, .sl .point ps], .str n] []) =
  some (.go (todoAt R_spec_l11Point.fn 2) [.str n, .ptr 0 0, .int .i64 (0 : Int)] [.box [.sl .kind ks, .sl .point ps]]) := by kernel_rfl
theorem t_spec_l11Point_2 (x0 : Str) (x1 : Int) (x2 : List (El .kind)) (x3 : List (El .point)) : aRun R_spec_l11Point 600 true (todoAt R_spec_l11Point.fn 2) (cutSt R_spec_l11Point.fn (liveOf R_spec_l11Point (todoAt R_spec_l11Point.fn 2)) [.str x0, .ptr 0 0, .int .i64 x1] [.box [.sl .kind x2, .sl .point x3]]) =
  ifb (decide (x1 < (↑x3.length : Int))) (ifb (inb x1 x3.length) (ifb ((x3.getD x1.toNat (R_spec_l11Point.C.dflt Ty.point)).name == x0) (some (.ret (.int .i64 x1) [])) (some (.go (todoAt R_spec_l11Point.fn 2) [.str x0, .ptr 0 0, .int .i64 (IntKind.i64.wrap (x1 + (1 : Int)))] [.box [.sl .kind x2, .sl .point x3]]))) (none)) (some (.ret (.int .i64 (-1 : Int)) [])) := by kernel_rfl
theorem l_spec_l11Point (ks : List Kind) (ps : List Point) (n : Str) (hl : ps.length < 1000000000) : ∀ (d i : Nat), i + d = ps.length → (∀ k, k < i → ∀ x, ps[k]? = some x → (x.name == n) = false) → Cut R_spec_l11Point g_spec_l11Point 2 [.str n, .ptr 0 0, .int .i64 (i : Int)] [.box [.sl .kind ks, .sl .point ps]] (.int .i64 (idxF (fun p => p.name == n) ps)) [] := by
  intro d
  induction d with
  | zero =>
    intro i hi hno
    refine Cut.of R_spec_l11Point_ok rfl (t_spec_l11Point_2 n i ks ps) ?_
    refine Sat.ifb (fun h => ?_) (fun h => ?_)
    · simp at h; omega
    · exact Sat.retI (idxF_none (fun k x hk => hno k (by have := (List.getElem?_eq_some_iff.1 hk).1; omega) x hk)).symm rfl
  | succ d ih =>
    intro i hi hno
    refine Cut.of R_spec_l11Point_ok rfl (t_spec_l11Point_2 n i ks ps) ?_
    have hlt : i < ps.length := by omega
    have hw : IntKind.wrap .i64 ((i : Int) + 1) = ((i + 1 : Nat) : Int) := by rw [wrap_ok] <;> omega
    rw [hw]
    have hd : ps.getD (i : Int).toNat (R_spec_l11Point.C.dflt .point) = ps[i] := by simp [hlt]
    rw [hd]
    refine Sat.ifb (fun h => ?_) (fun h => ?_)
    · refine Sat.ifb (fun h2 => ?_) (fun h2 => ?_)
      · refine Sat.ifb (fun h3 => ?_) (fun h3 => ?_)
        · exact Sat.retI (idxF_at (List.getElem?_eq_getElem hlt) h3 hno).symm rfl
        · refine Sat.cut (ih (i + 1) (by omega) fun k hk x hx => ?_)
          by_cases hki : k = i
          · subst hki
            rw [List.getElem?_eq_getElem hlt] at hx
            obtain rfl := Option.some.inj hx
            exact h3
          · exact hno k (by omega) x hx
      · simp [inb] at h2; omega
    · simp at h; omega
theorem c_spec_l11Point (ks : List Kind) (ps : List Point) (n : Str) (hg : decide (ps.length < 1000000000) = true) : CallOK Tryz.prog CP g_spec_l11Point [.agg [.sl .kind ks, .sl .point ps], .str n] [] (.int .i64 (idxF (fun p => p.name == n) ps)) [] := by
  refine CallOK.of R_spec_l11Point_ok (by kernel_rfl) (t_spec_l11Point ks ps n) ?_
  exact Sat.cut (l_spec_l11Point ks ps n (of_decide_eq_true hg) ps.length 0 (by omega) (fun k hk => by omega))
theorem E_spec_l11Point_ok : EntOK Tryz.prog CP g_spec_l11Point E_spec_l11Point := by
  refine ⟨⟨Tryz.f115, by kernel_rfl, by kernel_rfl, by kernel_rfl⟩, fun args H res H' h => ?_⟩
  simp only [E_spec_l11Point, E_impl_PlanBase_point] at h
  split at h
  · simp only [Option.some.injEq, Prod.mk.injEq] at h
    obtain ⟨hg, rfl, rfl⟩ := h
    exact c_spec_l11Point _ _ _ hg
  · cases h

/-- spec.l11Kind -/
noncomputable def R_spec_l11Kind : RE Ty El := ⟨Tryz.prog, CP, [], Tryz.f173, 0, [], [(2, [(1, .any), (2, .any), (5, .any)])]⟩
theorem R_spec_l11Kind_ok : REOK R_spec_l11Kind g_spec_l11Kind := ⟨CP_ok, EOKnil, by kernel_rfl, by kernel_rfl⟩
theorem t_spec_l11Kind (ks : List Kind) (ps : List Point) (n : Str) : aRun R_spec_l11Kind 600 false (body0 R_spec_l11Kind.fn) (initSt R_spec_l11Kind.fn [.agg [.sl .kind ks, .sl .point ps], .str n] []) =
  some (.go (todoAt R_spec_l11Kind.fn 2) [.str n, .ptr 0 0, .int .i64 (0 : Int)] [.box [.sl .kind ks, .sl .point ps]]) := by kernel_rfl
theorem t_spec_l11Kind_2 (x0 : Str) (x1 : Int) (x2 : List (El .kind)) (x3 : List (El .point)) : aRun R_spec_l11Kind 600 true (todoAt R_spec_l11Kind.fn 2) (cutSt R_spec_l11Kind.fn (liveOf R_spec_l11Kind (todoAt R_spec_l11Kind.fn 2)) [.str x0, .ptr 0 0, .int .i64 x1] [.box [.sl .kind x2, .sl .point x3]]) =
  ifb (decide (x1 < (↑x2.length : Int))) (ifb (inb x1 x2.length) (ifb ((x2.getD x1.toNat (R_spec_l11Kind.C.dflt Ty.kind)).name == x0) (some (.ret (.int .i64 x1) [])) (some (.go (todoAt R_spec_l11Kind.fn 2) [.str x0, .ptr 0 0, .int .i64 (IntKind.i64.wrap (x1 + (1 : Int)))] [.box [.sl .kind x2, .sl .point x3]]))) (none)) (some (.ret (.int .i64 (-1 : Int)) [])) := by kernel_rfl
theorem l_spec_l11Kind (ks : List Kind) (ps : List Point) (n : Str) (hl : ks.length < 1000000000) : ∀ (d i : Nat), i + d = ks.length → (∀ k, k < i → ∀ x, ks[k]? = some x → (x.name == n) = false) → Cut R_spec_l11Kind g_spec_l11Kind 2 [.str n, .ptr 0 0, .int .i64 (i : Int)] [.box [.sl .kind ks, .sl .point ps]] (.int .i64 (idxF (fun p => p.name == n) ks)) [] := by
  intro d
  induction d with
  | zero =>
    intro i hi hno
    refine Cut.of R_spec_l11Kind_ok rfl (t_spec_l11Kind_2 n i ks ps) ?_
    refine Sat.ifb (fun h => ?_) (fun h => ?_)
    · simp at h; omega
    · exact Sat.retI (idxF_none (fun k x hk => hno k (by have := (List.getElem?_eq_some_iff.1 hk).1; omega) x hk)).symm rfl
  | succ d ih =>
    intro i hi hno
    refine Cut.of R_spec_l11Kind_ok rfl (t_spec_l11Kind_2 n i ks ps) ?_
    have hlt : i < ks.length := by omega
    have hw : IntKind.wrap .i64 ((i : Int) + 1) = ((i + 1 : Nat) : Int) := by rw [wrap_ok] <;> omega
    rw [hw]
    have hd : ks.getD (i : Int).toNat (R_spec_l11Kind.C.dflt .kind) = ks[i] := by simp [hlt]
    rw [hd]
    refine Sat.ifb (fun h => ?_) (fun h => ?_)
    · refine Sat.ifb (fun h2 => ?_) (fun h2 => ?_)
      · refine Sat.ifb (fun h3 => ?_) (fun h3 => ?_)
        · exact Sat.retI (idxF_at (List.getElem?_eq_getElem hlt) h3 hno).symm rfl
        · refine Sat.cut (ih (i + 1) (by omega) fun k hk x hx => ?_)
          by_cases hki : k = i
          · subst hki
            rw [List.getElem?_eq_getElem hlt] at hx
            obtain rfl := Option.some.inj hx
            exact h3
          · exact hno k (by omega) x hx
      · simp [inb] at h2; omega
    · simp at h; omega
theorem c_spec_l11Kind (ks : List Kind) (ps : List Point) (n : Str) (hg : decide (ks.length < 1000000000) = true) : CallOK Tryz.prog CP g_spec_l11Kind [.agg [.sl .kind ks, .sl .point ps], .str n] [] (.int .i64 (idxF (fun p => p.name == n) ks)) [] := by
  refine CallOK.of R_spec_l11Kind_ok (by kernel_rfl) (t_spec_l11Kind ks ps n) ?_
  exact Sat.cut (l_spec_l11Kind ks ps n (of_decide_eq_true hg) ks.length 0 (by omega) (fun k hk => by omega))
theorem E_spec_l11Kind_ok : EntOK Tryz.prog CP g_spec_l11Kind E_spec_l11Kind := by
  refine ⟨⟨Tryz.f173, by kernel_rfl, by kernel_rfl, by kernel_rfl⟩, fun args H res H' h => ?_⟩
  simp only [E_spec_l11Kind, E_impl_PlanBase_kind] at h
  split at h
  · simp only [Option.some.injEq, Prod.mk.injEq] at h
    obtain ⟨hg, rfl, rfl⟩ := h
    exact c_spec_l11Kind _ _ _ hg
  · cases h

/-- spec.l13At -/
noncomputable def R_spec_l13At : RE Ty El := ⟨Tryz.prog, CP, [], Tryz.f116, 0, [], [(2, [(1, .any), (2, .any), (5, .any)])]⟩
theorem R_spec_l13At_ok : REOK R_spec_l13At g_spec_l13At := ⟨CP_ok, EOKnil, by kernel_rfl, by kernel_rfl⟩
theorem t_spec_l13At (ks : List Kind) (ps : List Point) (es : List Entry) (n : Str) : aRun R_spec_l13At 600 false (body0 R_spec_l13At.fn) (initSt R_spec_l13At.fn [.agg [.sl .kind ks, .sl .point ps, .sl .entry es], .str n] []) =
  some (.go (todoAt R_spec_l13At.fn 2) [.str n, .ptr 0 0, .int .i64 (0 : Int)] [.box [.sl .kind ks, .sl .point ps, .sl .entry es]]) := by kernel_rfl
theorem t_spec_l13At_2 (x0 : Str) (x1 : Int) (x2 : List (El .kind)) (x3 : List (El .point)) (x4 : List (El .entry)) : aRun R_spec_l13At 600 true (todoAt R_spec_l13At.fn 2) (cutSt R_spec_l13At.fn (liveOf R_spec_l13At (todoAt R_spec_l13At.fn 2)) [.str x0, .ptr 0 0, .int .i64 x1] [.box [.sl .kind x2, .sl .point x3, .sl .entry x4]]) =
  ifb (decide (x1 < (↑x4.length : Int))) (ifb (inb x1 x4.length) (ifb ((x4.getD x1.toNat (R_spec_l13At.C.dflt Ty.entry)).name == x0) (some (.ret (.int .i64 x1) [])) (some (.go (todoAt R_spec_l13At.fn 2) [.str x0, .ptr 0 0, .int .i64 (IntKind.i64.wrap (x1 + (1 : Int)))] [.box [.sl .kind x2, .sl .point x3, .sl .entry x4]]))) (none)) (some (.ret (.int .i64 (-1 : Int)) [])) := by kernel_rfl
theorem l_spec_l13At (ks : List Kind) (ps : List Point) (es : List Entry) (n : Str) (hl : es.length < 1000000000) : ∀ (d i : Nat), i + d = es.length → (∀ k, k < i → ∀ x, es[k]? = some x → (x.name == n) = false) → Cut R_spec_l13At g_spec_l13At 2 [.str n, .ptr 0 0, .int .i64 (i : Int)] [.box [.sl .kind ks, .sl .point ps, .sl .entry es]] (.int .i64 (idxF (fun p => p.name == n) es)) [] := by
  intro d
  induction d with
  | zero =>
    intro i hi hno
    refine Cut.of R_spec_l13At_ok rfl (t_spec_l13At_2 n i ks ps es) ?_
    refine Sat.ifb (fun h => ?_) (fun h => ?_)
    · simp at h; omega
    · exact Sat.retI (idxF_none (fun k x hk => hno k (by have := (List.getElem?_eq_some_iff.1 hk).1; omega) x hk)).symm rfl
  | succ d ih =>
    intro i hi hno
    refine Cut.of R_spec_l13At_ok rfl (t_spec_l13At_2 n i ks ps es) ?_
    have hlt : i < es.length := by omega
    have hw : IntKind.wrap .i64 ((i : Int) + 1) = ((i + 1 : Nat) : Int) := by rw [wrap_ok] <;> omega
    rw [hw]
    have hd : es.getD (i : Int).toNat (R_spec_l13At.C.dflt .entry) = es[i] := by simp [hlt]
    rw [hd]
    refine Sat.ifb (fun h => ?_) (fun h => ?_)
    · refine Sat.ifb (fun h2 => ?_) (fun h2 => ?_)
      · refine Sat.ifb (fun h3 => ?_) (fun h3 => ?_)
        · exact Sat.retI (idxF_at (List.getElem?_eq_getElem hlt) h3 hno).symm rfl
        · refine Sat.cut (ih (i + 1) (by omega) fun k hk x hx => ?_)
          by_cases hki : k = i
          · subst hki
            rw [List.getElem?_eq_getElem hlt] at hx
            obtain rfl := Option.some.inj hx
            exact h3
          · exact hno k (by omega) x hx
      · simp [inb] at h2; omega
    · simp at h; omega
theorem c_spec_l13At (ks : List Kind) (ps : List Point) (es : List Entry) (n : Str) (hg : decide (es.length < 1000000000) = true) : CallOK Tryz.prog CP g_spec_l13At [.agg [.sl .kind ks, .sl .point ps, .sl .entry es], .str n] [] (.int .i64 (idxF (fun p => p.name == n) es)) [] := by
  refine CallOK.of R_spec_l13At_ok (by kernel_rfl) (t_spec_l13At ks ps es n) ?_
  exact Sat.cut (l_spec_l13At ks ps es n (of_decide_eq_true hg) es.length 0 (by omega) (fun k hk => by omega))
theorem E_spec_l13At_ok : EntOK Tryz.prog CP g_spec_l13At E_spec_l13At := by
  refine ⟨⟨Tryz.f116, by kernel_rfl, by kernel_rfl, by kernel_rfl⟩, fun args H res H' h => ?_⟩
  simp only [E_spec_l13At, E_impl_PlanBook_entry] at h
  split at h
  · simp only [Option.some.injEq, Prod.mk.injEq] at h
    obtain ⟨hg, rfl, rfl⟩ := h
    exact c_spec_l13At _ _ _ _ hg
  · cases h

/-- impl.kindOk -/
noncomputable def R_impl_kindOk : RE Ty El := ⟨Tryz.prog, CP, [(g_impl_isName, E_impl_isName)], Tryz.f170, 0, [], []⟩
theorem R_impl_kindOk_ok : REOK R_impl_kindOk g_impl_kindOk := ⟨CP_ok, (TabOK.cons E_impl_isName_ok EOKnil), by kernel_rfl, by kernel_rfl⟩
theorem t_impl_kindOk (s : Str) (x y : Int) : aRun R_impl_kindOk 600 false (body0 R_impl_kindOk.fn) (initSt R_impl_kindOk.fn [.agg [.str s, .int .i64 x, .int .i64 y]] []) =
  ifb (nameOk s) (ifb (decide ((1 : Int) ≤ x)) (ifb (decide (x ≤ y)) (some (.ret (.bool (decide (y ≤ (50 : Int)))) [])) (some (.ret (.bool false) []))) (some (.ret (.bool false) []))) (some (.ret (.bool false) [])) := by kernel_rfl
theorem c_impl_kindOk (s : Str) (x y : Int) : CallOK Tryz.prog CP g_impl_kindOk [.agg [.str s, .int .i64 x, .int .i64 y]] [] (.bool (Kind.ok ⟨s, x, y⟩)) [] := by
  refine CallOK.of R_impl_kindOk_ok (by kernel_rfl) (t_impl_kindOk s x y) ?_
  repeat' (first | (refine Sat.ifb (fun h => ?_) (fun h => ?_)) | (refine Sat.retB ?_ rfl; simp_all [Kind.ok]; done) | (refine Sat.retI ?_ rfl; simp_all [Kind.ok]; done))
  all_goals (first | (refine Sat.no ?_; simp_all; done) | (refine Sat.no ?_; simp_all; omega) | (refine Sat.retB ?_ rfl; simp_all [Kind.ok]; omega) | (refine Sat.retI ?_ rfl; simp_all [Kind.ok]; omega))
theorem E_impl_kindOk_ok : EntOK Tryz.prog CP g_impl_kindOk E_impl_kindOk := by
  refine ⟨⟨Tryz.f170, by kernel_rfl, by kernel_rfl, by kernel_rfl⟩, fun args H res H' h => ?_⟩
  simp only [E_impl_kindOk] at h
  split at h
  · simp only [Option.some.injEq, Prod.mk.injEq] at h
    obtain ⟨hg, rfl, rfl⟩ := h
    exact c_impl_kindOk _ _ _
  · cases h

/-- impl.pointOk -/
noncomputable def R_impl_pointOk : RE Ty El := ⟨Tryz.prog, CP, [(g_impl_isName, E_impl_isName), (g_impl_within, E_impl_within)], Tryz.f171, 0, [], []⟩
theorem R_impl_pointOk_ok : REOK R_impl_pointOk g_impl_pointOk := ⟨CP_ok, (TabOK.cons E_impl_isName_ok (TabOK.cons E_impl_within_ok EOKnil)), by kernel_rfl, by kernel_rfl⟩
theorem t_impl_pointOk (s : Str) (x y : Int) : aRun R_impl_pointOk 600 false (body0 R_impl_pointOk.fn) (initSt R_impl_pointOk.fn [.agg [.str s, .int .i64 x, .int .i64 y]] []) =
  ifb (nameOk s) (ifb (inR x (0 : Int) (15 : Int)) (some (.ret (.bool (inR y (0 : Int) (15 : Int))) [])) (some (.ret (.bool false) []))) (some (.ret (.bool false) [])) := by kernel_rfl
theorem c_impl_pointOk (s : Str) (x y : Int) : CallOK Tryz.prog CP g_impl_pointOk [.agg [.str s, .int .i64 x, .int .i64 y]] [] (.bool (Point.ok ⟨s, x, y⟩)) [] := by
  refine CallOK.of R_impl_pointOk_ok (by kernel_rfl) (t_impl_pointOk s x y) ?_
  repeat' (first | (refine Sat.ifb (fun h => ?_) (fun h => ?_)) | (refine Sat.retB ?_ rfl; simp_all [Point.ok]; done) | (refine Sat.retI ?_ rfl; simp_all [Point.ok]; done))
  all_goals (first | (refine Sat.no ?_; simp_all; done) | (refine Sat.no ?_; simp_all; omega) | (refine Sat.retB ?_ rfl; simp_all [Point.ok]; omega) | (refine Sat.retI ?_ rfl; simp_all [Point.ok]; omega))
theorem E_impl_pointOk_ok : EntOK Tryz.prog CP g_impl_pointOk E_impl_pointOk := by
  refine ⟨⟨Tryz.f171, by kernel_rfl, by kernel_rfl, by kernel_rfl⟩, fun args H res H' h => ?_⟩
  simp only [E_impl_pointOk] at h
  split at h
  · simp only [Option.some.injEq, Prod.mk.injEq] at h
    obtain ⟨hg, rfl, rfl⟩ := h
    exact c_impl_pointOk _ _ _
  · cases h

/-- spec.l11KindOk -/
noncomputable def R_spec_l11KindOk : RE Ty El := ⟨Tryz.prog, CP, [(g_spec_l11NameOk, E_spec_l11NameOk), (g_spec_l11In, E_spec_l11In)], Tryz.f195, 0, [], []⟩
theorem R_spec_l11KindOk_ok : REOK R_spec_l11KindOk g_spec_l11KindOk := ⟨CP_ok, (TabOK.cons E_spec_l11NameOk_ok (TabOK.cons E_spec_l11In_ok EOKnil)), by kernel_rfl, by kernel_rfl⟩
theorem t_spec_l11KindOk (s : Str) (x y : Int) : aRun R_spec_l11KindOk 600 false (body0 R_spec_l11KindOk.fn) (initSt R_spec_l11KindOk.fn [.agg [.str s, .int .i64 x, .int .i64 y]] []) =
  ifb (nameOk s) (ifb (inR x (1 : Int) y) (some (.ret (.bool (decide (y ≤ (50 : Int)))) [])) (some (.ret (.bool false) []))) (some (.ret (.bool false) [])) := by kernel_rfl
theorem c_spec_l11KindOk (s : Str) (x y : Int) : CallOK Tryz.prog CP g_spec_l11KindOk [.agg [.str s, .int .i64 x, .int .i64 y]] [] (.bool (Kind.ok ⟨s, x, y⟩)) [] := by
  refine CallOK.of R_spec_l11KindOk_ok (by kernel_rfl) (t_spec_l11KindOk s x y) ?_
  repeat' (first | (refine Sat.ifb (fun h => ?_) (fun h => ?_)) | (refine Sat.retB ?_ rfl; simp_all [Kind.ok, inR]; done) | (refine Sat.retI ?_ rfl; simp_all [Kind.ok, inR]; done))
  all_goals (first | (refine Sat.no ?_; simp_all; done) | (refine Sat.no ?_; simp_all; omega) | (refine Sat.retB ?_ rfl; simp_all [Kind.ok, inR]; omega) | (refine Sat.retI ?_ rfl; simp_all [Kind.ok, inR]; omega))
theorem E_spec_l11KindOk_ok : EntOK Tryz.prog CP g_spec_l11KindOk E_spec_l11KindOk := by
  refine ⟨⟨Tryz.f195, by kernel_rfl, by kernel_rfl, by kernel_rfl⟩, fun args H res H' h => ?_⟩
  simp only [E_spec_l11KindOk, E_impl_kindOk] at h
  split at h
  · simp only [Option.some.injEq, Prod.mk.injEq] at h
    obtain ⟨hg, rfl, rfl⟩ := h
    exact c_spec_l11KindOk _ _ _
  · cases h

/-- spec.l11PointOk -/
noncomputable def R_spec_l11PointOk : RE Ty El := ⟨Tryz.prog, CP, [(g_spec_l11NameOk, E_spec_l11NameOk), (g_spec_l11In, E_spec_l11In)], Tryz.f196, 0, [], []⟩
theorem R_spec_l11PointOk_ok : REOK R_spec_l11PointOk g_spec_l11PointOk := ⟨CP_ok, (TabOK.cons E_spec_l11NameOk_ok (TabOK.cons E_spec_l11In_ok EOKnil)), by kernel_rfl, by kernel_rfl⟩
theorem t_spec_l11PointOk (s : Str) (x y : Int) : aRun R_spec_l11PointOk 600 false (body0 R_spec_l11PointOk.fn) (initSt R_spec_l11PointOk.fn [.agg [.str s, .int .i64 x, .int .i64 y]] []) =
  ifb (nameOk s) (ifb (inR x (0 : Int) (15 : Int)) (some (.ret (.bool (inR y (0 : Int) (15 : Int))) [])) (some (.ret (.bool false) []))) (some (.ret (.bool false) [])) := by kernel_rfl
theorem c_spec_l11PointOk (s : Str) (x y : Int) : CallOK Tryz.prog CP g_spec_l11PointOk [.agg [.str s, .int .i64 x, .int .i64 y]] [] (.bool (Point.ok ⟨s, x, y⟩)) [] := by
  refine CallOK.of R_spec_l11PointOk_ok (by kernel_rfl) (t_spec_l11PointOk s x y) ?_
  repeat' (first | (refine Sat.ifb (fun h => ?_) (fun h => ?_)) | (refine Sat.retB ?_ rfl; simp_all [Point.ok]; done) | (refine Sat.retI ?_ rfl; simp_all [Point.ok]; done))
  all_goals (first | (refine Sat.no ?_; simp_all; done) | (refine Sat.no ?_; simp_all; omega) | (refine Sat.retB ?_ rfl; simp_all [Point.ok]; omega) | (refine Sat.retI ?_ rfl; simp_all [Point.ok]; omega))
theorem E_spec_l11PointOk_ok : EntOK Tryz.prog CP g_spec_l11PointOk E_spec_l11PointOk := by
  refine ⟨⟨Tryz.f196, by kernel_rfl, by kernel_rfl, by kernel_rfl⟩, fun args H res H' h => ?_⟩
  simp only [E_spec_l11PointOk, E_impl_pointOk] at h
  split at h
  · simp only [Option.some.injEq, Prod.mk.injEq] at h
    obtain ⟨hg, rfl, rfl⟩ := h
    exact c_spec_l11PointOk _ _ _
  · cases h
end Lx
/- Meanings, second batch: numbers and levels. -/
set_option linter.unusedVariables false
namespace Lx
open Go Go.Proofs
def smallI (x : Int) : Bool := decide (-1000000000 ≤ x) && decide (x ≤ 1000000000)
def levelAt (n l : Int) (k : Nat) : Int := min l (min (k : Int) (n - 1 - (k : Int)))
def levelsF (n l : Int) : List Int := if inR n 1 40 = true ∧ inR l 1 6 = true then (List.range n.toNat).map (levelAt n l) else []
def E_spec_l17Min : Ent Ty El := ⟨[.ro, .ro], 0, fun a h => match a, h with
  | [.int .i64 x, .int .i64 y], [] => some (true, .int .i64 (min x y), [])
  | _, _ => none⟩
def E_spec_l17Max : Ent Ty El := ⟨[.ro, .ro], 0, fun a h => match a, h with
  | [.int .i64 x, .int .i64 y], [] => some (true, .int .i64 (max x y), [])
  | _, _ => none⟩
def E_spec_l17Abs : Ent Ty El := ⟨[.ro], 0, fun a h => match a, h with
  | [.int .i64 x], [] => some (smallI x, .int .i64 (x.natAbs : Int), [])
  | _, _ => none⟩
def E_impl_dist : Ent Ty El := ⟨[.ro, .ro], 0, fun a h => match a, h with
  | [.int .i64 x, .int .i64 y], [] => some (smallI x && smallI y, .int .i64 ((x - y).natAbs : Int), [])
  | _, _ => none⟩
def E_impl_floorDiv : Ent Ty El := ⟨[.ro, .ro], 0, fun a h => match a, h with
  | [.int .i64 x, .int .i64 y], [] => some (smallI x && (smallI y && decide (0 < y)), .int .i64 (x / y), [])
  | _, _ => none⟩
def E_impl_PlanLevels : Ent Ty El := ⟨[.ro, .ro], 0, fun a h => match a, h with
  | [.int .i64 n, .int .i64 l], [] => some (true, .sl .int (levelsF n l), [])
  | _, _ => none⟩
def E_spec_PlanLevels : Ent Ty El := E_impl_PlanLevels
end Lx
/- Functions, each with its contract. -/
set_option linter.unusedVariables false
set_option linter.unusedSimpArgs false
set_option maxRecDepth 4000
namespace Lx
open Go Go.Proofs
/-- spec.l17Min -/
noncomputable def R_spec_l17Min : RE Ty El := ⟨Tryz.prog, CP, [], Tryz.f87, 0, [], []⟩
theorem R_spec_l17Min_ok : REOK R_spec_l17Min g_spec_l17Min := ⟨CP_ok, EOKnil, by kernel_rfl, by kernel_rfl⟩
theorem t_spec_l17Min (x y : Int) : aRun R_spec_l17Min 600 false (body0 R_spec_l17Min.fn) (initSt R_spec_l17Min.fn [.int .i64 x, .int .i64 y] []) =
  ifb (decide (x < y)) (some (.ret (.int .i64 x) [])) (some (.ret (.int .i64 y) [])) := by kernel_rfl
theorem c_spec_l17Min (x y : Int) : CallOK Tryz.prog CP g_spec_l17Min [.int .i64 x, .int .i64 y] [] (.int .i64 (min x y)) [] := by
  refine CallOK.of R_spec_l17Min_ok (by kernel_rfl) (t_spec_l17Min x y) ?_
  repeat' (first | (refine Sat.ifb (fun h => ?_) (fun h => ?_)) | (refine Sat.retB ?_ rfl; simp_all []; done) | (refine Sat.retI ?_ rfl; simp_all []; done))
  all_goals (first | (refine Sat.no ?_; simp_all; done) | (refine Sat.no ?_; simp_all; omega) | (refine Sat.retB ?_ rfl; simp_all []; omega) | (refine Sat.retI ?_ rfl; simp_all []; omega))
theorem E_spec_l17Min_ok : EntOK Tryz.prog CP g_spec_l17Min E_spec_l17Min := by
  refine ⟨⟨Tryz.f87, by kernel_rfl, by kernel_rfl, by kernel_rfl⟩, fun args H res H' h => ?_⟩
  simp only [E_spec_l17Min] at h
  split at h
  · simp only [Option.some.injEq, Prod.mk.injEq] at h
    obtain ⟨hg, rfl, rfl⟩ := h
    exact c_spec_l17Min _ _
  · cases h

/-- spec.l17Max -/
noncomputable def R_spec_l17Max : RE Ty El := ⟨Tryz.prog, CP, [], Tryz.f88, 0, [], []⟩
theorem R_spec_l17Max_ok : REOK R_spec_l17Max g_spec_l17Max := ⟨CP_ok, EOKnil, by kernel_rfl, by kernel_rfl⟩
theorem t_spec_l17Max (x y : Int) : aRun R_spec_l17Max 600 false (body0 R_spec_l17Max.fn) (initSt R_spec_l17Max.fn [.int .i64 x, .int .i64 y] []) =
  ifb (decide (x > y)) (some (.ret (.int .i64 x) [])) (some (.ret (.int .i64 y) [])) := by kernel_rfl
theorem c_spec_l17Max (x y : Int) : CallOK Tryz.prog CP g_spec_l17Max [.int .i64 x, .int .i64 y] [] (.int .i64 (max x y)) [] := by
  refine CallOK.of R_spec_l17Max_ok (by kernel_rfl) (t_spec_l17Max x y) ?_
  repeat' (first | (refine Sat.ifb (fun h => ?_) (fun h => ?_)) | (refine Sat.retB ?_ rfl; simp_all []; done) | (refine Sat.retI ?_ rfl; simp_all []; done))
  all_goals (first | (refine Sat.no ?_; simp_all; done) | (refine Sat.no ?_; simp_all; omega) | (refine Sat.retB ?_ rfl; simp_all []; omega) | (refine Sat.retI ?_ rfl; simp_all []; omega))
theorem E_spec_l17Max_ok : EntOK Tryz.prog CP g_spec_l17Max E_spec_l17Max := by
  refine ⟨⟨Tryz.f88, by kernel_rfl, by kernel_rfl, by kernel_rfl⟩, fun args H res H' h => ?_⟩
  simp only [E_spec_l17Max] at h
  split at h
  · simp only [Option.some.injEq, Prod.mk.injEq] at h
    obtain ⟨hg, rfl, rfl⟩ := h
    exact c_spec_l17Max _ _
  · cases h

/-- spec.l17Abs -/
noncomputable def R_spec_l17Abs : RE Ty El := ⟨Tryz.prog, CP, [], Tryz.f197, 0, [], []⟩
theorem R_spec_l17Abs_ok : REOK R_spec_l17Abs g_spec_l17Abs := ⟨CP_ok, EOKnil, by kernel_rfl, by kernel_rfl⟩
theorem t_spec_l17Abs (x : Int) : aRun R_spec_l17Abs 600 false (body0 R_spec_l17Abs.fn) (initSt R_spec_l17Abs.fn [.int .i64 x] []) =
  ifb (decide (x < (0 : Int))) (some (.ret (.int .i64 (IntKind.i64.wrap ((0 : Int) - x))) [])) (some (.ret (.int .i64 x) [])) := by kernel_rfl
theorem c_spec_l17Abs (x : Int) (hg : smallI x = true) : CallOK Tryz.prog CP g_spec_l17Abs [.int .i64 x] [] (.int .i64 (x.natAbs : Int)) [] := by
  refine CallOK.of R_spec_l17Abs_ok (by kernel_rfl) (t_spec_l17Abs x) ?_
  simp only [smallI, Bool.and_eq_true, decide_eq_true_eq] at hg
  refine Sat.ifb (fun h => ?_) (fun h => ?_)
  · refine Sat.retI ?_ rfl
    simp at h
    rw [wrap_ok] <;> omega
  · refine Sat.retI ?_ rfl
    simp at h; omega
theorem E_spec_l17Abs_ok : EntOK Tryz.prog CP g_spec_l17Abs E_spec_l17Abs := by
  refine ⟨⟨Tryz.f197, by kernel_rfl, by kernel_rfl, by kernel_rfl⟩, fun args H res H' h => ?_⟩
  simp only [E_spec_l17Abs] at h
  split at h
  · simp only [Option.some.injEq, Prod.mk.injEq] at h
    obtain ⟨hg, rfl, rfl⟩ := h
    exact c_spec_l17Abs _ hg
  · cases h

/-- impl.dist -/
noncomputable def R_impl_dist : RE Ty El := ⟨Tryz.prog, CP, [], Tryz.f192, 0, [], []⟩
theorem R_impl_dist_ok : REOK R_impl_dist g_impl_dist := ⟨CP_ok, EOKnil, by kernel_rfl, by kernel_rfl⟩
theorem t_impl_dist (x y : Int) : aRun R_impl_dist 600 false (body0 R_impl_dist.fn) (initSt R_impl_dist.fn [.int .i64 x, .int .i64 y] []) =
  ifb (decide (x > y)) (some (.ret (.int .i64 (IntKind.i64.wrap (x - y))) [])) (some (.ret (.int .i64 (IntKind.i64.wrap (y - x))) [])) := by kernel_rfl
theorem c_impl_dist (x y : Int) (hg : (smallI x && smallI y) = true) : CallOK Tryz.prog CP g_impl_dist [.int .i64 x, .int .i64 y] [] (.int .i64 ((x - y).natAbs : Int)) [] := by
  refine CallOK.of R_impl_dist_ok (by kernel_rfl) (t_impl_dist x y) ?_
  simp only [smallI, Bool.and_eq_true, decide_eq_true_eq] at hg
  refine Sat.ifb (fun h => ?_) (fun h => ?_)
  · refine Sat.retI ?_ rfl
    simp at h
    rw [wrap_ok] <;> omega
  · refine Sat.retI ?_ rfl
    simp at h
    rw [wrap_ok] <;> omega
theorem E_impl_dist_ok : EntOK Tryz.prog CP g_impl_dist E_impl_dist := by
  refine ⟨⟨Tryz.f192, by kernel_rfl, by kernel_rfl, by kernel_rfl⟩, fun args H res H' h => ?_⟩
  simp only [E_impl_dist] at h
  split at h
  · simp only [Option.some.injEq, Prod.mk.injEq] at h
    obtain ⟨hg, rfl, rfl⟩ := h
    exact c_impl_dist _ _ hg
  · cases h

/-- impl.floorDiv -/
noncomputable def R_impl_floorDiv : RE Ty El := ⟨Tryz.prog, CP, [], Tryz.f193, 0, [], []⟩
theorem R_impl_floorDiv_ok : REOK R_impl_floorDiv g_impl_floorDiv := ⟨CP_ok, EOKnil, by kernel_rfl, by kernel_rfl⟩
theorem t_impl_floorDiv (x y : Int) : aRun R_impl_floorDiv 600 false (body0 R_impl_floorDiv.fn) (initSt R_impl_floorDiv.fn [.int .i64 x, .int .i64 y] []) =
  ifb (!y == (0 : Int)) (ifb (!y == (0 : Int)) (ifb (x.tmod y != (0 : Int)) (ifb (!decide (x < (0 : Int)) == decide (y < (0 : Int))) (some (.ret (.int .i64 (IntKind.i64.wrap (IntKind.i64.wrap (x.tdiv y) - (1 : Int)))) [])) (some (.ret (.int .i64 (IntKind.i64.wrap (x.tdiv y))) []))) (some (.ret (.int .i64 (IntKind.i64.wrap (x.tdiv y))) []))) (none)) (none) := by kernel_rfl
theorem c_impl_floorDiv (x y : Int) (hg : (smallI x && (smallI y && decide (0 < y))) = true) : CallOK Tryz.prog CP g_impl_floorDiv [.int .i64 x, .int .i64 y] [] (.int .i64 (x / y)) [] := by
  refine CallOK.of R_impl_floorDiv_ok (by kernel_rfl) (t_impl_floorDiv x y) ?_
  simp only [smallI, Bool.and_eq_true, decide_eq_true_eq] at hg
  obtain ⟨hx, hy, hy0⟩ := hg
  have h2 := Int.mul_ediv_add_emod x y
  have h3 := Int.emod_nonneg x (by omega : y ≠ 0)
  have h4 := Int.emod_lt_of_pos x hy0
  have h5 : (x.tdiv y).natAbs ≤ x.natAbs := Int.natAbs_tdiv_le_natAbs x y
  have h6 := Int.tdiv_eq_ediv (a := x) (b := y)
  have h7 := Int.tmod_eq_emod (a := x) (b := y)
  have h8 := Int.emod_eq_zero_of_dvd (a := y) (b := x)
  have h9 := Int.dvd_of_emod_eq_zero (a := y) (b := x)
  have hs : y.sign = 1 := Int.sign_eq_one_of_pos hy0
  have hw : IntKind.wrap .i64 (x.tdiv y) = x.tdiv y := by rw [wrap_ok] <;> omega
  have hw1 : IntKind.wrap .i64 (x.tdiv y - 1) = x.tdiv y - 1 := by rw [wrap_ok] <;> omega
  rw [hw, hw1]
  by_cases hx0 : 0 ≤ x
  · simp only [hx0, true_or, if_true] at h6 h7
    have hn1 : ¬ x < 0 := by omega
    have hn2 : ¬ y < 0 := by omega
    repeat' (first | (refine Sat.ifb (fun h => ?_) (fun h => ?_)))
    all_goals (first | (refine Sat.no ?_; simp at h; omega) | (exact Sat.retI (by omega) rfl) | (refine Sat.no ?_; simp_all))
  · have hn1 : x < 0 := by omega
    have hn2 : ¬ y < 0 := by omega
    by_cases hd : y ∣ x
    · have h8 := h8 hd
      simp only [hd, or_true, if_true] at h6 h7
      repeat' (first | (refine Sat.ifb (fun h => ?_) (fun h => ?_)))
      all_goals (first | (refine Sat.no ?_; simp at h; omega) | (exact Sat.retI (by omega) rfl) | (refine Sat.no ?_; simp_all))
    · have h9 : x % y ≠ 0 := fun e => hd (h9 e)
      simp only [hd, hx0, or_self, if_false, hs] at h6 h7
      repeat' (first | (refine Sat.ifb (fun h => ?_) (fun h => ?_)))
      all_goals (first | (refine Sat.no ?_; simp at h; omega) | (exact Sat.retI (by omega) rfl) | (refine Sat.no ?_; simp_all; omega))
theorem E_impl_floorDiv_ok : EntOK Tryz.prog CP g_impl_floorDiv E_impl_floorDiv := by
  refine ⟨⟨Tryz.f193, by kernel_rfl, by kernel_rfl, by kernel_rfl⟩, fun args H res H' h => ?_⟩
  simp only [E_impl_floorDiv] at h
  split at h
  · simp only [Option.some.injEq, Prod.mk.injEq] at h
    obtain ⟨hg, rfl, rfl⟩ := h
    exact c_impl_floorDiv _ _ hg
  · cases h

/-- impl.PlanLevels -/
noncomputable def R_impl_PlanLevels : RE Ty El := ⟨Tryz.prog, CP, [(g_impl_within, E_impl_within)], Tryz.f85, 0, [.ro .int], [(5, [(0, .any), (1, .any), (5, .any), (6, .any)])]⟩
theorem R_impl_PlanLevels_ok : REOK R_impl_PlanLevels g_impl_PlanLevels := ⟨CP_ok, (TabOK.cons E_impl_within_ok EOKnil), by kernel_rfl, by kernel_rfl⟩
theorem t_impl_PlanLevels (n l : Int) : aRun R_impl_PlanLevels 600 false (body0 R_impl_PlanLevels.fn) (initSt R_impl_PlanLevels.fn [.int .i64 n, .int .i64 l] []) =
  ifb (!inR n (1 : Int) (40 : Int)) (some (.ret (.sl .int []) [])) (ifb (!inR l (1 : Int) (6 : Int)) (some (.ret (.sl .int []) [])) (some (.go (todoAt R_impl_PlanLevels.fn 5) [.int .i64 n, .int .i64 l, .own 0 [] 0, .int .i64 (0 : Int)] [.row .int [] 0 0 0 .no]))) := by kernel_rfl
theorem t_impl_PlanLevels_5 (x0 : Int) (x1 : Int) (x2 : Int) (x3 : List (El .int)) : aRun R_impl_PlanLevels 600 true (todoAt R_impl_PlanLevels.fn 5) (cutSt R_impl_PlanLevels.fn (liveOf R_impl_PlanLevels (todoAt R_impl_PlanLevels.fn 5)) [.int .i64 x0, .int .i64 x1, .own 0 [] 0, .int .i64 x2] [.row .int x3 0 0 0 .no]) =
  ifb (decide (x2 < x0)) (ifb (decide ((x3.length + [min2A (min2A x1 x2) (IntKind.i64.wrap (IntKind.i64.wrap (x0 - (1 : Int)) - x2))].length) * bytesOf' R_impl_PlanLevels.P (3 : Nat) ≤ (140737488355328 : Nat))) (some (.go (todoAt R_impl_PlanLevels.fn 5) [.int .i64 x0, .int .i64 x1, .own 0 [] 0, .int .i64 (IntKind.i64.wrap (x2 + (1 : Int)))] [.row .int (x3 ++ [min2A (min2A x1 x2) (IntKind.i64.wrap (IntKind.i64.wrap (x0 - (1 : Int)) - x2))]) 0 0 0 .no])) (none)) (some (.ret (.sl .int x3) [])) := by kernel_rfl
theorem l_impl_PlanLevels (n l : Int) (hn : inR n 1 40 = true) (hl : inR l 1 6 = true) : ∀ (d k : Nat), (k : Int) + d = n → Cut R_impl_PlanLevels g_impl_PlanLevels 5 [.int .i64 n, .int .i64 l, .own 0 [] 0, .int .i64 (k : Int)] [.row .int ((List.range k).map (levelAt n l)) 0 0 0 .no] (.sl .int (levelsF n l)) [] := by
  have hn' := hn
  simp only [inR, Bool.and_eq_true, decide_eq_true_eq] at hn'
  have hb : bytesOf' R_impl_PlanLevels.P 3 = 8 := by kernel_rfl
  intro d
  induction d with
  | zero =>
    intro k hk
    refine Cut.of R_impl_PlanLevels_ok rfl (t_impl_PlanLevels_5 n l k _) ?_
    refine Sat.ifb (fun h => ?_) (fun h => ?_)
    · simp at h; omega
    · refine Sat.ret ?_ rfl
      have : n.toNat = k := by omega
      simp [levelsF, hn, hl, this]
  | succ d ih =>
    intro k hk
    refine Cut.of R_impl_PlanLevels_ok rfl (t_impl_PlanLevels_5 n l k _) ?_
    have hw : IntKind.wrap .i64 ((k : Int) + 1) = ((k + 1 : Nat) : Int) := by rw [wrap_ok] <;> omega
    have hw1 : IntKind.wrap .i64 (n - 1) = n - 1 := by rw [wrap_ok] <;> omega
    have hw2 : IntKind.wrap .i64 (n - 1 - (k : Int)) = n - 1 - (k : Int) := by rw [wrap_ok] <;> omega
    rw [hw, hw1, hw2]
    refine Sat.ifb (fun h => ?_) (fun h => ?_)
    · refine Sat.ifb (fun h => ?_) (fun h => ?_)
      · have hlev : min2A (min2A l (k : Int)) (n - 1 - (k : Int)) = levelAt n l k := by simp only [levelAt, min2A]; (repeat' split) <;> omega
        rw [hlev]
        have := ih (k + 1) (by omega)
        rw [List.range_succ, List.map_append] at this
        exact Sat.cut this
      · simp [hb] at h; omega
    · simp at h; omega
theorem c_impl_PlanLevels (n l : Int) : CallOK Tryz.prog CP g_impl_PlanLevels [.int .i64 n, .int .i64 l] [] (.sl .int (levelsF n l)) [] := by
  refine CallOK.of R_impl_PlanLevels_ok (by kernel_rfl) (t_impl_PlanLevels n l) ?_
  have hne : ∀ x y z, inR x y z = false → ¬ (inR x y z = true) := fun x y z h => by simp [h]
  repeat' (first | (refine Sat.ifb (fun h => ?_) (fun h => ?_)))
  all_goals (first | (refine Sat.ret ?_ rfl; simp_all [levelsF]; done) | (refine Sat.cut (l_impl_PlanLevels n l (by simp_all) (by simp_all) n.toNat 0 ?_); simp_all [inR]; try omega))
theorem E_impl_PlanLevels_ok : EntOK Tryz.prog CP g_impl_PlanLevels E_impl_PlanLevels := by
  refine ⟨⟨Tryz.f85, by kernel_rfl, by kernel_rfl, by kernel_rfl⟩, fun args H res H' h => ?_⟩
  simp only [E_impl_PlanLevels] at h
  split at h
  · simp only [Option.some.injEq, Prod.mk.injEq] at h
    obtain ⟨hg, rfl, rfl⟩ := h
    exact c_impl_PlanLevels _ _
  · cases h

/-- spec.PlanLevels -/
noncomputable def R_spec_PlanLevels : RE Ty El := ⟨Tryz.prog, CP, [(g_spec_l11In, E_spec_l11In), (g_spec_l17Min, E_spec_l17Min)], Tryz.f86, 0, [.ro .int], [(5, [(0, .any), (1, .any), (5, .any), (6, .any)])]⟩
theorem R_spec_PlanLevels_ok : REOK R_spec_PlanLevels g_spec_PlanLevels := ⟨CP_ok, (TabOK.cons E_spec_l11In_ok (TabOK.cons E_spec_l17Min_ok EOKnil)), by kernel_rfl, by kernel_rfl⟩
theorem t_spec_PlanLevels (n l : Int) : aRun R_spec_PlanLevels 600 false (body0 R_spec_PlanLevels.fn) (initSt R_spec_PlanLevels.fn [.int .i64 n, .int .i64 l] []) =
  ifb (!inR n (1 : Int) (40 : Int)) (some (.ret (.sl .int []) [])) (ifb (!inR l (1 : Int) (6 : Int)) (some (.ret (.sl .int []) [])) (some (.go (todoAt R_spec_PlanLevels.fn 5) [.int .i64 n, .int .i64 l, .own 0 [] 0, .int .i64 (0 : Int)] [.row .int [] 0 0 0 .no]))) := by kernel_rfl
theorem t_spec_PlanLevels_5 (x0 : Int) (x1 : Int) (x2 : Int) (x3 : List (El .int)) : aRun R_spec_PlanLevels 600 true (todoAt R_spec_PlanLevels.fn 5) (cutSt R_spec_PlanLevels.fn (liveOf R_spec_PlanLevels (todoAt R_spec_PlanLevels.fn 5)) [.int .i64 x0, .int .i64 x1, .own 0 [] 0, .int .i64 x2] [.row .int x3 0 0 0 .no]) =
  ifb (decide (x2 < x0)) (ifb (decide ((x3.length + [min x1 (min x2 (IntKind.i64.wrap (IntKind.i64.wrap (x0 - (1 : Int)) - x2)))].length) * bytesOf' R_spec_PlanLevels.P (3 : Nat) ≤ (140737488355328 : Nat))) (some (.go (todoAt R_spec_PlanLevels.fn 5) [.int .i64 x0, .int .i64 x1, .own 0 [] 0, .int .i64 (IntKind.i64.wrap (x2 + (1 : Int)))] [.row .int (x3 ++ [min x1 (min x2 (IntKind.i64.wrap (IntKind.i64.wrap (x0 - (1 : Int)) - x2)))]) 0 0 0 .no])) (none)) (some (.ret (.sl .int x3) [])) := by kernel_rfl
theorem l_spec_PlanLevels (n l : Int) (hn : inR n 1 40 = true) (hl : inR l 1 6 = true) : ∀ (d k : Nat), (k : Int) + d = n → Cut R_spec_PlanLevels g_spec_PlanLevels 5 [.int .i64 n, .int .i64 l, .own 0 [] 0, .int .i64 (k : Int)] [.row .int ((List.range k).map (levelAt n l)) 0 0 0 .no] (.sl .int (levelsF n l)) [] := by
  have hn' := hn
  simp only [inR, Bool.and_eq_true, decide_eq_true_eq] at hn'
  have hb : bytesOf' R_spec_PlanLevels.P 3 = 8 := by kernel_rfl
  intro d
  induction d with
  | zero =>
    intro k hk
    refine Cut.of R_spec_PlanLevels_ok rfl (t_spec_PlanLevels_5 n l k _) ?_
    refine Sat.ifb (fun h => ?_) (fun h => ?_)
    · simp at h; omega
    · refine Sat.ret ?_ rfl
      have : n.toNat = k := by omega
      simp [levelsF, hn, hl, this]
  | succ d ih =>
    intro k hk
    refine Cut.of R_spec_PlanLevels_ok rfl (t_spec_PlanLevels_5 n l k _) ?_
    have hw : IntKind.wrap .i64 ((k : Int) + 1) = ((k + 1 : Nat) : Int) := by rw [wrap_ok] <;> omega
    have hw1 : IntKind.wrap .i64 (n - 1) = n - 1 := by rw [wrap_ok] <;> omega
    have hw2 : IntKind.wrap .i64 (n - 1 - (k : Int)) = n - 1 - (k : Int) := by rw [wrap_ok] <;> omega
    rw [hw, hw1, hw2]
    refine Sat.ifb (fun h => ?_) (fun h => ?_)
    · refine Sat.ifb (fun h => ?_) (fun h => ?_)
      · have hlev : min l (min (k : Int) (n - 1 - (k : Int))) = levelAt n l k := by rfl
        rw [hlev]
        have := ih (k + 1) (by omega)
        rw [List.range_succ, List.map_append] at this
        exact Sat.cut this
      · simp [hb] at h; omega
    · simp at h; omega
theorem c_spec_PlanLevels (n l : Int) : CallOK Tryz.prog CP g_spec_PlanLevels [.int .i64 n, .int .i64 l] [] (.sl .int (levelsF n l)) [] := by
  refine CallOK.of R_spec_PlanLevels_ok (by kernel_rfl) (t_spec_PlanLevels n l) ?_
  repeat' (first | (refine Sat.ifb (fun h => ?_) (fun h => ?_)))
  all_goals (first | (refine Sat.ret ?_ rfl; simp_all [levelsF]; done) | (refine Sat.cut (l_spec_PlanLevels n l (by simp_all) (by simp_all) n.toNat 0 ?_); simp_all [inR]; try omega))
theorem E_spec_PlanLevels_ok : EntOK Tryz.prog CP g_spec_PlanLevels E_spec_PlanLevels := by
  refine ⟨⟨Tryz.f86, by kernel_rfl, by kernel_rfl, by kernel_rfl⟩, fun args H res H' h => ?_⟩
  simp only [E_spec_PlanLevels, E_impl_PlanLevels] at h
  split at h
  · simp only [Option.some.injEq, Prod.mk.injEq] at h
    obtain ⟨hg, rfl, rfl⟩ := h
    exact c_spec_PlanLevels _ _
  · cases h
end Lx
/- Meanings, third batch: strings cut and read. -/
set_option linter.unusedVariables false
namespace Lx
open Go Go.Proofs
def cutS (c : Int) : Str → List Str
  | [] => [[]]
  | b :: s => if ((b.toNat : Int) == c) = true then [] :: cutS c s else match cutS c s with
    | [] => [[b]]
    | w :: ws => (b :: w) :: ws
def preF (p : Str) : List Str → List Str
  | [] => [p]
  | w :: ws => (p ++ w) :: ws
theorem cutS_ne (c : Int) (s : Str) : cutS c s ≠ [] := by
  cases s with
  | nil => simp [cutS]
  | cons b s => simp only [cutS]; split; · simp
                split <;> simp
theorem preF_nil {c : Int} {s : Str} : preF [] (cutS c s) = cutS c s := by
  have := cutS_ne c s
  cases h : cutS c s with
  | nil => exact absurd h this
  | cons w ws => simp [preF]
theorem preF_hit {c : Int} {s p : Str} {b : UInt8} (h : ((b.toNat : Int) == c) = true) : preF p (cutS c (b :: s)) = p :: cutS c s := by
  simp only [cutS, h, if_true, preF, List.append_nil]
theorem preF_miss {c : Int} {s p : Str} {b : UInt8} (h : ((b.toNat : Int) == c) = false) : preF p (cutS c (b :: s)) = preF (p ++ [b]) (cutS c s) := by
  have := cutS_ne c s
  simp only [cutS, h, Bool.false_eq_true, if_false]
  cases h : cutS c s with
  | nil => exact absurd h this
  | cons w ws => simp [preF]
/-- The number that a text of digits says; -1: none. -/
def numGo : Int → Str → Int
  | n, [] => n
  | n, b :: s => if (b.toNat : Int) < 48 ∨ (b.toNat : Int) > 57 then -1 else numGo (n * 10 + ((b.toNat : Int) - 48)) s
def numF (s : Str) : Int := if 1 ≤ s.length ∧ s.length ≤ 7 ∧ ¬ (1 < s.length ∧ ((s.getD 0 0).toNat : Int) = 48) then numGo 0 s else -1
def valF (fs : List Fld) (w : Int) : Str := match fs.find? (fun f => f.what == w) with
  | some f => f.value
  | none => []
theorem valF_cons (f : Fld) (fs : List Fld) (w : Int) : valF (f :: fs) w = ifb (f.what == w) f.value (valF fs w) := by
  unfold valF
  rw [List.find?_cons]
  cases h : (f.what == w) <;> rfl
def E_spec_l12Cut : Ent Ty El := ⟨[.ro, .ro], 0, fun a h => match a, h with
  | [.str s, .int .u8 c], [] => some (decide (s.length ≤ 1000000000), .sl .str (cutS c s), [])
  | _, _ => none⟩
def E_spec_l12Number : Ent Ty El := ⟨[.ro], 0, fun a h => match a, h with
  | [.str s], [] => some (true, .int .i64 (numF s), [])
  | _, _ => none⟩
def E_spec_l16Value : Ent Ty El := ⟨[.ro, .ro], 0, fun a h => match a, h with
  | [.agg [.str n, .sl .fld fs], .int .i64 w], [] => some (decide (fs.length ≤ 1000000000), .str (valF fs w), [])
  | _, _ => none⟩
end Lx
/- Functions, each with its contract. -/
set_option linter.unusedVariables false
set_option linter.unusedSimpArgs false
set_option maxRecDepth 4000
namespace Lx
open Go Go.Proofs
/-- spec.l12Cut -/
noncomputable def R_spec_l12Cut : RE Ty El := ⟨Tryz.prog, CP, [], Tryz.f111, 0, [.ro .str], [(4, [(0, .any), (1, .any), (5, .any), (6, .any), (7, .any)])]⟩
theorem R_spec_l12Cut_ok : REOK R_spec_l12Cut g_spec_l12Cut := ⟨CP_ok, EOKnil, by kernel_rfl, by kernel_rfl⟩
theorem t_spec_l12Cut (s : Str) (c : Int) : aRun R_spec_l12Cut 600 false (body0 R_spec_l12Cut.fn) (initSt R_spec_l12Cut.fn [.str s, .int .u8 c] []) =
  some (.go (todoAt R_spec_l12Cut.fn 4) [.str s, .int .u8 c, .own 0 [] 0, .int .i64 (0 : Int), .int .i64 (0 : Int)] [.row .str [] 0 0 0 .no]) := by kernel_rfl
theorem t_spec_l12Cut_4 (x0 : Str) (x1 : Int) (x2 : Int) (x3 : Int) (x4 : List (El .str)) : aRun R_spec_l12Cut 600 true (todoAt R_spec_l12Cut.fn 4) (cutSt R_spec_l12Cut.fn (liveOf R_spec_l12Cut (todoAt R_spec_l12Cut.fn 4)) [.str x0, .int .u8 x1, .own 0 [] 0, .int .i64 x2, .int .i64 x3] [.row .str x4 0 0 0 .no]) =
  ifb (decide (x3 < (↑(List.length x0) : Int))) (ifb (inb x3 (List.length x0)) (ifb ((↑(List.getD x0 x3.toNat (0 : UInt8)).toNat : Int) == x1) (ifb (decide ((0 : Int) ≤ x2) && (decide (x2 ≤ x3) && decide (x3 ≤ (↑(List.length x0) : Int)))) (ifb (decide ((x4.length + [List.take (x3.toNat - x2.toNat) (List.drop x2.toNat x0)].length) * bytesOf' R_spec_l12Cut.P (9 : Nat) ≤ (140737488355328 : Nat))) (some (.go (todoAt R_spec_l12Cut.fn 4) [.str x0, .int .u8 x1, .own 0 [] 0, .int .i64 (IntKind.i64.wrap (x3 + (1 : Int))), .int .i64 (IntKind.i64.wrap (x3 + (1 : Int)))] [.row .str (x4 ++ [List.take (x3.toNat - x2.toNat) (List.drop x2.toNat x0)]) 0 0 0 .no])) (none)) (none)) (some (.go (todoAt R_spec_l12Cut.fn 4) [.str x0, .int .u8 x1, .own 0 [] 0, .int .i64 x2, .int .i64 (IntKind.i64.wrap (x3 + (1 : Int)))] [.row .str x4 0 0 0 .no]))) (none)) (ifb (decide ((0 : Int) ≤ x2) && (decide (x2 ≤ (↑(List.length x0) : Int)) && decide ((↑(List.length x0) : Int) ≤ (↑(List.length x0) : Int)))) (ifb (decide ((x4.length + [List.take ((↑(List.length x0) : Int).toNat - x2.toNat) (List.drop x2.toNat x0)].length) * bytesOf' R_spec_l12Cut.P (9 : Nat) ≤ (140737488355328 : Nat))) (some (.ret (.sl .str (x4 ++ [List.take ((↑(List.length x0) : Int).toNat - x2.toNat) (List.drop x2.toNat x0)])) [])) (none)) (none)) := by kernel_rfl
theorem l_spec_l12Cut (s : Str) (c : Int) (hs : s.length ≤ 1000000000) : ∀ (d i fr : Nat) (acc : List Str), i + d = s.length → fr ≤ i → acc.length ≤ i →
    Cut R_spec_l12Cut g_spec_l12Cut 4 [.str s, .int .u8 c, .own 0 [] 0, .int .i64 (fr : Int), .int .i64 (i : Int)] [.row .str acc 0 0 0 .no] (.sl .str (acc ++ preF ((s.drop fr).take (i - fr)) (cutS c (s.drop i)))) [] := by
  have hb : bytesOf' R_spec_l12Cut.P 9 = 16 := by kernel_rfl
  intro d
  induction d with
  | zero =>
    intro i fr acc hi hf ha
    refine Cut.of R_spec_l12Cut_ok rfl (t_spec_l12Cut_4 s c fr i acc) ?_
    refine Sat.ifb (fun h => ?_) (fun h => ?_)
    · simp at h; omega
    · refine Sat.ifb (fun h => ?_) (fun h => ?_)
      · refine Sat.ifb (fun h => ?_) (fun h => ?_)
        · refine Sat.ret ?_ rfl
          have e : s.drop i = [] := List.drop_of_length_le (by omega)
          have e2 : s.length = i := by omega
          simp [e, cutS, preF, e2]
        · simp [hb] at h; omega
      · simp at h; omega
  | succ d ih =>
    intro i fr acc hi hf ha
    refine Cut.of R_spec_l12Cut_ok rfl (t_spec_l12Cut_4 s c fr i acc) ?_
    have hlt : i < s.length := by omega
    have hw : IntKind.wrap .i64 ((i : Int) + 1) = ((i + 1 : Nat) : Int) := by rw [wrap_ok] <;> omega
    have hd : s.drop i = s.getD i 0 :: s.drop (i + 1) := by rw [List.drop_eq_getElem_cons hlt]; simp [hlt]
    rw [hw, Int.toNat_natCast, Int.toNat_natCast]
    refine Sat.ifb (fun h => ?_) (fun h => ?_)
    · refine Sat.ifb (fun h => ?_) (fun h => ?_)
      · refine Sat.ifb (fun hb1 => ?_) (fun hb1 => ?_)
        · refine Sat.ifb (fun h => ?_) (fun h => ?_)
          · refine Sat.ifb (fun h => ?_) (fun h => ?_)
            · rw [hd, preF_hit hb1]
              have := ih (i + 1) (i + 1) (acc ++ [(s.drop fr).take (i - fr)]) (by omega) (by omega) (by simp; omega)
              rw [Nat.sub_self, List.take_zero, preF_nil, List.append_assoc] at this
              exact Sat.cut this
            · simp [hb] at h; omega
          · simp at h; omega
        · rw [hd, preF_miss hb1]
          have := ih (i + 1) fr acc (by omega) (by omega) (by omega)
          have e : (s.drop fr).take (i + 1 - fr) = (s.drop fr).take (i - fr) ++ [s.getD i 0] := by
            have : i + 1 - fr = (i - fr) + 1 := by omega
            rw [this, List.take_add_one, List.getElem?_drop, show fr + (i - fr) = i by omega, List.getElem?_eq_getElem hlt, List.getD_eq_getElem?_getD, List.getElem?_eq_getElem hlt]
            rfl
          rw [e] at this
          exact Sat.cut this
      · simp [inb] at h; omega
    · simp at h; omega
theorem c_spec_l12Cut (s : Str) (c : Int) (hg : decide (s.length ≤ 1000000000) = true) : CallOK Tryz.prog CP g_spec_l12Cut [.str s, .int .u8 c] [] (.sl .str (cutS c s)) [] := by
  refine CallOK.of R_spec_l12Cut_ok (by kernel_rfl) (t_spec_l12Cut s c) ?_
  have := l_spec_l12Cut s c (of_decide_eq_true hg) s.length 0 0 [] (by omega) (by omega) (by simp)
  rw [List.nil_append, Nat.sub_self, List.take_zero, List.drop_zero, preF_nil] at this
  exact Sat.cut this
theorem E_spec_l12Cut_ok : EntOK Tryz.prog CP g_spec_l12Cut E_spec_l12Cut := by
  refine ⟨⟨Tryz.f111, by kernel_rfl, by kernel_rfl, by kernel_rfl⟩, fun args H res H' h => ?_⟩
  simp only [E_spec_l12Cut] at h
  split at h
  · simp only [Option.some.injEq, Prod.mk.injEq] at h
    obtain ⟨hg, rfl, rfl⟩ := h
    exact c_spec_l12Cut _ _ hg
  · cases h

/-- spec.l12Number -/
noncomputable def R_spec_l12Number : RE Ty El := ⟨Tryz.prog, CP, [(g_spec_l11In, E_spec_l11In)], Tryz.f112, 0, [], [(5, [(0, .any), (3, .any), (4, .any)])]⟩
theorem R_spec_l12Number_ok : REOK R_spec_l12Number g_spec_l12Number := ⟨CP_ok, (TabOK.cons E_spec_l11In_ok EOKnil), by kernel_rfl, by kernel_rfl⟩
theorem t_spec_l12Number (s : Str) : aRun R_spec_l12Number 600 false (body0 R_spec_l12Number.fn) (initSt R_spec_l12Number.fn [.str s] []) =
  ifb (!inR (↑(List.length s) : Int) (1 : Int) (7 : Int)) (some (.ret (.int .i64 (-1 : Int)) [])) (ifb (decide ((↑(List.length s) : Int) > (1 : Int))) (ifb (inb (0 : Int) (List.length s)) (ifb ((↑(List.getD s (Int.toNat (0 : Int)) (0 : UInt8)).toNat : Int) == (48 : Int)) (some (.ret (.int .i64 (-1 : Int)) [])) (some (.go (todoAt R_spec_l12Number.fn 5) [.str s, .int .i64 (0 : Int), .int .i64 (0 : Int)] []))) (none)) (some (.go (todoAt R_spec_l12Number.fn 5) [.str s, .int .i64 (0 : Int), .int .i64 (0 : Int)] []))) := by kernel_rfl
theorem t_spec_l12Number_5 (x0 : Str) (x1 : Int) (x2 : Int) : aRun R_spec_l12Number 600 true (todoAt R_spec_l12Number.fn 5) (cutSt R_spec_l12Number.fn (liveOf R_spec_l12Number (todoAt R_spec_l12Number.fn 5)) [.str x0, .int .i64 x1, .int .i64 x2] []) =
  ifb (decide (x2 < (↑(List.length x0) : Int))) (ifb (inb x2 (List.length x0)) (ifb (decide ((↑(List.getD x0 x2.toNat (0 : UInt8)).toNat : Int) < (48 : Int))) (some (.ret (.int .i64 (-1 : Int)) [])) (ifb (inb x2 (List.length x0)) (ifb (decide ((↑(List.getD x0 x2.toNat (0 : UInt8)).toNat : Int) > (57 : Int))) (some (.ret (.int .i64 (-1 : Int)) [])) (ifb (inb x2 (List.length x0)) (some (.go (todoAt R_spec_l12Number.fn 5) [.str x0, .int .i64 (IntKind.i64.wrap (IntKind.i64.wrap (IntKind.i64.wrap (x1 * (10 : Int)) + IntKind.i64.wrap (↑(List.getD x0 x2.toNat (0 : UInt8)).toNat : Int)) - (48 : Int))), .int .i64 (IntKind.i64.wrap (x2 + (1 : Int)))] [])) (none))) (none))) (none)) (some (.ret (.int .i64 x1) [])) := by kernel_rfl
theorem l_spec_l12Number (s : Str) (hs : s.length ≤ 7) : ∀ (d i : Nat) (n : Int), i + d = s.length → 0 ≤ n → n < 10 ^ i → Cut R_spec_l12Number g_spec_l12Number 5 [.str s, .int .i64 n, .int .i64 (i : Int)] [] (.int .i64 (numGo n (s.drop i))) [] := by
  intro d
  induction d with
  | zero =>
    intro i n hi h0 hn
    refine Cut.of R_spec_l12Number_ok rfl (t_spec_l12Number_5 s n i) ?_
    refine Sat.ifb (fun h => ?_) (fun h => ?_)
    · simp at h; omega
    · refine Sat.retI ?_ rfl
      rw [List.drop_of_length_le (by omega)]; rfl
  | succ d ih =>
    intro i n hi h0 hn
    refine Cut.of R_spec_l12Number_ok rfl (t_spec_l12Number_5 s n i) ?_
    have hlt : i < s.length := by omega
    have hp : (10 : Int) ^ i ≤ 1000000 := by
      have : i = 0 ∨ i = 1 ∨ i = 2 ∨ i = 3 ∨ i = 4 ∨ i = 5 ∨ i = 6 := by omega
      rcases this with rfl | rfl | rfl | rfl | rfl | rfl | rfl <;> decide
    have hw : IntKind.wrap .i64 ((i : Int) + 1) = ((i + 1 : Nat) : Int) := by rw [wrap_ok] <;> omega
    have hd : s.drop i = s.getD i 0 :: s.drop (i + 1) := by rw [List.drop_eq_getElem_cons hlt]; simp [hlt]
    rw [hw, Int.toNat_natCast, hd]
    have hbb : (s.getD i 0).toNat < 256 := UInt8.toNat_lt _
    generalize hbe : s.getD i 0 = b at *
    have w1 : IntKind.wrap .i64 (n * 10) = n * 10 := by rw [wrap_ok] <;> omega
    have w2 : IntKind.wrap .i64 (b.toNat : Int) = (b.toNat : Int) := by rw [wrap_ok] <;> omega
    have w3 : IntKind.wrap .i64 (n * 10 + (b.toNat : Int)) = n * 10 + (b.toNat : Int) := by rw [wrap_ok] <;> omega
    have w4 : IntKind.wrap .i64 (n * 10 + (b.toNat : Int) - 48) = n * 10 + ((b.toNat : Int) - 48) := by rw [wrap_ok] <;> omega
    rw [w1, w2, w3, w4]
    have hin : inb (i : Int) s.length = true := by simp [inb]; omega
    refine Sat.ifb (fun h => ?_) (fun h => ?_)
    · refine Sat.ifb (fun h => ?_) (fun h => ?_)
      · refine Sat.ifb (fun h => ?_) (fun h1 => ?_)
        · refine Sat.retI ?_ rfl
          simp at h
          simp [numGo, h]
        · refine Sat.ifb (fun _ => ?_) (fun h => ?_)
          · refine Sat.ifb (fun h => ?_) (fun h2 => ?_)
            · refine Sat.retI ?_ rfl
              simp at h
              simp [numGo, h]
            · refine Sat.ifb (fun _ => ?_) (fun h => ?_)
              · simp at h1 h2
                have hnot : ¬ ((b.toNat : Int) < 48 ∨ (b.toNat : Int) > 57) := by omega
                have := ih (i + 1) (n * 10 + ((b.toNat : Int) - 48)) (by omega) (by omega) (by rw [Int.pow_succ]; omega)
                simp only [numGo, hnot, if_false]
                exact Sat.cut this
              · rw [hin] at h; cases h
          · rw [hin] at h; cases h
      · rw [hin] at h; cases h
    · simp at h; omega
theorem c_spec_l12Number (s : Str) : CallOK Tryz.prog CP g_spec_l12Number [.str s] [] (.int .i64 (numF s)) [] := by
  refine CallOK.of R_spec_l12Number_ok (by kernel_rfl) (t_spec_l12Number s) ?_
  have go : 1 ≤ s.length → s.length ≤ 7 → ¬ (1 < s.length ∧ ((s.getD 0 0).toNat : Int) = 48) → Cut R_spec_l12Number g_spec_l12Number 5 [.str s, .int .i64 0, .int .i64 0] [] (.int .i64 (numF s)) [] := fun h1 h2 h3 => by
    have := l_spec_l12Number s h2 s.length 0 0 (by omega) (by omega) (by simp)
    rw [List.drop_zero] at this
    rw [show numF s = numGo 0 s by unfold numF; rw [if_pos ⟨h1, h2, h3⟩]]
    exact this
  refine Sat.ifb (fun h => ?_) (fun h => ?_)
  · refine Sat.retI ?_ rfl
    simp [inR] at h
    unfold numF
    rw [if_neg (by omega)]
  · simp [inR] at h
    refine Sat.ifb (fun h1 => ?_) (fun h1 => ?_)
    · simp at h1
      refine Sat.ifb (fun h2 => ?_) (fun h2 => ?_)
      · refine Sat.ifb (fun h3 => ?_) (fun h3 => ?_)
        · refine Sat.retI ?_ rfl
          have h3' : ((s.getD 0 0).toNat : Int) = 48 := eq_of_beq h3
          unfold numF
          rw [if_neg (fun hc => hc.2.2 ⟨by omega, h3'⟩)]
        · have h3' : ¬ ((s.getD 0 0).toNat : Int) = 48 := beq_eq_false_iff_ne.1 h3
          exact Sat.cut (go (by omega) (by omega) (fun hc => h3' hc.2))
      · have h1' : ((s.length : Int) > 1) := h1
        have : inb (0 : Int) s.length = true := by simp only [inb, Bool.and_eq_true, decide_eq_true_eq]; omega
        rw [this] at h2; cases h2
    · have h1 : ¬ ((s.length : Int) > 1) := of_decide_eq_false h1
      exact Sat.cut (go (by omega) (by omega) (fun hc => by have := hc.1; omega))
theorem E_spec_l12Number_ok : EntOK Tryz.prog CP g_spec_l12Number E_spec_l12Number := by
  refine ⟨⟨Tryz.f112, by kernel_rfl, by kernel_rfl, by kernel_rfl⟩, fun args H res H' h => ?_⟩
  simp only [E_spec_l12Number] at h
  split at h
  · simp only [Option.some.injEq, Prod.mk.injEq] at h
    obtain ⟨hg, rfl, rfl⟩ := h
    exact c_spec_l12Number _
  · cases h

/-- spec.l16Value -/
noncomputable def R_spec_l16Value : RE Ty El := ⟨Tryz.prog, CP, [], Tryz.f190, 0, [], [(2, [(1, .any), (2, .any), (5, .any)])]⟩
theorem R_spec_l16Value_ok : REOK R_spec_l16Value g_spec_l16Value := ⟨CP_ok, EOKnil, by kernel_rfl, by kernel_rfl⟩
theorem t_spec_l16Value (n : Str) (fs : List Fld) (w : Int) : aRun R_spec_l16Value 600 false (body0 R_spec_l16Value.fn) (initSt R_spec_l16Value.fn [.agg [.str n, .sl .fld fs], .int .i64 w] []) =
  some (.go (todoAt R_spec_l16Value.fn 2) [.int .i64 w, .ptr 0 0, .int .i64 (0 : Int)] [.box [.str n, .sl .fld fs]]) := by kernel_rfl
theorem t_spec_l16Value_2 (x0 : Int) (x1 : Int) (x2 : Str) (x3 : List (El .fld)) : aRun R_spec_l16Value 600 true (todoAt R_spec_l16Value.fn 2) (cutSt R_spec_l16Value.fn (liveOf R_spec_l16Value (todoAt R_spec_l16Value.fn 2)) [.int .i64 x0, .ptr 0 0, .int .i64 x1] [.box [.str x2, .sl .fld x3]]) =
  ifb (decide (x1 < (↑x3.length : Int))) (ifb (inb x1 x3.length) (ifb ((x3.getD x1.toNat (R_spec_l16Value.C.dflt Ty.fld)).what == x0) (ifb (inb x1 x3.length) (some (.ret (.str ((x3.getD x1.toNat (R_spec_l16Value.C.dflt Ty.fld)).value)) [])) (none)) (some (.go (todoAt R_spec_l16Value.fn 2) [.int .i64 x0, .ptr 0 0, .int .i64 (IntKind.i64.wrap (x1 + (1 : Int)))] [.box [.str x2, .sl .fld x3]]))) (none)) (some (.ret (.str #[].toList) [])) := by kernel_rfl
theorem l_spec_l16Value (n : Str) (fs : List Fld) (w : Int) (hs : fs.length ≤ 1000000000) : ∀ (d i : Nat), i + d = fs.length → Cut R_spec_l16Value g_spec_l16Value 2 [.int .i64 w, .ptr 0 0, .int .i64 (i : Int)] [.box [.str n, .sl .fld fs]] (.str (valF (fs.drop i) w)) [] := by
  intro d
  induction d with
  | zero =>
    intro i hi
    refine Cut.of R_spec_l16Value_ok rfl (t_spec_l16Value_2 w i n fs) ?_
    refine Sat.ifb (fun h => ?_) (fun h => ?_)
    · simp at h; omega
    · refine Sat.ret ?_ rfl
      rw [List.drop_of_length_le (by omega)]; rfl
  | succ d ih =>
    intro i hi
    refine Cut.of R_spec_l16Value_ok rfl (t_spec_l16Value_2 w i n fs) ?_
    have hlt : i < fs.length := by omega
    have hw : IntKind.wrap .i64 ((i : Int) + 1) = ((i + 1 : Nat) : Int) := by rw [wrap_ok] <;> omega
    have hd : fs.drop i = fs[i] :: fs.drop (i + 1) := List.drop_eq_getElem_cons hlt
    have hx : fs.getD (i : Int).toNat (R_spec_l16Value.C.dflt .fld) = fs[i] := by simp [hlt]
    have hin : inb (i : Int) fs.length = true := by simp [inb]; omega
    rw [hw, hx, hd]
    refine Sat.ifb (fun h => ?_) (fun h => ?_)
    · refine Sat.ifb (fun _ => ?_) (fun h => ?_)
      · refine Sat.ifb (fun h => ?_) (fun h => ?_)
        · refine Sat.ifb (fun _ => ?_) (fun h => ?_)
          · refine Sat.ret ?_ rfl
            rw [valF_cons, h]; rfl
          · rw [hin] at h; cases h
        · have := ih (i + 1) (by omega)
          rw [show valF (fs[i] :: fs.drop (i + 1)) w = valF (fs.drop (i + 1)) w by rw [valF_cons, h]; rfl]
          exact Sat.cut this
      · rw [hin] at h; cases h
    · simp at h; omega
theorem c_spec_l16Value (n : Str) (fs : List Fld) (w : Int) (hg : decide (fs.length ≤ 1000000000) = true) : CallOK Tryz.prog CP g_spec_l16Value [.agg [.str n, .sl .fld fs], .int .i64 w] [] (.str (valF fs w)) [] := by
  refine CallOK.of R_spec_l16Value_ok (by kernel_rfl) (t_spec_l16Value n fs w) ?_
  have := l_spec_l16Value n fs w (of_decide_eq_true hg) fs.length 0 (by omega)
  exact Sat.cut this
theorem E_spec_l16Value_ok : EntOK Tryz.prog CP g_spec_l16Value E_spec_l16Value := by
  refine ⟨⟨Tryz.f190, by kernel_rfl, by kernel_rfl, by kernel_rfl⟩, fun args H res H' h => ?_⟩
  simp only [E_spec_l16Value] at h
  split at h
  · simp only [Option.some.injEq, Prod.mk.injEq] at h
    obtain ⟨hg, rfl, rfl⟩ := h
    exact c_spec_l16Value _ _ _ hg
  · cases h
end Lx
/- Meanings: what is ok, what fits. -/
set_option linter.unusedVariables false
namespace Lx
open Go Go.Proofs
def afterB (prev : Option Str) (n : Str) : Bool := match prev with
  | none => true
  | some p => bytesLt p n
def kindsGo : Option Str → List Kind → Bool
  | _, [] => true
  | prev, k :: ks => k.ok && (afterB prev k.name && kindsGo (some k.name) ks)
def freeOf (seen : List Point) (p : Point) : Bool := seen.all fun q => !(q.x == p.x && q.y == p.y)
def pointsGo : List Point → Option Str → List Point → Bool
  | _, _, [] => true
  | seen, prev, p :: ps => p.ok && (afterB prev p.name && (freeOf seen p && pointsGo (seen ++ [p]) (some p.name) ps))
def baseOk (ks : List Kind) (ps : List Point) : Bool := decide (ks.length ≤ 6) && (decide (ps.length ≤ 16) && (kindsGo none ks && pointsGo [] none ps))
def kindIx (ks : List Kind) (n : Str) : Int := idxF (fun k => k.name == n) ks
def pointIx (ps : List Point) (n : Str) : Int := idxF (fun p => p.name == n) ps
def routeGo (ps : List Point) : Option Str → List Str → Bool
  | _, [] => true
  | prev, n :: w => !decide (pointIx ps n < 0) && (!(prev == some n) && routeGo ps (some n) w)
def routeOk (ps : List Point) (w : List Str) : Bool := inR w.length 2 8 && routeGo ps none w
def timeOk (w : List Str) : Bool := match w with
  | [a, b] => decide (0 ≤ numF a) && inR (numF b) (numF a) 10000
  | _ => false
def wOpen : Str := [111, 112, 101, 110]
def wClosed : Str := [99, 108, 111, 115, 101, 100]
def fitsV (ks : List Kind) (ps : List Point) (what : Int) (v : Str) : Bool :=
  if what = 1 then decide (0 ≤ kindIx ks v) else if what = 2 then timeOk (cutS 32 v) else if what = 3 then inR (numF v) 1 6 else if what = 4 then routeOk ps (cutS 32 v)
  else if what = 5 then v == wOpen || v == wClosed else false
def changeV (ks : List Kind) (ps : List Point) (fl : Str) (what num : Int) (v : Str) : Bool := nameOk fl && (inR num 1 1000000 && fitsV ks ps what v)
def fieldsGo (ks : List Kind) (ps : List Point) (n : Str) : Option Int → List Fld → Bool
  | _, [] => true
  | prev, f :: fs => changeV ks ps n f.what f.number f.value && ((match prev with | none => true | some q => decide (q < f.what)) && fieldsGo ks ps n (some f.what) fs)
def entryOk (ks : List Kind) (ps : List Point) (e : Entry) : Bool := nameOk e.name && (!decide (e.fields.length = 0) && fieldsGo ks ps e.name none e.fields)
def entriesGo (ks : List Kind) (ps : List Point) : Option Str → List Entry → Bool
  | _, [] => true
  | prev, e :: es => entryOk ks ps e && (afterB prev e.name && entriesGo ks ps (some e.name) es)
def bookOk (ks : List Kind) (ps : List Point) (es : List Entry) : Bool := baseOk ks ps && (decide (es.length ≤ 12) && entriesGo ks ps none es)
def E_spec_PlanBaseOk : Ent Ty El := ⟨[.ro], 0, fun a h => match a, h with
  | [.agg [.sl .kind ks, .sl .point ps]], [] => some (true, .bool (baseOk ks ps), [])
  | _, _ => none⟩
def E_spec_l12RouteOk : Ent Ty El := ⟨[.ro, .ro], 0, fun a h => match a, h with
  | [.agg [.sl .kind ks, .sl .point ps], .sl .str w], [] => some (decide (ps.length < 1000000000), .bool (routeOk ps w), [])
  | _, _ => none⟩
def E_spec_l12TimeOk : Ent Ty El := ⟨[.ro], 0, fun a h => match a, h with
  | [.sl .str w], [] => some (true, .bool (timeOk w), [])
  | _, _ => none⟩
end Lx
/- Functions, each with its contract. -/
set_option linter.unusedVariables false
set_option linter.unusedSimpArgs false
set_option maxRecDepth 4000
namespace Lx
open Go Go.Proofs
/-- spec.l12RouteOk -/
noncomputable def R_spec_l12RouteOk : RE Ty El := ⟨Tryz.prog, CP, [(g_spec_l11In, E_spec_l11In), (g_spec_l11Point, E_spec_l11Point)], Tryz.f124, 0, [], [(4, [(1, .any), (2, .any), (5, .any)])]⟩
theorem R_spec_l12RouteOk_ok : REOK R_spec_l12RouteOk g_spec_l12RouteOk := ⟨CP_ok, (TabOK.cons E_spec_l11In_ok (TabOK.cons E_spec_l11Point_ok EOKnil)), by kernel_rfl, by kernel_rfl⟩
theorem t_spec_l12RouteOk (ks : List Kind) (ps : List Point) (w : List Str) : aRun R_spec_l12RouteOk 600 false (body0 R_spec_l12RouteOk.fn) (initSt R_spec_l12RouteOk.fn [.agg [.sl .kind ks, .sl .point ps], .sl .str w] []) =
  ifb (!inR (↑w.length : Int) (2 : Int) (8 : Int)) (some (.ret (.bool false) [])) (some (.go (todoAt R_spec_l12RouteOk.fn 4) [.sl .str w, .ptr 0 0, .int .i64 (0 : Int)] [.box [.sl .kind ks, .sl .point ps]])) := by kernel_rfl
theorem t_spec_l12RouteOk_4 (x0 : List (El .str)) (x1 : Int) (x2 : List (El .kind)) (x3 : List (El .point)) : aRun R_spec_l12RouteOk 600 true (todoAt R_spec_l12RouteOk.fn 4) (cutSt R_spec_l12RouteOk.fn (liveOf R_spec_l12RouteOk (todoAt R_spec_l12RouteOk.fn 4)) [.sl .str x0, .ptr 0 0, .int .i64 x1] [.box [.sl .kind x2, .sl .point x3]]) =
  ifb (decide (x1 < (↑x0.length : Int))) (ifb (inb x1 x0.length) (ifb (decide (x3.length < (1000000000 : Nat))) (ifb (decide (idxF (fun p => p.name == x0.getD x1.toNat (R_spec_l12RouteOk.C.dflt Ty.str)) x3 < (0 : Int))) (some (.ret (.bool false) [])) (ifb (decide (x1 > (0 : Int))) (ifb (inb (IntKind.i64.wrap (x1 - (1 : Int))) x0.length) (ifb (inb x1 x0.length) (ifb (x0.getD (IntKind.i64.wrap (x1 - (1 : Int))).toNat (R_spec_l12RouteOk.C.dflt Ty.str) == x0.getD x1.toNat (R_spec_l12RouteOk.C.dflt Ty.str)) (some (.ret (.bool false) [])) (some (.go (todoAt R_spec_l12RouteOk.fn 4) [.sl .str x0, .ptr 0 0, .int .i64 (IntKind.i64.wrap (x1 + (1 : Int)))] [.box [.sl .kind x2, .sl .point x3]]))) (none)) (none)) (some (.go (todoAt R_spec_l12RouteOk.fn 4) [.sl .str x0, .ptr 0 0, .int .i64 (IntKind.i64.wrap (x1 + (1 : Int)))] [.box [.sl .kind x2, .sl .point x3]])))) (none)) (none)) (some (.ret (.bool true) [])) := by kernel_rfl
theorem l_spec_l12RouteOk (ks : List Kind) (ps : List Point) (w : List Str) (hp : ps.length < 1000000000) (hs : w.length ≤ 8) : ∀ (d i : Nat), i + d = w.length →
    Cut R_spec_l12RouteOk g_spec_l12RouteOk 4 [.sl .str w, .ptr 0 0, .int .i64 (i : Int)] [.box [.sl .kind ks, .sl .point ps]] (.bool (routeGo ps (w.take i).getLast? (w.drop i))) [] := by
  intro d
  induction d with
  | zero =>
    intro i hi
    refine Cut.of R_spec_l12RouteOk_ok rfl (t_spec_l12RouteOk_4 w i ks ps) ?_
    refine Sat.ifb (fun h => ?_) (fun h => ?_)
    · simp at h; omega
    · refine Sat.retB ?_ rfl
      rw [List.drop_of_length_le (by omega)]; rfl
  | succ d ih =>
    intro i hi
    refine Cut.of R_spec_l12RouteOk_ok rfl (t_spec_l12RouteOk_4 w i ks ps) ?_
    have hlt : i < w.length := by omega
    have hw : IntKind.wrap .i64 ((i : Int) + 1) = ((i + 1 : Nat) : Int) := by rw [wrap_ok] <;> omega
    have hw1 : IntKind.wrap .i64 ((i : Int) - 1) = (i : Int) - 1 := by rw [wrap_ok] <;> omega
    have hd : w.drop i = w[i] :: w.drop (i + 1) := List.drop_eq_getElem_cons hlt
    have hx : w.getD (i : Int).toNat (R_spec_l12RouteOk.C.dflt .str) = w[i] := by simp [hlt]
    have hin : inb (i : Int) w.length = true := by simp [inb]; omega
    have hl : (w.take (i + 1)).getLast? = some w[i] := by rw [List.take_succ_eq_append_getElem hlt, List.getLast?_concat]
    have ih' := ih (i + 1) (by omega)
    rw [hl] at ih'
    rw [hw, hw1, hx, hd]
    refine Sat.ifb (fun _ => ?_) (fun h => ?_)
    · refine Sat.ifb (fun _ => ?_) (fun h => ?_)
      · refine Sat.ifb (fun _ => ?_) (fun h => ?_)
        · refine Sat.ifb (fun h => ?_) (fun h => ?_)
          · refine Sat.retB ?_ rfl
            have : decide (pointIx ps w[i] < 0) = true := h
            rw [routeGo, this]; rfl
          · have hix : decide (pointIx ps w[i] < 0) = false := h
            refine Sat.ifb (fun h0 => ?_) (fun h0 => ?_)
            · have h0' : ((i : Int) > 0) := of_decide_eq_true h0
              have hi1 : i - 1 < w.length := by omega
              have hx1 : w.getD ((i : Int) - 1).toNat (R_spec_l12RouteOk.C.dflt .str) = w[i - 1] := by
                rw [show ((i : Int) - 1).toNat = i - 1 by omega]; simp [hi1]
              have hl1 : (w.take i).getLast? = some w[i - 1] := by
                have := List.take_succ_eq_append_getElem hi1
                rw [show i - 1 + 1 = i by omega] at this
                rw [this, List.getLast?_concat]
              rw [hx1]
              refine Sat.ifb (fun _ => ?_) (fun h => ?_)
              · refine Sat.ifb (fun _ => ?_) (fun h => ?_)
                · refine Sat.ifb (fun h => ?_) (fun h => ?_)
                  · refine Sat.retB ?_ rfl
                    rw [routeGo, hix, hl1]
                    simp [eq_of_beq h]
                  · rw [routeGo, hix, hl1, show (some w[i - 1] == some w[i]) = false by rw [Option.some_beq_some]; exact h]
                    exact Sat.cut ih'
                · rw [hin] at h; cases h
              · have : inb ((i : Int) - 1) w.length = true := by simp only [inb, Bool.and_eq_true, decide_eq_true_eq]; omega
                rw [this] at h; cases h
            · have h0' : ¬ ((i : Int) > 0) := of_decide_eq_false h0
              have : i = 0 := by omega
              subst this
              rw [routeGo, hix]
              exact Sat.cut ih'
        · simp at h; omega
      · rw [hin] at h; cases h
    · simp at h; omega
theorem c_spec_l12RouteOk (ks : List Kind) (ps : List Point) (w : List Str) (hg : decide (ps.length < 1000000000) = true) : CallOK Tryz.prog CP g_spec_l12RouteOk [.agg [.sl .kind ks, .sl .point ps], .sl .str w] [] (.bool (routeOk ps w)) [] := by
  refine CallOK.of R_spec_l12RouteOk_ok (by kernel_rfl) (t_spec_l12RouteOk ks ps w) ?_
  refine Sat.ifb (fun h => ?_) (fun h => ?_)
  · refine Sat.retB ?_ rfl
    simp at h
    simp [routeOk, h]
  · simp at h
    have h' := h
    simp only [inR, Bool.and_eq_true, decide_eq_true_eq] at h'
    have := l_spec_l12RouteOk ks ps w (of_decide_eq_true hg) (by omega) w.length 0 (by omega)
    rw [show routeOk ps w = routeGo ps (w.take 0).getLast? (w.drop 0) by simp [routeOk, h]]
    exact Sat.cut this
theorem E_spec_l12RouteOk_ok : EntOK Tryz.prog CP g_spec_l12RouteOk E_spec_l12RouteOk := by
  refine ⟨⟨Tryz.f124, by kernel_rfl, by kernel_rfl, by kernel_rfl⟩, fun args H res H' h => ?_⟩
  simp only [E_spec_l12RouteOk] at h
  split at h
  · simp only [Option.some.injEq, Prod.mk.injEq] at h
    obtain ⟨hg, rfl, rfl⟩ := h
    exact c_spec_l12RouteOk _ _ _ hg
  · cases h

/-- spec.l12TimeOk -/
noncomputable def R_spec_l12TimeOk : RE Ty El := ⟨Tryz.prog, CP, [(g_spec_l12Number, E_spec_l12Number), (g_spec_l11In, E_spec_l11In)], Tryz.f174, 0, [], []⟩
theorem R_spec_l12TimeOk_ok : REOK R_spec_l12TimeOk g_spec_l12TimeOk := ⟨CP_ok, (TabOK.cons E_spec_l12Number_ok (TabOK.cons E_spec_l11In_ok EOKnil)), by kernel_rfl, by kernel_rfl⟩
theorem t_spec_l12TimeOk (w : List Str) : aRun R_spec_l12TimeOk 600 false (body0 R_spec_l12TimeOk.fn) (initSt R_spec_l12TimeOk.fn [.sl .str w] []) =
  ifb ((↑w.length : Int) == (2 : Int)) (ifb (inb (0 : Int) w.length) (ifb (decide (numF (w.getD (Int.toNat (0 : Int)) (R_spec_l12TimeOk.C.dflt Ty.str)) ≥ (0 : Int))) (ifb (inb (1 : Int) w.length) (ifb (inb (0 : Int) w.length) (some (.ret (.bool (inR (numF (w.getD (Int.toNat (1 : Int)) (R_spec_l12TimeOk.C.dflt Ty.str))) (numF (w.getD (Int.toNat (0 : Int)) (R_spec_l12TimeOk.C.dflt Ty.str))) (10000 : Int))) [])) (none)) (none)) (some (.ret (.bool false) []))) (none)) (some (.ret (.bool false) [])) := by kernel_rfl
theorem c_spec_l12TimeOk (w : List Str) : CallOK Tryz.prog CP g_spec_l12TimeOk [.sl .str w] [] (.bool (timeOk w)) [] := by
  refine CallOK.of R_spec_l12TimeOk_ok (by kernel_rfl) (t_spec_l12TimeOk w) ?_
  match w with
  | [] => exact Sat.retB rfl rfl
  | [a] => exact Sat.retB rfl rfl
  | a :: b :: c :: l =>
    refine Sat.ifb (fun h => ?_) (fun h => ?_)
    · simp at h; omega
    · exact Sat.retB rfl rfl
  | [a, b] =>
    refine Sat.ifb (fun h => ?_) (fun h => ?_)
    · repeat' (first | (refine Sat.ifb (fun h => ?_) (fun h => ?_)))
      all_goals (first | (refine Sat.retB ?_ rfl; simp_all [timeOk]; done) | (refine Sat.retB ?_ rfl; simp_all [timeOk]; omega) | (refine Sat.no ?_; simp_all [inb]; done))
    · simp at h
theorem E_spec_l12TimeOk_ok : EntOK Tryz.prog CP g_spec_l12TimeOk E_spec_l12TimeOk := by
  refine ⟨⟨Tryz.f174, by kernel_rfl, by kernel_rfl, by kernel_rfl⟩, fun args H res H' h => ?_⟩
  simp only [E_spec_l12TimeOk] at h
  split at h
  · simp only [Option.some.injEq, Prod.mk.injEq] at h
    obtain ⟨hg, rfl, rfl⟩ := h
    exact c_spec_l12TimeOk _
  · cases h
end Lx
/- Functions, each with its contract. -/
set_option linter.unusedVariables false
set_option linter.unusedSimpArgs false
set_option maxRecDepth 4000
namespace Lx
open Go Go.Proofs
/-- spec.PlanBaseOk -/
noncomputable def R_spec_PlanBaseOk : RE Ty El := ⟨Tryz.prog, CP, [(g_spec_l11KindOk, E_spec_l11KindOk), (g_spec_l11PointOk, E_spec_l11PointOk)], Tryz.f123, 0, [], [(4, [(1, .any), (3, .any)]), (9, [(1, .any), (4, .any)]), (14, [(1, .any), (4, .any), (5, .any)])]⟩
theorem R_spec_PlanBaseOk_ok : REOK R_spec_PlanBaseOk g_spec_PlanBaseOk := ⟨CP_ok, (TabOK.cons E_spec_l11KindOk_ok (TabOK.cons E_spec_l11PointOk_ok EOKnil)), by kernel_rfl, by kernel_rfl⟩
theorem t_spec_PlanBaseOk (ks : List Kind) (ps : List Point) : aRun R_spec_PlanBaseOk 600 false (body0 R_spec_PlanBaseOk.fn) (initSt R_spec_PlanBaseOk.fn [.agg [.sl .kind ks, .sl .point ps]] []) =
  ifb (decide ((↑ks.length : Int) > (6 : Int))) (some (.ret (.bool false) [])) (ifb (decide ((↑ps.length : Int) > (16 : Int))) (some (.ret (.bool false) [])) (some (.go (todoAt R_spec_PlanBaseOk.fn 4) [.ptr 0 0, .int .i64 (0 : Int)] [.box [.sl .kind ks, .sl .point ps]]))) := by kernel_rfl
theorem t_spec_PlanBaseOk_4 (x0 : Int) (x1 : List (El .kind)) (x2 : List (El .point)) : aRun R_spec_PlanBaseOk 600 true (todoAt R_spec_PlanBaseOk.fn 4) (cutSt R_spec_PlanBaseOk.fn (liveOf R_spec_PlanBaseOk (todoAt R_spec_PlanBaseOk.fn 4)) [.ptr 0 0, .int .i64 x0] [.box [.sl .kind x1, .sl .point x2]]) =
  ifb (decide (x0 < (↑x1.length : Int))) (ifb (inb x0 x1.length) (ifb (!Kind.ok (x1.getD x0.toNat (R_spec_PlanBaseOk.C.dflt Ty.kind))) (some (.ret (.bool false) [])) (ifb (decide (x0 > (0 : Int))) (ifb (inb (IntKind.i64.wrap (x0 - (1 : Int))) x1.length) (ifb (inb x0 x1.length) (ifb (!bytesLt (x1.getD (IntKind.i64.wrap (x0 - (1 : Int))).toNat (R_spec_PlanBaseOk.C.dflt Ty.kind)).name (x1.getD x0.toNat (R_spec_PlanBaseOk.C.dflt Ty.kind)).name) (some (.ret (.bool false) [])) (some (.go (todoAt R_spec_PlanBaseOk.fn 4) [.ptr 0 0, .int .i64 (IntKind.i64.wrap (x0 + (1 : Int)))] [.box [.sl .kind x1, .sl .point x2]]))) (none)) (none)) (some (.go (todoAt R_spec_PlanBaseOk.fn 4) [.ptr 0 0, .int .i64 (IntKind.i64.wrap (x0 + (1 : Int)))] [.box [.sl .kind x1, .sl .point x2]])))) (none)) (some (.go (todoAt R_spec_PlanBaseOk.fn 9) [.ptr 0 0, .int .i64 (0 : Int)] [.box [.sl .kind x1, .sl .point x2]])) := by kernel_rfl
theorem t_spec_PlanBaseOk_9 (x0 : Int) (x1 : List (El .kind)) (x2 : List (El .point)) : aRun R_spec_PlanBaseOk 600 true (todoAt R_spec_PlanBaseOk.fn 9) (cutSt R_spec_PlanBaseOk.fn (liveOf R_spec_PlanBaseOk (todoAt R_spec_PlanBaseOk.fn 9)) [.ptr 0 0, .int .i64 x0] [.box [.sl .kind x1, .sl .point x2]]) =
  ifb (decide (x0 < (↑x2.length : Int))) (ifb (inb x0 x2.length) (ifb (!Point.ok (x2.getD x0.toNat (R_spec_PlanBaseOk.C.dflt Ty.point))) (some (.ret (.bool false) [])) (ifb (decide (x0 > (0 : Int))) (ifb (inb (IntKind.i64.wrap (x0 - (1 : Int))) x2.length) (ifb (inb x0 x2.length) (ifb (!bytesLt (x2.getD (IntKind.i64.wrap (x0 - (1 : Int))).toNat (R_spec_PlanBaseOk.C.dflt Ty.point)).name (x2.getD x0.toNat (R_spec_PlanBaseOk.C.dflt Ty.point)).name) (some (.ret (.bool false) [])) (some (.go (todoAt R_spec_PlanBaseOk.fn 14) [.ptr 0 0, .int .i64 x0, .int .i64 (0 : Int)] [.box [.sl .kind x1, .sl .point x2]]))) (none)) (none)) (some (.go (todoAt R_spec_PlanBaseOk.fn 14) [.ptr 0 0, .int .i64 x0, .int .i64 (0 : Int)] [.box [.sl .kind x1, .sl .point x2]])))) (none)) (some (.ret (.bool true) [])) := by kernel_rfl
theorem t_spec_PlanBaseOk_14 (x0 : Int) (x1 : Int) (x2 : List (El .kind)) (x3 : List (El .point)) : aRun R_spec_PlanBaseOk 600 true (todoAt R_spec_PlanBaseOk.fn 14) (cutSt R_spec_PlanBaseOk.fn (liveOf R_spec_PlanBaseOk (todoAt R_spec_PlanBaseOk.fn 14)) [.ptr 0 0, .int .i64 x0, .int .i64 x1] [.box [.sl .kind x2, .sl .point x3]]) =
  ifb (decide (x1 < x0)) (ifb (inb x1 x3.length) (ifb (inb x0 x3.length) (ifb ((x3.getD x1.toNat (R_spec_PlanBaseOk.C.dflt Ty.point)).x == (x3.getD x0.toNat (R_spec_PlanBaseOk.C.dflt Ty.point)).x) (ifb (inb x1 x3.length) (ifb (inb x0 x3.length) (ifb ((x3.getD x1.toNat (R_spec_PlanBaseOk.C.dflt Ty.point)).y == (x3.getD x0.toNat (R_spec_PlanBaseOk.C.dflt Ty.point)).y) (some (.ret (.bool false) [])) (some (.go (todoAt R_spec_PlanBaseOk.fn 14) [.ptr 0 0, .int .i64 x0, .int .i64 (IntKind.i64.wrap (x1 + (1 : Int)))] [.box [.sl .kind x2, .sl .point x3]]))) (none)) (none)) (some (.go (todoAt R_spec_PlanBaseOk.fn 14) [.ptr 0 0, .int .i64 x0, .int .i64 (IntKind.i64.wrap (x1 + (1 : Int)))] [.box [.sl .kind x2, .sl .point x3]]))) (none)) (none)) (some (.go (todoAt R_spec_PlanBaseOk.fn 9) [.ptr 0 0, .int .i64 (IntKind.i64.wrap (x0 + (1 : Int)))] [.box [.sl .kind x2, .sl .point x3]])) := by kernel_rfl
theorem l77i (ks : List Kind) (ps : List Point) (hp : ps.length ≤ 16) (i : Nat) (hi : i < ps.length) (nx : Bool) (h9 : Cut R_spec_PlanBaseOk g_spec_PlanBaseOk 9 [.ptr 0 0, .int .i64 ((i + 1 : Nat) : Int)] [.box [.sl .kind ks, .sl .point ps]] (.bool nx) []) : ∀ (d k : Nat), k + d = i →
    Cut R_spec_PlanBaseOk g_spec_PlanBaseOk 14 [.ptr 0 0, .int .i64 (i : Int), .int .i64 (k : Int)] [.box [.sl .kind ks, .sl .point ps]] (.bool (freeOf ((ps.take i).drop k) ps[i] && nx)) [] := by
  have hwi : IntKind.wrap .i64 ((i : Int) + 1) = ((i + 1 : Nat) : Int) := by rw [wrap_ok] <;> omega
  have hxi : ps.getD (i : Int).toNat (R_spec_PlanBaseOk.C.dflt .point) = ps[i] := by simp [hi]
  have hini : inb (i : Int) ps.length = true := by simp only [inb, Bool.and_eq_true, decide_eq_true_eq]; omega
  intro d
  induction d with
  | zero =>
    intro k hk
    refine Cut.of R_spec_PlanBaseOk_ok rfl (t_spec_PlanBaseOk_14 i k ks ps) ?_
    rw [hwi]
    refine Sat.ifb (fun h => ?_) (fun h => ?_)
    · simp at h; omega
    · have : (ps.take i).drop k = [] := List.drop_of_length_le (by simp; omega)
      rw [this]
      exact Sat.cut h9
  | succ d ih =>
    intro k hk
    refine Cut.of R_spec_PlanBaseOk_ok rfl (t_spec_PlanBaseOk_14 i k ks ps) ?_
    have hlt : k < ps.length := by omega
    have hlt2 : k < (ps.take i).length := by simp; omega
    have hw : IntKind.wrap .i64 ((k : Int) + 1) = ((k + 1 : Nat) : Int) := by rw [wrap_ok] <;> omega
    have hx : ps.getD (k : Int).toNat (R_spec_PlanBaseOk.C.dflt .point) = ps[k] := by simp [hlt]
    have hink : inb (k : Int) ps.length = true := by simp only [inb, Bool.and_eq_true, decide_eq_true_eq]; omega
    have hd : (ps.take i).drop k = ps[k] :: (ps.take i).drop (k + 1) := by rw [List.drop_eq_getElem_cons hlt2, List.getElem_take]
    rw [hw, hx, hxi, hd]
    have hcons : ∀ l, freeOf (ps[k] :: l) ps[i] = (!(ps[k].x == ps[i].x && ps[k].y == ps[i].y) && freeOf l ps[i]) := fun l => rfl
    rw [hcons]
    refine Sat.ifb (fun _ => ?_) (fun h => ?_)
    · refine Sat.ifb (fun _ => ?_) (fun h => ?_)
      · refine Sat.ifb (fun _ => ?_) (fun h => ?_)
        · refine Sat.ifb (fun ha => ?_) (fun ha => ?_)
          · refine Sat.ifb (fun _ => ?_) (fun h => ?_)
            · refine Sat.ifb (fun _ => ?_) (fun h => ?_)
              · refine Sat.ifb (fun hb => ?_) (fun hb => ?_)
                · refine Sat.retB ?_ rfl
                  rw [ha, hb]; rfl
                · rw [ha, hb]
                  exact Sat.cut (ih (k + 1) (by omega))
              · rw [hini] at h; cases h
            · rw [hink] at h; cases h
          · rw [ha]
            exact Sat.cut (ih (k + 1) (by omega))
        · rw [hini] at h; cases h
      · rw [hink] at h; cases h
    · simp at h; omega
theorem l77p (ks : List Kind) (ps : List Point) (hp : ps.length ≤ 16) : ∀ (d i : Nat), i + d = ps.length →
    Cut R_spec_PlanBaseOk g_spec_PlanBaseOk 9 [.ptr 0 0, .int .i64 (i : Int)] [.box [.sl .kind ks, .sl .point ps]] (.bool (pointsGo (ps.take i) ((ps.take i).getLast?.map (·.name)) (ps.drop i))) [] := by
  intro d
  induction d with
  | zero =>
    intro i hi
    refine Cut.of R_spec_PlanBaseOk_ok rfl (t_spec_PlanBaseOk_9 i ks ps) ?_
    refine Sat.ifb (fun h => ?_) (fun h => ?_)
    · simp at h; omega
    · refine Sat.retB ?_ rfl
      rw [List.drop_of_length_le (by omega)]; rfl
  | succ d ih =>
    intro i hi
    refine Cut.of R_spec_PlanBaseOk_ok rfl (t_spec_PlanBaseOk_9 i ks ps) ?_
    have hlt : i < ps.length := by omega
    have hw1 : IntKind.wrap .i64 ((i : Int) - 1) = (i : Int) - 1 := by rw [wrap_ok] <;> omega
    have hd : ps.drop i = ps[i] :: ps.drop (i + 1) := List.drop_eq_getElem_cons hlt
    have hx : ps.getD (i : Int).toNat (R_spec_PlanBaseOk.C.dflt .point) = ps[i] := by simp [hlt]
    have hin : inb (i : Int) ps.length = true := by simp only [inb, Bool.and_eq_true, decide_eq_true_eq]; omega
    have hl : (ps.take (i + 1)).getLast? = some ps[i] := by rw [List.take_succ_eq_append_getElem hlt, List.getLast?_concat]
    have ih' := ih (i + 1) (by omega)
    rw [hl, Option.map_some] at ih'
    have inner := l77i ks ps hp i hlt _ ih' i 0 (by omega)
    rw [List.drop_zero] at inner
    rw [hw1, hx, hd, pointsGo, ← List.take_succ_eq_append_getElem hlt]
    refine Sat.ifb (fun _ => ?_) (fun h => ?_)
    · refine Sat.ifb (fun _ => ?_) (fun h => ?_)
      · refine Sat.ifb (fun h => ?_) (fun h => ?_)
        · refine Sat.retB ?_ rfl
          simp at h
          rw [h]; rfl
        · simp at h
          rw [h, Bool.true_and]
          refine Sat.ifb (fun h0 => ?_) (fun h0 => ?_)
          · have h0' : ((i : Int) > 0) := of_decide_eq_true h0
            have hi1 : i - 1 < ps.length := by omega
            have hx1 : ps.getD ((i : Int) - 1).toNat (R_spec_PlanBaseOk.C.dflt .point) = ps[i - 1] := by
              rw [show ((i : Int) - 1).toNat = i - 1 by omega]; simp [hi1]
            have hl1 : (ps.take i).getLast? = some ps[i - 1] := by
              have := List.take_succ_eq_append_getElem hi1
              rw [show i - 1 + 1 = i by omega] at this
              rw [this, List.getLast?_concat]
            rw [hx1, hl1]
            refine Sat.ifb (fun _ => ?_) (fun h => ?_)
            · refine Sat.ifb (fun _ => ?_) (fun h => ?_)
              · refine Sat.ifb (fun h => ?_) (fun h => ?_)
                · refine Sat.retB ?_ rfl
                  simp at h
                  simp only [Option.map_some, afterB]
                  rw [h]; rfl
                · simp at h
                  simp only [Option.map_some, afterB]
                  rw [h, Bool.true_and]
                  exact Sat.cut inner
              · rw [hin] at h; cases h
            · have : inb ((i : Int) - 1) ps.length = true := by simp only [inb, Bool.and_eq_true, decide_eq_true_eq]; omega
              rw [this] at h; cases h
          · have h0' : ¬ ((i : Int) > 0) := of_decide_eq_false h0
            have : i = 0 := by omega
            subst this
            exact Sat.cut inner
      · rw [hin] at h; cases h
    · simp at h; omega
theorem l77k (ks : List Kind) (ps : List Point) (hk : ks.length ≤ 6) (hp : ps.length ≤ 16) : ∀ (d i : Nat), i + d = ks.length →
    Cut R_spec_PlanBaseOk g_spec_PlanBaseOk 4 [.ptr 0 0, .int .i64 (i : Int)] [.box [.sl .kind ks, .sl .point ps]] (.bool (kindsGo ((ks.take i).getLast?.map (·.name)) (ks.drop i) && pointsGo [] none ps)) [] := by
  intro d
  induction d with
  | zero =>
    intro i hi
    refine Cut.of R_spec_PlanBaseOk_ok rfl (t_spec_PlanBaseOk_4 i ks ps) ?_
    refine Sat.ifb (fun h => ?_) (fun h => ?_)
    · simp at h; omega
    · rw [List.drop_of_length_le (by omega)]
      have := l77p ks ps hp ps.length 0 (by omega)
      exact Sat.cut this
  | succ d ih =>
    intro i hi
    refine Cut.of R_spec_PlanBaseOk_ok rfl (t_spec_PlanBaseOk_4 i ks ps) ?_
    have hlt : i < ks.length := by omega
    have hw : IntKind.wrap .i64 ((i : Int) + 1) = ((i + 1 : Nat) : Int) := by rw [wrap_ok] <;> omega
    have hw1 : IntKind.wrap .i64 ((i : Int) - 1) = (i : Int) - 1 := by rw [wrap_ok] <;> omega
    have hd : ks.drop i = ks[i] :: ks.drop (i + 1) := List.drop_eq_getElem_cons hlt
    have hx : ks.getD (i : Int).toNat (R_spec_PlanBaseOk.C.dflt .kind) = ks[i] := by simp [hlt]
    have hin : inb (i : Int) ks.length = true := by simp only [inb, Bool.and_eq_true, decide_eq_true_eq]; omega
    have hl : (ks.take (i + 1)).getLast? = some ks[i] := by rw [List.take_succ_eq_append_getElem hlt, List.getLast?_concat]
    have ih' := ih (i + 1) (by omega)
    rw [hl, Option.map_some] at ih'
    rw [hw, hw1, hx, hd, kindsGo]
    refine Sat.ifb (fun _ => ?_) (fun h => ?_)
    · refine Sat.ifb (fun _ => ?_) (fun h => ?_)
      · refine Sat.ifb (fun h => ?_) (fun h => ?_)
        · refine Sat.retB ?_ rfl
          simp at h
          rw [h]; rfl
        · simp at h
          rw [h, Bool.true_and]
          refine Sat.ifb (fun h0 => ?_) (fun h0 => ?_)
          · have h0' : ((i : Int) > 0) := of_decide_eq_true h0
            have hi1 : i - 1 < ks.length := by omega
            have hx1 : ks.getD ((i : Int) - 1).toNat (R_spec_PlanBaseOk.C.dflt .kind) = ks[i - 1] := by
              rw [show ((i : Int) - 1).toNat = i - 1 by omega]; simp [hi1]
            have hl1 : (ks.take i).getLast? = some ks[i - 1] := by
              have := List.take_succ_eq_append_getElem hi1
              rw [show i - 1 + 1 = i by omega] at this
              rw [this, List.getLast?_concat]
            rw [hx1, hl1]
            refine Sat.ifb (fun _ => ?_) (fun h => ?_)
            · refine Sat.ifb (fun _ => ?_) (fun h => ?_)
              · refine Sat.ifb (fun h => ?_) (fun h => ?_)
                · refine Sat.retB ?_ rfl
                  simp at h
                  simp only [Option.map_some, afterB]
                  rw [h]; rfl
                · simp at h
                  simp only [Option.map_some, afterB]
                  rw [h, Bool.true_and]
                  exact Sat.cut ih'
              · rw [hin] at h; cases h
            · have : inb ((i : Int) - 1) ks.length = true := by simp only [inb, Bool.and_eq_true, decide_eq_true_eq]; omega
              rw [this] at h; cases h
          · have h0' : ¬ ((i : Int) > 0) := of_decide_eq_false h0
            have : i = 0 := by omega
            subst this
            exact Sat.cut ih'
      · rw [hin] at h; cases h
    · simp at h; omega
theorem c_spec_PlanBaseOk (ks : List Kind) (ps : List Point) : CallOK Tryz.prog CP g_spec_PlanBaseOk [.agg [.sl .kind ks, .sl .point ps]] [] (.bool (baseOk ks ps)) [] := by
  refine CallOK.of R_spec_PlanBaseOk_ok (by kernel_rfl) (t_spec_PlanBaseOk ks ps) ?_
  refine Sat.ifb (fun h => ?_) (fun h => ?_)
  · refine Sat.retB ?_ rfl
    simp at h
    have : ¬ ks.length ≤ 6 := by omega
    simp [baseOk, this]
  · refine Sat.ifb (fun h2 => ?_) (fun h2 => ?_)
    · refine Sat.retB ?_ rfl
      simp at h2
      have : ¬ ps.length ≤ 16 := by omega
      simp [baseOk, this]
    · simp at h h2
      have a : ks.length ≤ 6 := by omega
      have b : ps.length ≤ 16 := by omega
      have := l77k ks ps a b ks.length 0 (by omega)
      rw [show baseOk ks ps = (kindsGo ((ks.take 0).getLast?.map (·.name)) (ks.drop 0) && pointsGo [] none ps) by simp [baseOk, a, b]]
      exact Sat.cut this
theorem E_spec_PlanBaseOk_ok : EntOK Tryz.prog CP g_spec_PlanBaseOk E_spec_PlanBaseOk := by
  refine ⟨⟨Tryz.f123, by kernel_rfl, by kernel_rfl, by kernel_rfl⟩, fun args H res H' h => ?_⟩
  simp only [E_spec_PlanBaseOk] at h
  split at h
  · simp only [Option.some.injEq, Prod.mk.injEq] at h
    obtain ⟨hg, rfl, rfl⟩ := h
    exact c_spec_PlanBaseOk _ _
  · cases h
end Lx
/- Meanings: what fits, entries. -/
set_option linter.unusedVariables false
namespace Lx
open Go Go.Proofs
def szV (v : Str) : Bool := decide (v.length ≤ 1000000000)
def szE (e : Entry) : Bool := decide (e.fields.length ≤ 1000000000) && e.fields.all (fun f => szV f.value)
def szB (es : List Entry) : Bool := decide (es.length ≤ 1000000000) && es.all szE
def E_spec_PlanFits : Ent Ty El := ⟨[.ro, .ro, .ro], 0, fun a h => match a, h with
  | [.agg [.sl .kind ks, .sl .point ps], .int .i64 what, .str v], [] => some (szV v, .bool (baseOk ks ps && fitsV ks ps what v), [])
  | _, _ => none⟩
def E_spec_PlanChangeOk : Ent Ty El := ⟨[.ro, .ro], 0, fun a h => match a, h with
  | [.agg [.sl .kind ks, .sl .point ps], .agg [.str fl, .int .i64 what, .int .i64 num, .str v]], [] => some (szV v, .bool (nameOk fl && (inR num 1 1000000 && (baseOk ks ps && fitsV ks ps what v))), [])
  | _, _ => none⟩
end Lx
/- Functions, each with its contract. -/
set_option linter.unusedVariables false
set_option linter.unusedSimpArgs false
set_option maxRecDepth 4000
namespace Lx
open Go Go.Proofs
/-- spec.PlanFits -/
noncomputable def R_spec_PlanFits : RE Ty El := ⟨Tryz.prog, CP, [(g_spec_PlanBaseOk, E_spec_PlanBaseOk), (g_spec_l12Cut, E_spec_l12Cut), (g_spec_l11Kind, E_spec_l11Kind), (g_spec_l12TimeOk, E_spec_l12TimeOk), (g_spec_l12Number, E_spec_l12Number), (g_spec_l11In, E_spec_l11In), (g_spec_l12RouteOk, E_spec_l12RouteOk)], Tryz.f96, 0, [], []⟩
theorem R_spec_PlanFits_ok : REOK R_spec_PlanFits g_spec_PlanFits := ⟨CP_ok, (TabOK.cons E_spec_PlanBaseOk_ok (TabOK.cons E_spec_l12Cut_ok (TabOK.cons E_spec_l11Kind_ok (TabOK.cons E_spec_l12TimeOk_ok (TabOK.cons E_spec_l12Number_ok (TabOK.cons E_spec_l11In_ok (TabOK.cons E_spec_l12RouteOk_ok EOKnil))))))), by kernel_rfl, by kernel_rfl⟩
theorem t_spec_PlanFits (ks : List Kind) (ps : List Point) (what : Int) (v : Str) : aRun R_spec_PlanFits 600 false (body0 R_spec_PlanFits.fn) (initSt R_spec_PlanFits.fn [.agg [.sl .kind ks, .sl .point ps], .int .i64 what, .str v] []) =
  ifb (!baseOk ks ps) (some (.ret (.bool false) [])) (ifb (decide (List.length v ≤ (1000000000 : Nat))) (ifb (what == (1 : Int)) (ifb (decide (ks.length < (1000000000 : Nat))) (some (.ret (.bool (decide (idxF (fun p => p.name == v) ks ≥ (0 : Int)))) [])) (none)) (ifb (what == (2 : Int)) (some (.ret (.bool (timeOk (cutS (32 : Int) v))) [])) (ifb (what == (3 : Int)) (some (.ret (.bool (inR (numF v) (1 : Int) (6 : Int))) [])) (ifb (what == (4 : Int)) (ifb (decide (ps.length < (1000000000 : Nat))) (some (.ret (.bool (routeOk ps (cutS (32 : Int) v))) [])) (none)) (ifb (what == (5 : Int)) (ifb (v == #[(111 : UInt8), (112 : UInt8), (101 : UInt8), (110 : UInt8)].toList) (some (.ret (.bool true) [])) (some (.ret (.bool (v == #[(99 : UInt8), (108 : UInt8), (111 : UInt8), (115 : UInt8), (101 : UInt8), (100 : UInt8)].toList)) []))) (some (.ret (.bool false) []))))))) (none)) := by kernel_rfl
theorem c_spec_PlanFits (ks : List Kind) (ps : List Point) (what : Int) (v : Str) (hg : szV v = true) : CallOK Tryz.prog CP g_spec_PlanFits [.agg [.sl .kind ks, .sl .point ps], .int .i64 what, .str v] [] (.bool (baseOk ks ps && fitsV ks ps what v)) [] := by
  refine CallOK.of R_spec_PlanFits_ok (by kernel_rfl) (t_spec_PlanFits ks ps what v) ?_
  have hv : decide (v.length ≤ 1000000000) = true := hg
  refine Sat.ifb (fun h => ?_) (fun h => ?_)
  · refine Sat.retB ?_ rfl
    simp at h
    rw [h]; rfl
  · simp at h
    have hlen : ks.length < 1000000000 ∧ ps.length < 1000000000 := by
      simp only [baseOk, Bool.and_eq_true, decide_eq_true_eq] at h; omega
    rw [h, Bool.true_and]
    repeat' (first | (refine Sat.ifb (fun h => ?_) (fun h => ?_)))
    all_goals (first | (refine Sat.no ?_; simp_all; done) | (refine Sat.no ?_; simp_all; omega) | (refine Sat.retB ?_ rfl; simp_all [fitsV, kindIx, wOpen, wClosed]; done) | (refine Sat.retB ?_ rfl; simp_all [fitsV, kindIx, wOpen, wClosed]; rfl) | (refine Sat.retB ?_ rfl; simp_all [fitsV, kindIx, wOpen, wClosed]; congr))
theorem E_spec_PlanFits_ok : EntOK Tryz.prog CP g_spec_PlanFits E_spec_PlanFits := by
  refine ⟨⟨Tryz.f96, by kernel_rfl, by kernel_rfl, by kernel_rfl⟩, fun args H res H' h => ?_⟩
  simp only [E_spec_PlanFits] at h
  split at h
  · simp only [Option.some.injEq, Prod.mk.injEq] at h
    obtain ⟨hg, rfl, rfl⟩ := h
    exact c_spec_PlanFits _ _ _ _ hg
  · cases h

/-- spec.PlanChangeOk -/
noncomputable def R_spec_PlanChangeOk : RE Ty El := ⟨Tryz.prog, CP, [(g_spec_l11NameOk, E_spec_l11NameOk), (g_spec_l11In, E_spec_l11In), (g_spec_PlanFits, E_spec_PlanFits)], Tryz.f24, 0, [], []⟩
theorem R_spec_PlanChangeOk_ok : REOK R_spec_PlanChangeOk g_spec_PlanChangeOk := ⟨CP_ok, (TabOK.cons E_spec_l11NameOk_ok (TabOK.cons E_spec_l11In_ok (TabOK.cons E_spec_PlanFits_ok EOKnil))), by kernel_rfl, by kernel_rfl⟩
theorem t_spec_PlanChangeOk (ks : List Kind) (ps : List Point) (fl : Str) (what num : Int) (v : Str) : aRun R_spec_PlanChangeOk 600 false (body0 R_spec_PlanChangeOk.fn) (initSt R_spec_PlanChangeOk.fn [.agg [.sl .kind ks, .sl .point ps], .agg [.str fl, .int .i64 what, .int .i64 num, .str v]] []) =
  ifb (nameOk fl) (ifb (inR num (1 : Int) (1000000 : Int)) (ifb (szV v) (some (.ret (.bool (baseOk ks ps && fitsV ks ps what v)) [])) (none)) (some (.ret (.bool false) []))) (some (.ret (.bool false) [])) := by kernel_rfl
theorem c_spec_PlanChangeOk (ks : List Kind) (ps : List Point) (fl : Str) (what num : Int) (v : Str) (hg : szV v = true) : CallOK Tryz.prog CP g_spec_PlanChangeOk [.agg [.sl .kind ks, .sl .point ps], .agg [.str fl, .int .i64 what, .int .i64 num, .str v]] [] (.bool (nameOk fl && (inR num 1 1000000 && (baseOk ks ps && fitsV ks ps what v)))) [] := by
  refine CallOK.of R_spec_PlanChangeOk_ok (by kernel_rfl) (t_spec_PlanChangeOk ks ps fl what num v) ?_
  repeat' (first | (refine Sat.ifb (fun h => ?_) (fun h => ?_)) | (refine Sat.retB ?_ rfl; simp_all []; done) | (refine Sat.retI ?_ rfl; simp_all []; done))
  all_goals (first | (refine Sat.no ?_; simp_all; done) | (refine Sat.no ?_; simp_all; omega) | (refine Sat.retB ?_ rfl; simp_all []; omega) | (refine Sat.retI ?_ rfl; simp_all []; omega))
theorem E_spec_PlanChangeOk_ok : EntOK Tryz.prog CP g_spec_PlanChangeOk E_spec_PlanChangeOk := by
  refine ⟨⟨Tryz.f24, by kernel_rfl, by kernel_rfl, by kernel_rfl⟩, fun args H res H' h => ?_⟩
  simp only [E_spec_PlanChangeOk] at h
  split at h
  · simp only [Option.some.injEq, Prod.mk.injEq] at h
    obtain ⟨hg, rfl, rfl⟩ := h
    exact c_spec_PlanChangeOk _ _ _ _ _ _ hg
  · cases h
end Lx
/- Meanings: entries and books. -/
set_option linter.unusedVariables false
namespace Lx
open Go Go.Proofs
/-- As the spec says it: each change asks for the base again. -/
def fieldsGoS (ks : List Kind) (ps : List Point) (n : Str) : Option Int → List Fld → Bool
  | _, [] => true
  | prev, f :: fs => (nameOk n && (inR f.number 1 1000000 && (baseOk ks ps && fitsV ks ps f.what f.value))) && ((match prev with | none => true | some q => decide (q < f.what)) && fieldsGoS ks ps n (some f.what) fs)
theorem fieldsGoS_cons {ks : List Kind} {ps : List Point} {n : Str} {prev : Option Int} {f : Fld} {fs : List Fld} : fieldsGoS ks ps n prev (f :: fs) = ((nameOk n && (inR f.number 1 1000000 && (baseOk ks ps && fitsV ks ps f.what f.value))) && ((match prev with | none => true | some q => decide (q < f.what)) && fieldsGoS ks ps n (some f.what) fs)) := by cases prev <;> rfl
def entryOkS (ks : List Kind) (ps : List Point) (e : Entry) : Bool := nameOk e.name && (!decide (e.fields.length = 0) && fieldsGoS ks ps e.name none e.fields)
theorem fieldsGoS_eq {ks : List Kind} {ps : List Point} {n : Str} (h : baseOk ks ps = true) : ∀ (fs : List Fld) (prev : Option Int), fieldsGoS ks ps n prev fs = fieldsGo ks ps n prev fs
  | [], _ => rfl
  | f :: fs, prev => by cases prev <;> simp only [fieldsGoS, fieldsGo, fieldsGoS_eq h fs, changeV, h, Bool.true_and]
theorem entryOkS_eq {ks : List Kind} {ps : List Point} (h : baseOk ks ps = true) (e : Entry) : entryOkS ks ps e = entryOk ks ps e := by rw [entryOkS, entryOk, fieldsGoS_eq h]
def E_spec_l13EntryOk : Ent Ty El := ⟨[.ro, .ro], 0, fun a h => match a, h with
  | [.agg [.sl .kind ks, .sl .point ps], .agg [.str n, .sl .fld fs]], [] => some (szE ⟨n, fs⟩, .bool (entryOkS ks ps ⟨n, fs⟩), [])
  | _, _ => none⟩
def E_spec_PlanBookOk : Ent Ty El := ⟨[.ro], 0, fun a h => match a, h with
  | [.agg [.sl .kind ks, .sl .point ps, .sl .entry es]], [] => some (szB es, .bool (bookOk ks ps es), [])
  | _, _ => none⟩
end Lx
/- Functions, each with its contract. -/
set_option linter.unusedVariables false
set_option linter.unusedSimpArgs false
set_option maxRecDepth 4000
namespace Lx
open Go Go.Proofs
/-- spec.l13EntryOk -/
noncomputable def R_spec_l13EntryOk : RE Ty El := ⟨Tryz.prog, CP, [(g_spec_l11NameOk, E_spec_l11NameOk), (g_spec_PlanChangeOk, E_spec_PlanChangeOk)], Tryz.f141, 0, [], [(4, [(2, .any), (3, .any), (5, .any)])]⟩
theorem R_spec_l13EntryOk_ok : REOK R_spec_l13EntryOk g_spec_l13EntryOk := ⟨CP_ok, (TabOK.cons E_spec_l11NameOk_ok (TabOK.cons E_spec_PlanChangeOk_ok EOKnil)), by kernel_rfl, by kernel_rfl⟩
theorem t_spec_l13EntryOk (ks : List Kind) (ps : List Point) (n : Str) (fs : List Fld) : aRun R_spec_l13EntryOk 600 false (body0 R_spec_l13EntryOk.fn) (initSt R_spec_l13EntryOk.fn [.agg [.sl .kind ks, .sl .point ps], .agg [.str n, .sl .fld fs]] []) =
  ifb (!nameOk n) (some (.ret (.bool false) [])) (ifb ((↑fs.length : Int) == (0 : Int)) (some (.ret (.bool false) [])) (some (.go (todoAt R_spec_l13EntryOk.fn 4) [.ptr 0 0, .ptr 1 0, .int .i64 (0 : Int)] [.box [.sl .kind ks, .sl .point ps], .box [.str n, .sl .fld fs]]))) := by kernel_rfl
theorem t_spec_l13EntryOk_4 (x0 : Int) (x1 : List (El .kind)) (x2 : List (El .point)) (x3 : Str) (x4 : List (El .fld)) : aRun R_spec_l13EntryOk 600 true (todoAt R_spec_l13EntryOk.fn 4) (cutSt R_spec_l13EntryOk.fn (liveOf R_spec_l13EntryOk (todoAt R_spec_l13EntryOk.fn 4)) [.ptr 0 0, .ptr 1 0, .int .i64 x0] [.box [.sl .kind x1, .sl .point x2], .box [.str x3, .sl .fld x4]]) =
  ifb (decide (x0 < (↑x4.length : Int))) (ifb (inb x0 x4.length) (ifb (szV (x4.getD x0.toNat (R_spec_l13EntryOk.C.dflt Ty.fld)).value) (ifb (!(nameOk x3 && (inR (x4.getD x0.toNat (R_spec_l13EntryOk.C.dflt Ty.fld)).number (1 : Int) (1000000 : Int) && (baseOk x1 x2 && fitsV x1 x2 (x4.getD x0.toNat (R_spec_l13EntryOk.C.dflt Ty.fld)).what (x4.getD x0.toNat (R_spec_l13EntryOk.C.dflt Ty.fld)).value)))) (some (.ret (.bool false) [])) (ifb (decide (x0 > (0 : Int))) (ifb (inb (IntKind.i64.wrap (x0 - (1 : Int))) x4.length) (ifb (decide ((x4.getD (IntKind.i64.wrap (x0 - (1 : Int))).toNat (R_spec_l13EntryOk.C.dflt Ty.fld)).what ≥ (x4.getD x0.toNat (R_spec_l13EntryOk.C.dflt Ty.fld)).what)) (some (.ret (.bool false) [])) (some (.go (todoAt R_spec_l13EntryOk.fn 4) [.ptr 0 0, .ptr 1 0, .int .i64 (IntKind.i64.wrap (x0 + (1 : Int)))] [.box [.sl .kind x1, .sl .point x2], .box [.str x3, .sl .fld x4]]))) (none)) (some (.go (todoAt R_spec_l13EntryOk.fn 4) [.ptr 0 0, .ptr 1 0, .int .i64 (IntKind.i64.wrap (x0 + (1 : Int)))] [.box [.sl .kind x1, .sl .point x2], .box [.str x3, .sl .fld x4]])))) (none)) (none)) (some (.ret (.bool true) [])) := by kernel_rfl
theorem l_spec_l13EntryOk (ks : List Kind) (ps : List Point) (n : Str) (fs : List Fld) (hl : fs.length ≤ 1000000000) (hz : ∀ f ∈ fs, szV f.value = true) : ∀ (d i : Nat), i + d = fs.length → Cut R_spec_l13EntryOk g_spec_l13EntryOk 4 [.ptr 0 0, .ptr 1 0, .int .i64 (i : Int)] [.box [.sl .kind ks, .sl .point ps], .box [.str n, .sl .fld fs]] (.bool (fieldsGoS ks ps n ((fs.take i).getLast?.map (·.what)) (fs.drop i))) [] := by
  intro d
  induction d with
  | zero =>
    intro i hi
    refine Cut.of R_spec_l13EntryOk_ok rfl (t_spec_l13EntryOk_4 i ks ps n fs) ?_
    refine Sat.ifb (fun h => ?_) (fun h => ?_)
    · simp at h; omega
    · refine Sat.retB ?_ rfl
      rw [List.drop_of_length_le (by omega)]; rfl
  | succ d ih =>
    intro i hi
    refine Cut.of R_spec_l13EntryOk_ok rfl (t_spec_l13EntryOk_4 i ks ps n fs) ?_
    have hlt : i < fs.length := by omega
    have hw : IntKind.wrap .i64 ((i : Int) + 1) = ((i + 1 : Nat) : Int) := by rw [wrap_ok] <;> omega
    have hw1 : IntKind.wrap .i64 ((i : Int) - 1) = (i : Int) - 1 := by rw [wrap_ok] <;> omega
    have hd : fs.drop i = fs[i] :: fs.drop (i + 1) := List.drop_eq_getElem_cons hlt
    have hx : fs.getD (i : Int).toNat (R_spec_l13EntryOk.C.dflt .fld) = fs[i] := by simp [hlt]
    have hin : inb (i : Int) fs.length = true := by simp only [inb, Bool.and_eq_true, decide_eq_true_eq]; omega
    have hl : (fs.take (i + 1)).getLast? = some fs[i] := by rw [List.take_succ_eq_append_getElem hlt, List.getLast?_concat]
    have hsz : szV fs[i].value = true := hz _ (List.getElem_mem hlt)
    have ih' := ih (i + 1) (by omega)
    rw [hl, Option.map_some] at ih'
    rw [hw, hw1, hx, hd, fieldsGoS_cons]
    refine Sat.ifb (fun _ => ?_) (fun h => ?_)
    · refine Sat.ifb (fun _ => ?_) (fun h => ?_)
      · refine Sat.ifb (fun _ => ?_) (fun h => ?_)
        · refine Sat.ifb (fun h => ?_) (fun h => ?_)
          · refine Sat.retB ?_ rfl
            rw [Bool.not_eq_true'] at h
            skip
            rw [h]; rfl
          · rw [Bool.not_eq_false'] at h
            skip
            rw [h, Bool.true_and]
            refine Sat.ifb (fun h0 => ?_) (fun h0 => ?_)
            · have h0' : ((i : Int) > 0) := of_decide_eq_true h0
              have hi1 : i - 1 < fs.length := by omega
              have hx1 : fs.getD ((i : Int) - 1).toNat (R_spec_l13EntryOk.C.dflt .fld) = fs[i - 1] := by
                rw [show ((i : Int) - 1).toNat = i - 1 by omega]; simp [hi1]
              have hl1 : (fs.take i).getLast? = some fs[i - 1] := by
                have := List.take_succ_eq_append_getElem hi1
                rw [show i - 1 + 1 = i by omega] at this
                rw [this, List.getLast?_concat]
              rw [hx1, hl1]
              refine Sat.ifb (fun _ => ?_) (fun h => ?_)
              · refine Sat.ifb (fun h => ?_) (fun h => ?_)
                · refine Sat.retB ?_ rfl
                  have h' : fs[i - 1].what ≥ fs[i].what := of_decide_eq_true h
                  have : decide (fs[i - 1].what < fs[i].what) = false := by simp; omega
                  simp only [Option.map_some]
                  rw [this]; rfl
                · have h' : ¬ fs[i - 1].what ≥ fs[i].what := of_decide_eq_false h
                  have : decide (fs[i - 1].what < fs[i].what) = true := by simp; omega
                  simp only [Option.map_some]
                  rw [this, Bool.true_and]
                  exact Sat.cut ih'
              · have : inb ((i : Int) - 1) fs.length = true := by simp only [inb, Bool.and_eq_true, decide_eq_true_eq]; omega
                rw [this] at h; cases h
            · have h0' : ¬ ((i : Int) > 0) := of_decide_eq_false h0
              have : i = 0 := by omega
              subst this
              exact Sat.cut ih'
        · rw [hsz] at h; cases h
      · rw [hin] at h; cases h
    · simp at h; omega
theorem c_spec_l13EntryOk (ks : List Kind) (ps : List Point) (n : Str) (fs : List Fld) (hg : szE ⟨n, fs⟩ = true) : CallOK Tryz.prog CP g_spec_l13EntryOk [.agg [.sl .kind ks, .sl .point ps], .agg [.str n, .sl .fld fs]] [] (.bool (entryOkS ks ps ⟨n, fs⟩)) [] := by
  refine CallOK.of R_spec_l13EntryOk_ok (by kernel_rfl) (t_spec_l13EntryOk ks ps n fs) ?_
  have hg' := hg
  simp only [szE, Bool.and_eq_true, decide_eq_true_eq, List.all_eq_true] at hg'
  refine Sat.ifb (fun h => ?_) (fun h => ?_)
  · refine Sat.retB ?_ rfl
    rw [Bool.not_eq_true'] at h
    simp only [entryOkS]
    rw [h]; rfl
  · rw [Bool.not_eq_false'] at h
    refine Sat.ifb (fun h2 => ?_) (fun h2 => ?_)
    · refine Sat.retB ?_ rfl
      have : fs.length = 0 := by have := eq_of_beq h2; omega
      simp [entryOkS, this]
    · have : ¬ fs.length = 0 := fun e => by rw [e] at h2; simp at h2
      have key := l_spec_l13EntryOk ks ps n fs hg'.1 hg'.2 fs.length 0 (by omega)
      rw [show entryOkS ks ps ⟨n, fs⟩ = fieldsGoS ks ps n ((fs.take 0).getLast?.map (·.what)) (fs.drop 0) by simp only [entryOkS]; rw [h]; simp [this]]
      exact Sat.cut key
theorem E_spec_l13EntryOk_ok : EntOK Tryz.prog CP g_spec_l13EntryOk E_spec_l13EntryOk := by
  refine ⟨⟨Tryz.f141, by kernel_rfl, by kernel_rfl, by kernel_rfl⟩, fun args H res H' h => ?_⟩
  simp only [E_spec_l13EntryOk] at h
  split at h
  · simp only [Option.some.injEq, Prod.mk.injEq] at h
    obtain ⟨hg, rfl, rfl⟩ := h
    exact c_spec_l13EntryOk _ _ _ _ hg
  · cases h

/-- spec.PlanBookOk -/
noncomputable def R_spec_PlanBookOk : RE Ty El := ⟨Tryz.prog, CP, [(g_spec_PlanBaseOk, E_spec_PlanBaseOk), (g_spec_l13EntryOk, E_spec_l13EntryOk)], Tryz.f49, 0, [], [(4, [(1, .any), (3, .any)])]⟩
theorem R_spec_PlanBookOk_ok : REOK R_spec_PlanBookOk g_spec_PlanBookOk := ⟨CP_ok, (TabOK.cons E_spec_PlanBaseOk_ok (TabOK.cons E_spec_l13EntryOk_ok EOKnil)), by kernel_rfl, by kernel_rfl⟩
theorem t_spec_PlanBookOk (ks : List Kind) (ps : List Point) (es : List Entry) : aRun R_spec_PlanBookOk 600 false (body0 R_spec_PlanBookOk.fn) (initSt R_spec_PlanBookOk.fn [.agg [.sl .kind ks, .sl .point ps, .sl .entry es]] []) =
  ifb (!baseOk ks ps) (some (.ret (.bool false) [])) (ifb (decide ((↑es.length : Int) > (12 : Int))) (some (.ret (.bool false) [])) (some (.go (todoAt R_spec_PlanBookOk.fn 4) [.ptr 0 0, .int .i64 (0 : Int)] [.box [.sl .kind ks, .sl .point ps, .sl .entry es]]))) := by kernel_rfl
theorem t_spec_PlanBookOk_4 (x0 : Int) (x1 : List (El .kind)) (x2 : List (El .point)) (x3 : List (El .entry)) : aRun R_spec_PlanBookOk 600 true (todoAt R_spec_PlanBookOk.fn 4) (cutSt R_spec_PlanBookOk.fn (liveOf R_spec_PlanBookOk (todoAt R_spec_PlanBookOk.fn 4)) [.ptr 0 0, .int .i64 x0] [.box [.sl .kind x1, .sl .point x2, .sl .entry x3]]) =
  ifb (decide (x0 < (↑x3.length : Int))) (ifb (inb x0 x3.length) (ifb (szE (x3.getD x0.toNat (R_spec_PlanBookOk.C.dflt Ty.entry))) (ifb (!entryOkS x1 x2 (x3.getD x0.toNat (R_spec_PlanBookOk.C.dflt Ty.entry))) (some (.ret (.bool false) [])) (ifb (decide (x0 > (0 : Int))) (ifb (inb (IntKind.i64.wrap (x0 - (1 : Int))) x3.length) (ifb (inb x0 x3.length) (ifb (!bytesLt (x3.getD (IntKind.i64.wrap (x0 - (1 : Int))).toNat (R_spec_PlanBookOk.C.dflt Ty.entry)).name (x3.getD x0.toNat (R_spec_PlanBookOk.C.dflt Ty.entry)).name) (some (.ret (.bool false) [])) (some (.go (todoAt R_spec_PlanBookOk.fn 4) [.ptr 0 0, .int .i64 (IntKind.i64.wrap (x0 + (1 : Int)))] [.box [.sl .kind x1, .sl .point x2, .sl .entry x3]]))) (none)) (none)) (some (.go (todoAt R_spec_PlanBookOk.fn 4) [.ptr 0 0, .int .i64 (IntKind.i64.wrap (x0 + (1 : Int)))] [.box [.sl .kind x1, .sl .point x2, .sl .entry x3]])))) (none)) (none)) (some (.ret (.bool true) [])) := by kernel_rfl
theorem l_spec_PlanBookOk (ks : List Kind) (ps : List Point) (es : List Entry) (hbase : baseOk ks ps = true) (hl : es.length ≤ 1000000000) (hz : ∀ e ∈ es, szE e = true) : ∀ (d i : Nat), i + d = es.length → Cut R_spec_PlanBookOk g_spec_PlanBookOk 4 [.ptr 0 0, .int .i64 (i : Int)] [.box [.sl .kind ks, .sl .point ps, .sl .entry es]] (.bool (entriesGo ks ps ((es.take i).getLast?.map (·.name)) (es.drop i))) [] := by
  intro d
  induction d with
  | zero =>
    intro i hi
    refine Cut.of R_spec_PlanBookOk_ok rfl (t_spec_PlanBookOk_4 i ks ps es) ?_
    refine Sat.ifb (fun h => ?_) (fun h => ?_)
    · simp at h; omega
    · refine Sat.retB ?_ rfl
      rw [List.drop_of_length_le (by omega)]; rfl
  | succ d ih =>
    intro i hi
    refine Cut.of R_spec_PlanBookOk_ok rfl (t_spec_PlanBookOk_4 i ks ps es) ?_
    have hlt : i < es.length := by omega
    have hw : IntKind.wrap .i64 ((i : Int) + 1) = ((i + 1 : Nat) : Int) := by rw [wrap_ok] <;> omega
    have hw1 : IntKind.wrap .i64 ((i : Int) - 1) = (i : Int) - 1 := by rw [wrap_ok] <;> omega
    have hd : es.drop i = es[i] :: es.drop (i + 1) := List.drop_eq_getElem_cons hlt
    have hx : es.getD (i : Int).toNat (R_spec_PlanBookOk.C.dflt .entry) = es[i] := by simp [hlt]
    have hin : inb (i : Int) es.length = true := by simp only [inb, Bool.and_eq_true, decide_eq_true_eq]; omega
    have hl : (es.take (i + 1)).getLast? = some es[i] := by rw [List.take_succ_eq_append_getElem hlt, List.getLast?_concat]
    have hsz : szE es[i] = true := hz _ (List.getElem_mem hlt)
    have ih' := ih (i + 1) (by omega)
    rw [hl, Option.map_some] at ih'
    rw [hw, hw1, hx, hd, entriesGo]
    refine Sat.ifb (fun _ => ?_) (fun h => ?_)
    · refine Sat.ifb (fun _ => ?_) (fun h => ?_)
      · refine Sat.ifb (fun _ => ?_) (fun h => ?_)
        · refine Sat.ifb (fun h => ?_) (fun h => ?_)
          · refine Sat.retB ?_ rfl
            rw [Bool.not_eq_true'] at h
            rw [entryOkS_eq hbase] at h
            rw [h]; rfl
          · rw [Bool.not_eq_false'] at h
            rw [entryOkS_eq hbase] at h
            rw [h, Bool.true_and]
            refine Sat.ifb (fun h0 => ?_) (fun h0 => ?_)
            · have h0' : ((i : Int) > 0) := of_decide_eq_true h0
              have hi1 : i - 1 < es.length := by omega
              have hx1 : es.getD ((i : Int) - 1).toNat (R_spec_PlanBookOk.C.dflt .entry) = es[i - 1] := by
                rw [show ((i : Int) - 1).toNat = i - 1 by omega]; simp [hi1]
              have hl1 : (es.take i).getLast? = some es[i - 1] := by
                have := List.take_succ_eq_append_getElem hi1
                rw [show i - 1 + 1 = i by omega] at this
                rw [this, List.getLast?_concat]
              rw [hx1, hl1]
              refine Sat.ifb (fun _ => ?_) (fun h => ?_)
              · refine Sat.ifb (fun _ => ?_) (fun h => ?_)
                · refine Sat.ifb (fun h => ?_) (fun h => ?_)
                  · refine Sat.retB ?_ rfl
                    rw [Bool.not_eq_true'] at h
                    simp only [Option.map_some, afterB]
                    rw [h]; rfl
                  · rw [Bool.not_eq_false'] at h
                    simp only [Option.map_some, afterB]
                    rw [h, Bool.true_and]
                    exact Sat.cut ih'
                · rw [hin] at h; cases h
              · have : inb ((i : Int) - 1) es.length = true := by simp only [inb, Bool.and_eq_true, decide_eq_true_eq]; omega
                rw [this] at h; cases h
            · have h0' : ¬ ((i : Int) > 0) := of_decide_eq_false h0
              have : i = 0 := by omega
              subst this
              exact Sat.cut ih'
        · rw [hsz] at h; cases h
      · rw [hin] at h; cases h
    · simp at h; omega
theorem c_spec_PlanBookOk (ks : List Kind) (ps : List Point) (es : List Entry) (hg : szB es = true) : CallOK Tryz.prog CP g_spec_PlanBookOk [.agg [.sl .kind ks, .sl .point ps, .sl .entry es]] [] (.bool (bookOk ks ps es)) [] := by
  refine CallOK.of R_spec_PlanBookOk_ok (by kernel_rfl) (t_spec_PlanBookOk ks ps es) ?_
  have hg' := hg
  simp only [szB, Bool.and_eq_true, decide_eq_true_eq, List.all_eq_true] at hg'
  refine Sat.ifb (fun h => ?_) (fun h => ?_)
  · refine Sat.retB ?_ rfl
    rw [Bool.not_eq_true'] at h
    simp only [bookOk]
    rw [h]; rfl
  · rw [Bool.not_eq_false'] at h
    refine Sat.ifb (fun h2 => ?_) (fun h2 => ?_)
    · refine Sat.retB ?_ rfl
      have : ¬ es.length ≤ 12 := by have := of_decide_eq_true h2; omega
      simp [bookOk, this]
    · have h12 : es.length ≤ 12 := by have := of_decide_eq_false h2; omega
      have key := l_spec_PlanBookOk ks ps es h hg'.1 hg'.2 es.length 0 (by omega)
      rw [show bookOk ks ps es = entriesGo ks ps ((es.take 0).getLast?.map (·.name)) (es.drop 0) by simp [bookOk, h, h12]]
      exact Sat.cut key
theorem E_spec_PlanBookOk_ok : EntOK Tryz.prog CP g_spec_PlanBookOk E_spec_PlanBookOk := by
  refine ⟨⟨Tryz.f49, by kernel_rfl, by kernel_rfl, by kernel_rfl⟩, fun args H res H' h => ?_⟩
  simp only [E_spec_PlanBookOk] at h
  split at h
  · simp only [Option.some.injEq, Prod.mk.injEq] at h
    obtain ⟨hg, rfl, rfl⟩ := h
    exact c_spec_PlanBookOk _ _ _ hg
  · cases h
end Lx
/- Meanings: the reader. -/
set_option linter.unusedVariables false
namespace Lx
open Go Go.Proofs
def E_spec_l17At : Ent Ty El := ⟨[.ro, .ro], 0, fun a h => match a, h with
  | [.agg [.sl .kind ks, .sl .point ps], .str n], [] => some (decide (ps.length < 1000000000) && decide (0 ≤ pointIx ps n), .agg [.int .i64 (ps.getD (pointIx ps n).toNat default).x, .int .i64 (ps.getD (pointIx ps n).toNat default).y], [])
  | _, _ => none⟩
def E_spec_l11Open : Ent Ty El := ⟨[.ro], 1, fun a h => match a, h with
  | [.sl .u8 c], [] => some (true, .ptr 0 0, [.box [.sl .u8 (c.take 2000), .int .i64 0]])
  | _, _ => none⟩
def wr (n : Int) : Int := IntKind.wrap .i64 n
def pickX (bs : List Int) (k : Int) : Int :=
  wr (wr (wr (wr (wr (bs.getD (k.tmod bs.length).toNat (dfltP .u8)) * 131) + wr (wr (bs.getD ((wr (wr (k * 7) + 3)).tmod bs.length).toNat (dfltP .u8)) * 1117)) + wr (k * 29)) + wr (wr (k.tdiv bs.length) * 53))
def pickV (bs : List Int) (p n : Int) : Int :=
  if n < 1 then 0 else if (bs.length : Int) = 0 then 0 else if p < bs.length then (wr (bs.getD p.toNat (dfltP .u8))).tmod n
  else (wr ((BitVec.ofInt 64 (pickX bs p) ^^^ BitVec.ofInt 64 (wr ((pickX bs p).tdiv 64))).toNat : Int)).tmod n
def posOk (p : Int) : Bool := decide (0 ≤ p) && decide (p < 1000000)
def E_spec_l11Rd_pick : Ent Ty El := ⟨[.io, .ro], 0, fun a h => match a, h with
  | [.ptr 0 0, .int .i64 n], [.box [.sl .u8 bs, .int .i64 p]] => some (posOk p, .int .i64 (pickV bs p n), [.box [.sl .u8 bs, .int .i64 (p + 1)]])
  | _, _ => none⟩
end Lx
/- Functions, each with its contract. -/
set_option linter.unusedVariables false
set_option linter.unusedSimpArgs false
set_option maxRecDepth 4000
namespace Lx
open Go Go.Proofs
/-- spec.l17At -/
noncomputable def R_spec_l17At : RE Ty El := ⟨Tryz.prog, CP, [(g_spec_l11Point, E_spec_l11Point)], Tryz.f125, 0, [], []⟩
theorem R_spec_l17At_ok : REOK R_spec_l17At g_spec_l17At := ⟨CP_ok, (TabOK.cons E_spec_l11Point_ok EOKnil), by kernel_rfl, by kernel_rfl⟩
theorem t_spec_l17At (ks : List Kind) (ps : List Point) (n : Str) : aRun R_spec_l17At 600 false (body0 R_spec_l17At.fn) (initSt R_spec_l17At.fn [.agg [.sl .kind ks, .sl .point ps], .str n] []) =
  ifb (decide (ps.length < (1000000000 : Nat))) (ifb (inb (idxF (fun p => p.name == n) ps) ps.length) (some (.ret (.agg [.int .i64 ((ps.getD (idxF (fun p => p.name == n) ps).toNat (R_spec_l17At.C.dflt Ty.point)).x), .int .i64 ((ps.getD (idxF (fun p => p.name == n) ps).toNat (R_spec_l17At.C.dflt Ty.point)).y)]) [])) (none)) (none) := by kernel_rfl
theorem c_spec_l17At (ks : List Kind) (ps : List Point) (n : Str) (hg : (decide (ps.length < 1000000000) && decide (0 ≤ pointIx ps n)) = true) : CallOK Tryz.prog CP g_spec_l17At [.agg [.sl .kind ks, .sl .point ps], .str n] [] (.agg [.int .i64 (ps.getD (pointIx ps n).toNat default).x, .int .i64 (ps.getD (pointIx ps n).toNat default).y]) [] := by
  refine CallOK.of R_spec_l17At_ok (by kernel_rfl) (t_spec_l17At ks ps n) ?_
  simp only [Bool.and_eq_true] at hg
  obtain ⟨hl, hp⟩ := hg
  refine Sat.ifb (fun _ => ?_) (fun h => ?_)
  · refine Sat.ifb (fun _ => ?_) (fun h => ?_)
    · exact Sat.ret rfl rfl
    · refine Sat.no ?_
      have h1 := of_decide_eq_true hp
      have h2 := idxF_lt (p := fun q : Point => q.name == n) (l := ps)
      have h3 : pointIx ps n = idxF (fun q : Point => q.name == n) ps := rfl
      have : inb (idxF (fun p => p.name == n) ps) ps.length = true := by simp only [inb, Bool.and_eq_true, decide_eq_true_eq]; omega
      rw [this] at h; cases h
  · rw [hl] at h; cases h
theorem E_spec_l17At_ok : EntOK Tryz.prog CP g_spec_l17At E_spec_l17At := by
  refine ⟨⟨Tryz.f125, by kernel_rfl, by kernel_rfl, by kernel_rfl⟩, fun args H res H' h => ?_⟩
  simp only [E_spec_l17At] at h
  split at h
  · simp only [Option.some.injEq, Prod.mk.injEq] at h
    obtain ⟨hg, rfl, rfl⟩ := h
    exact c_spec_l17At _ _ _ hg
  · cases h

/-- spec.l11Open -/
noncomputable def R_spec_l11Open : RE Ty El := ⟨Tryz.prog, CP, [], Tryz.f80, 0, [], []⟩
/-- (*spec.l11Rd).pick -/
noncomputable def R_spec_l11Rd_pick : RE Ty El := ⟨Tryz.prog, CP, [], Tryz.f83, 1, [], []⟩
end Lx
/- What a pick can be. -/
set_option linter.unusedVariables false
namespace Lx
open Go Go.Proofs
def bytesOk (bs : List Int) : Bool := bs.all fun b => decide (0 ≤ b) && decide (b ≤ 255)
end Lx
/- Meanings: one of a list. -/
set_option linter.unusedVariables false
namespace Lx
open Go Go.Proofs
def rdOk (bs : List Int) (p : Int) : Bool := bytesOk bs && posOk p
def ofV (bs : List Int) (p : Int) (l : List Str) : Str := l.getD (pickV bs p l.length).toNat []
def E_spec_l11Rd_of : Ent Ty El := ⟨[.io, .ro], 0, fun a h => match a, h with
  | [.ptr 0 0, .sl .str l], [.box [.sl .u8 bs, .int .i64 p]] => some (rdOk bs p && decide (0 < l.length), .str (ofV bs p l), [.box [.sl .u8 bs, .int .i64 (p + 1)]])
  | _, _ => none⟩
end Lx
/- Functions, each with its contract. -/
set_option linter.unusedVariables false
set_option linter.unusedSimpArgs false
set_option maxRecDepth 4000
namespace Lx
open Go Go.Proofs
/-- (*spec.l11Rd).of -/
noncomputable def R_spec_l11Rd_of : RE Ty El := ⟨Tryz.prog, CP, [(g_spec_l11Rd_pick, E_spec_l11Rd_pick)], Tryz.f113, 1, [], []⟩
end Lx
/- Meanings: names drawn. -/
set_option linter.unusedVariables false
namespace Lx
open Go Go.Proofs
def names16 : List Str := [[107, 108, 49], [107, 108, 49], [107, 108, 49], [98, 97, 45, 50], [108, 104, 51], [120], [110, 111, 110, 101], []]
def E_spec_l16Name : Ent Ty El := ⟨[.io], 0, fun a h => match a, h with
  | [.ptr 0 0], [.box [.sl .u8 bs, .int .i64 p]] => some (rdOk bs p, .str (ofV bs p names16), [.box [.sl .u8 bs, .int .i64 (p + 1)]])
  | _, _ => none⟩
end Lx
/- Functions, each with its contract. -/
set_option linter.unusedVariables false
set_option linter.unusedSimpArgs false
set_option maxRecDepth 4000
namespace Lx
open Go Go.Proofs
/-- spec.l16Name -/
noncomputable def R_spec_l16Name : RE Ty El := ⟨Tryz.prog, CP, [(g_spec_l11Rd_of, E_spec_l11Rd_of)], Tryz.f82, 1, [], []⟩
end Lx
/- Meanings: a part of a leg. -/
set_option linter.unusedVariables false
namespace Lx
open Go Go.Proofs
def partF (d k n : Int) : Int := (2 * k * d + n) / (2 * n)
def partOk (d k n : Int) : Bool := (decide (-1000 ≤ d) && decide (d ≤ 1000)) && ((decide (0 ≤ k) && decide (k ≤ 1000)) && (decide (0 < n) && decide (n ≤ 1000)))
def E_spec_l17Part : Ent Ty El := ⟨[.ro, .ro, .ro], 0, fun a h => match a, h with
  | [.int .i64 d, .int .i64 k, .int .i64 n], [] => some (partOk d k n, .int .i64 (partF d k n), [])
  | _, _ => none⟩
theorem tdiv_floor {x y : Int} (hy : 0 < y) : x / y = if x < 0 ∧ x.tdiv y * y ≠ x then x.tdiv y - 1 else x.tdiv y := by
  have h2 := Int.mul_ediv_add_emod x y
  have h6 := Int.tdiv_eq_ediv (a := x) (b := y)
  have hs : y.sign = 1 := Int.sign_eq_one_of_pos hy
  by_cases hx0 : 0 ≤ x
  · simp only [hx0, true_or, if_true] at h6
    rw [if_neg (by omega)]; omega
  · by_cases hd : y ∣ x
    · simp only [hd, or_true, if_true] at h6
      have : x.tdiv y * y = x := Int.tdiv_mul_cancel hd
      rw [if_neg (by simp [this])]; omega
    · simp only [hd, hx0, or_self, if_false, hs] at h6
      have : x.tdiv y * y ≠ x := fun e => hd ⟨x.tdiv y, by rw [Int.mul_comm]; exact e.symm⟩
      rw [if_pos ⟨by omega, this⟩]; omega
end Lx
/- What the library's functions do, as contracts of the evaluator's: the bridge. -/
set_option linter.unusedVariables false
set_option linter.unusedSimpArgs false
namespace Lx
open Go
section
variable {Ty : Type} {El : Ty → Type} {C : Cod Ty El} {P : Program}

/-- A call that writes into nothing that was there, and answers with what hangs on new memory alone. -/
theorem CallOK.quiet {g : FuncId} {args : List (AV Ty El)} {res : AV Ty El} (hC : CodOK P C) (hc : ∀ (w : World) (N : Nm) (vs : Array Value), vs.size = args.length → (∀ (j : Nat) v x, vs[j]? = some v → args[j]? = some x → RepA C N w v x) →
    Calls P g vs w fun en w' => ∃ v, en = .returned v ∧ Fr w w' (fun _ => False) ∧ ∀ N' : Nm, (∀ b, N.ro b → N'.ro b) → (∀ b, w.heap.size ≤ b → b < w'.heap.size → N'.ro b) → RepA C N' w' v res) : CallOK P C g args [] res [] := by
  intro w N vs hH hsz hrep
  refine (hc w N vs hsz hrep).mono ?_
  rintro en w' ⟨v, rfl, hF, hr⟩
  have hno : ∀ k b, ¬ N.F k b := fun k b hb => by
    have := hH.obj k
    exact this b hb
  have hnG : ∀ r p v u, ¬ N.G r p v u := fun r p v u hg => hH.reg r p v u hg
  refine ⟨v, { N with ro := fun b => N.ro b ∨ (w.heap.size ≤ b ∧ b < w'.heap.size) }, rfl, ⟨fun k => ?_, fun r p v u hg => (hnG r p v u hg).elim, fun r => trivial, fun r p v u hg => (hnG r p v u hg).elim, fun r r' b h => (hno r b h).elim, fun r b h => (hno r b h).elim, fun b hb => ?_⟩, hr _ (fun b hb => .inl hb) (fun b h1 h2 => .inr ⟨h1, h2⟩), fun k hk => (by simp at hk), fun b hb => .inl hb, fun b hb => hb.imp id (fun h => .inl h.1), ⟨hF.os, hF.tape, hF.output, hF.size, fun b hb _ => hF.block b hb (fun h => h)⟩, fun k b hb => (hno k b hb).elim⟩
  · exact fun b hb => hno k b hb
  · rcases hb with hb | hb
    · exact Nat.lt_of_lt_of_le (hH.roLt b hb) hF.size
    · exact hb.2

theorem Fr.trans' {w0 w1 w2 : World} (h : Fr w0 w1 (fun _ => False)) (h' : Fr w1 w2 (fun _ => False)) : Fr w0 w2 (fun _ => False) :=
  ⟨h'.os.trans h.os, h'.tape.trans h.tape, h'.output.trans h.output, Nat.le_trans h.size h'.size, fun b hb _ => (h'.block b (Nat.lt_of_lt_of_le hb h.size) (fun h => h)).trans (h.block b hb (fun h => h))⟩
theorem Fr.alloc (w : World) (o : Obj) : Fr w (w.alloc o) (fun _ => False) := ⟨rfl, rfl, rfl, by rw [alloc_size]; omega, fun b hb _ => alloc_old w o hb⟩

/-- One string among the arguments. -/
theorem arg_str {N : Nm} {w : World} {vs : Array Value} {args : List (AV Ty El)} (h : ∀ (j : Nat) v x, vs[j]? = some v → args[j]? = some x → RepA C N w v x) (hsz : vs.size = args.length) {j : Nat} {l : List UInt8} (hj : args[j]? = some (.str l)) : ∃ s : ByteArray, vs[j]? = some (.string s) ∧ s.data.toList = l := by
  have hlt : j < vs.size := by rw [hsz]; exact (List.getElem?_eq_some_iff.1 hj).1
  have hv : vs[j]? = some vs[j] := Array.getElem?_eq_getElem hlt
  obtain ⟨s, e, hs⟩ := (h j _ _ hv hj).inv_str
  exact ⟨s, by rw [hv, e], hs⟩
theorem arg_int {N : Nm} {w : World} {vs : Array Value} {args : List (AV Ty El)} (h : ∀ (j : Nat) v x, vs[j]? = some v → args[j]? = some x → RepA C N w v x) (hsz : vs.size = args.length) {j : Nat} {k : IntKind} {n : Int} (hj : args[j]? = some (.int k n)) : vs[j]? = some (.int k n) := by
  have hlt : j < vs.size := by rw [hsz]; exact (List.getElem?_eq_some_iff.1 hj).1
  have hv : vs[j]? = some vs[j] := Array.getElem?_eq_getElem hlt
  rw [hv, (h j _ _ hv hj).inv_int]
theorem arr1 {vs : Array Value} {a : Value} (hsz : vs.size = 1) (h0 : vs[0]? = some a) : vs = #[a] := by
  apply Array.ext_getElem?
  intro i
  match i with
  | 0 => exact h0
  | i + 1 => rw [Array.getElem?_eq_none (by omega), Array.getElem?_eq_none (by simp)]
theorem arr2 {vs : Array Value} {a b : Value} (hsz : vs.size = 2) (h0 : vs[0]? = some a) (h1 : vs[1]? = some b) : vs = #[a, b] := by
  apply Array.ext_getElem?
  intro i
  match i with
  | 0 => exact h0
  | 1 => exact h1
  | i + 2 => rw [Array.getElem?_eq_none (by omega), Array.getElem?_eq_none (by simp)]
theorem arr4 {vs : Array Value} {a b c d : Value} (hsz : vs.size = 4) (h0 : vs[0]? = some a) (h1 : vs[1]? = some b) (h2 : vs[2]? = some c) (h3 : vs[3]? = some d) : vs = #[a, b, c, d] := by
  apply Array.ext_getElem?
  intro i
  match i with
  | 0 => exact h0
  | 1 => exact h1
  | 2 => exact h2
  | 3 => exact h3
  | i + 4 => rw [Array.getElem?_eq_none (by omega), Array.getElem?_eq_none (by simp)]
theorem ba_ext {s t : ByteArray} (h : s.data.toList = t.data.toList) : s = t := by
  obtain ⟨⟨l⟩⟩ := s
  obtain ⟨⟨m⟩⟩ := t
  simp at h
  subst h; rfl

/-- A new row of strings, read. -/
theorem RepA.newStrs (hC : CodOK P C) {T : Ty} {f : El T → List UInt8} {g : List UInt8 → El T} (hT : ∀ x, C.row T x = [.str (f x)]) (hfg : ∀ l, f (g l) = l) {N : Nm} {w : World} {t : TypeId} {ss : List ByteArray} {n cap : Nat} {arr : Array Value} (hn : n = ss.length) (hcap : n ≤ cap) (hro : N.ro w.heap.size)
    (harr : ∀ (i : Nat) s, ss[i]? = some s → arr[i]? = some (.string s)) : RepA C N (w.alloc (.cells arr t)) (.slice (some ⟨w.heap.size, 0, none⟩) n cap) (.sl T (ss.map fun s => g s.data.toList)) := by
  have hsz : C.sz T = 1 := by unfold Cod.sz; rw [hT]; rfl
  refine .sl T _ w.heap.size 0 n cap (fun i j => arr.getD i undef) (by simpa using hn) hcap hro (fun i j hi hj => ?_) (fun i j c hi hc => ?_)
  · rw [hsz] at hj ⊢
    obtain rfl : j = 0 := by omega
    have hs := harr i _ (List.getElem?_eq_getElem (hn ▸ hi))
    have hlt := (Array.getElem?_eq_some_iff.1 hs).1
    unfold World.cell?
    rw [alloc_new]
    simp only [Nat.mul_one, Nat.add_zero, Nat.zero_add]
    rw [Array.getElem?_eq_getElem hlt]
    simp [Array.getD, hlt]
  · rw [hT] at hc
    have hj0 : j = 0 := by
      have := (List.getElem?_eq_some_iff.1 hc).1
      simp at this; omega
    subst hj0
    simp only [List.getElem?_cons_zero, Option.some.injEq] at hc
    subst hc
    have hi' : i < ss.length := hn ▸ hi
    have hs := harr i _ (List.getElem?_eq_getElem hi')
    have hlt := (Array.getElem?_eq_some_iff.1 hs).1
    have e : arr.getD i undef = .string ss[i] := by
      simp [Array.getD, hlt, (Array.getElem?_eq_some_iff.1 hs).2]
    show RepA C N _ (arr.getD i undef) _
    rw [e]
    refine .str _ _ ?_
    simp [List.getD, hi', hfg]
end
end Lx
