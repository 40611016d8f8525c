/- Marks written into what was handed over; looked for. -/
import Derived.Test.YtefjaihaocdpcaaGreatDoorLdhbhklibii
import Derived.Test.YtefjaihaocdpcaaGreatDoorLhclobejdah
set_option linter.unusedVariables false
set_option linter.unusedSimpArgs false
set_option maxRecDepth 4000
namespace Lx
open Go Go.Proofs
/-- laws.markText -/
noncomputable def R_laws_markText : RE Ty El := ⟨Tryz.prog, CP, [], Tryz.f165, 0, [], [(4, [(0, .any), (3, .any)])]⟩
theorem R_laws_markText_ok : REOK R_laws_markText g_laws_markText := ⟨CP_ok, EOKnil, by kernel_rfl, by kernel_rfl⟩
theorem t_laws_markText (k : Int) : aRun R_laws_markText 600 false (body0 R_laws_markText.fn) (initSt R_laws_markText.fn [.int .i64 k] []) =
  ifb (decide (k ≤ (0 : Int))) (some (.ret (.str (#[(109 : UInt8), (48 : UInt8)].toList)) [])) (some (.go (todoAt R_laws_markText.fn 4) [.int .i64 k, .str #[].toList] [])) := by kernel_rfl
theorem t_laws_markText_4 (x0 : Int) (x1 : Str) : aRun R_laws_markText 600 true (todoAt R_laws_markText.fn 4) (cutSt R_laws_markText.fn (liveOf R_laws_markText (todoAt R_laws_markText.fn 4)) [.int .i64 x0, .str x1] []) =
  ifb (decide (x0 > (0 : Int))) (ifb (decide ((List.map (fun n => UInt8.ofNat n.toNat) (List.map (fun n => n) [IntKind.u8.wrap (IntKind.i64.wrap ((48 : Int) + x0.tmod (10 : Int)))])).length + List.length x1 ≤ (9223372036854775807 : Nat))) (some (.go (todoAt R_laws_markText.fn 4) [.int .i64 (IntKind.i64.wrap (x0.tdiv (10 : Int))), .str (List.map (fun n => UInt8.ofNat n.toNat) (List.map (fun n => n) [IntKind.u8.wrap (IntKind.i64.wrap ((48 : Int) + x0.tmod (10 : Int)))]) ++ x1)] [])) (none)) (ifb (decide (#[(109 : UInt8)].toList.length + List.length x1 ≤ (9223372036854775807 : Nat))) (some (.ret (.str (#[(109 : UInt8)].toList ++ x1)) [])) (none)) := by kernel_rfl
theorem l_laws_markText : ∀ (f : Nat) (k : Int) (o : Str), k < 10 ^ f → f ≤ 19 → o.length + f ≤ 40 →
    Cut R_laws_markText g_laws_markText 4 [.int .i64 k, .str o] [] (.str (109 :: decGo f k o)) [] := by
  intro f
  induction f with
  | zero =>
    intro k o hk _ ho
    refine Cut.of R_laws_markText_ok rfl (t_laws_markText_4 k o) ?_
    rw [show decide (k > 0) = false from decide_eq_false (by simp at hk; omega)]
    rw [show decide ((#[(109 : UInt8)].toList).length + List.length o ≤ 9223372036854775807) = true from decide_eq_true (by simp; omega)]
    exact Sat.ret rfl rfl
  | succ f ih =>
    intro k o hk hf ho
    refine Cut.of R_laws_markText_ok rfl (t_laws_markText_4 k o) ?_
    by_cases h0 : k > 0
    · rw [show decide (k > 0) = true from decide_eq_true h0, decGo, if_pos h0]
      have hp : (10 : Int) ^ (f + 1) = 10 ^ f * 10 := by rw [Int.pow_succ]
      have hb : (10 : Int) ^ f ≤ 10 ^ 18 := by exact_mod_cast Nat.pow_le_pow_right (by omega) (by omega)
      have h18 : (10 : Int) ^ 18 = 1000000000000000000 := by decide
      have ht : k.tdiv 10 = k / 10 := Int.tdiv_eq_ediv_of_nonneg (by omega)
      have hlt : k / 10 < 10 ^ f := by omega
      have hw : IntKind.wrap .i64 (k.tdiv 10) = k.tdiv 10 := by rw [wrap_ok] <;> omega
      rw [show decide ((List.map (fun n => UInt8.ofNat n.toNat) (List.map (fun n => n) [IntKind.u8.wrap (IntKind.i64.wrap ((48 : Int) + k.tmod (10 : Int)))])).length + List.length o ≤ 9223372036854775807) = true from decide_eq_true (by simp; omega)]
      rw [hw]
      exact Sat.cut (ih (k.tdiv 10) (digT k :: o) (by rw [ht]; exact hlt) (by omega) (by simp; omega))
    · rw [show decide (k > 0) = false from decide_eq_false h0, decGo, if_neg h0]
      rw [show decide ((#[(109 : UInt8)].toList).length + List.length o ≤ 9223372036854775807) = true from decide_eq_true (by simp; omega)]
      exact Sat.ret rfl rfl
theorem c_laws_markText (k : Int) : CallOK Tryz.prog CP g_laws_markText [.int .i64 k] [] (.str (markT k)) [] := by
  refine CallOK.of R_laws_markText_ok (by kernel_rfl) (t_laws_markText k) ?_
  unfold markT
  by_cases h0 : k ≤ 0
  · rw [decide_eq_true h0, if_pos h0]; exact Sat.ret rfl rfl
  rw [decide_eq_false h0, if_neg h0]
  refine Sat.cut (Cut.of R_laws_markText_ok rfl (t_laws_markText_4 k _) ?_)
  rw [show decide (k > 0) = true from decide_eq_true (by omega), decGo, if_pos (by omega)]
  have hl := wrap_lt (k.tdiv 10)
  have h10 : (10 : Int) ^ 19 = 10000000000000000000 := by decide
  have h19 : IntKind.wrap .i64 (k.tdiv 10) < (10 : Int) ^ 19 := by rw [h10]; omega
  rw [show decide ((List.map (fun n => UInt8.ofNat n.toNat) (List.map (fun n => n) [IntKind.u8.wrap (IntKind.i64.wrap ((48 : Int) + k.tmod (10 : Int)))])).length + List.length (#[].toList : List UInt8) ≤ 9223372036854775807) = true from decide_eq_true (by simp)]
  have := l_laws_markText 19 (IntKind.wrap .i64 (k.tdiv 10)) (digT k :: []) h19 (by omega) (by simp)
  exact Sat.cut this
theorem E_laws_markText_ok : EntOK Tryz.prog CP g_laws_markText E_laws_markText := by
  refine ⟨⟨Tryz.f165, by kernel_rfl, by kernel_rfl, by kernel_rfl⟩, fun args H res H' h => ?_⟩
  simp only [E_laws_markText] at h
  split at h
  · simp only [Option.some.injEq, Prod.mk.injEq] at h
    obtain ⟨hg, rfl, rfl⟩ := h
    exact c_laws_markText _
  · cases h

/-- laws.markPlanKindS -/
noncomputable def R_laws_markPlanKindS : RE Ty El := ⟨Tryz.prog, CP, [(g_laws_markText, E_laws_markText)], Tryz.f209, 1, [], [(2, [(0, .any), (1, .any), (5, .any)]), (6, [(0, .any), (1, .any), (5, .any)]), (8, [(0, .any), (1, .any), (5, .any)])]⟩
theorem R_laws_markPlanKindS_ok : REOK R_laws_markPlanKindS g_laws_markPlanKindS := ⟨CP_ok, (TabOK.cons E_laws_markText_ok EOKnil), by kernel_rfl, by kernel_rfl⟩
theorem t_laws_markPlanKindS (l : List Kind) (k : Int) : aRun R_laws_markPlanKindS 600 false (body0 R_laws_markPlanKindS.fn) (initSt R_laws_markPlanKindS.fn [.own 0 [] 0, .int .i64 k] [.row .kind l 0 0 0 .no]) =
  some (.go (todoAt R_laws_markPlanKindS.fn 2) [.own 0 [] 0, .int .i64 k, .int .i64 (0 : Int)] [.row .kind l 0 0 0 .no]) := by kernel_rfl
theorem t_laws_markPlanKindS_2 (x0 : Int) (x1 : Int) (x2 : List (El .kind)) : aRun R_laws_markPlanKindS 600 true (todoAt R_laws_markPlanKindS.fn 2) (cutSt R_laws_markPlanKindS.fn (liveOf R_laws_markPlanKindS (todoAt R_laws_markPlanKindS.fn 2)) [.own 0 [] 0, .int .i64 x0, .int .i64 x1] [.row .kind x2 0 0 0 .no]) =
  ifb (decide (x1 < (↑x2.length : Int))) (ifb (inb x1 x2.length) (some (.go (todoAt R_laws_markPlanKindS.fn 6) [.own 0 [] 0, .int .i64 (IntKind.i64.wrap (x0 + (1 : Int))), .int .i64 x1] [.row .kind (x2.set x1.toNat (Kind.mk (markT x0) (x2.getD x1.toNat (R_laws_markPlanKindS.C.dflt Ty.kind)).quick (x2.getD x1.toNat (R_laws_markPlanKindS.C.dflt Ty.kind)).slow)) 0 0 0 .no])) (none)) (some (.ret (.int .i64 x0) [.row .kind x2 0 0 0 .no])) := by kernel_rfl
theorem t_laws_markPlanKindS_6 (x0 : Int) (x1 : Int) (x2 : List (El .kind)) : aRun R_laws_markPlanKindS 600 true (todoAt R_laws_markPlanKindS.fn 6) (cutSt R_laws_markPlanKindS.fn (liveOf R_laws_markPlanKindS (todoAt R_laws_markPlanKindS.fn 6)) [.own 0 [] 0, .int .i64 x0, .int .i64 x1] [.row .kind x2 0 0 0 .no]) =
  ifb (inb x1 x2.length) (some (.go (todoAt R_laws_markPlanKindS.fn 8) [.own 0 [] 0, .int .i64 (IntKind.i64.wrap (x0 + (1 : Int))), .int .i64 x1] [.row .kind (x2.set x1.toNat (Kind.mk (x2.getD x1.toNat (R_laws_markPlanKindS.C.dflt Ty.kind)).name x0 (x2.getD x1.toNat (R_laws_markPlanKindS.C.dflt Ty.kind)).slow)) 0 0 0 .no])) (none) := by kernel_rfl
theorem t_laws_markPlanKindS_8 (x0 : Int) (x1 : Int) (x2 : List (El .kind)) : aRun R_laws_markPlanKindS 600 true (todoAt R_laws_markPlanKindS.fn 8) (cutSt R_laws_markPlanKindS.fn (liveOf R_laws_markPlanKindS (todoAt R_laws_markPlanKindS.fn 8)) [.own 0 [] 0, .int .i64 x0, .int .i64 x1] [.row .kind x2 0 0 0 .no]) =
  ifb (inb x1 x2.length) (some (.go (todoAt R_laws_markPlanKindS.fn 2) [.own 0 [] 0, .int .i64 (IntKind.i64.wrap (x0 + (1 : Int))), .int .i64 (IntKind.i64.wrap (x1 + (1 : Int)))] [.row .kind (x2.set x1.toNat (Kind.mk (x2.getD x1.toNat (R_laws_markPlanKindS.C.dflt Ty.kind)).name (x2.getD x1.toNat (R_laws_markPlanKindS.C.dflt Ty.kind)).quick x0)) 0 0 0 .no])) (none) := by kernel_rfl
theorem l_laws_markPlanKindS : ∀ (rest dn : List Kind) (k : Int), dn.length + rest.length ≤ 1000000000 → True →
    Cut R_laws_markPlanKindS g_laws_markPlanKindS 2 [.own 0 [] 0, .int .i64 k, .int .i64 (dn.length : Int)] [.row .kind (dn ++ rest) 0 0 0 .no] (.int .i64 (mkS_PlanKind rest k).2) [.row .kind (dn ++ (mkS_PlanKind rest k).1) 0 0 0 .no] := by
  intro rest
  induction rest with
  | nil =>
    intro dn k hl ha
    refine Cut.of R_laws_markPlanKindS_ok rfl (t_laws_markPlanKindS_2 k dn.length _) ?_
    rw [decide_eq_false (by simp)]
    exact Sat.ret rfl rfl
  | cons z rest ih =>
    intro dn k hl ha
    refine Cut.of R_laws_markPlanKindS_ok rfl (t_laws_markPlanKindS_2 k dn.length _) ?_
    have hl2 : dn.length + (rest.length + 1) ≤ 1000000000 := by simpa using hl
    have he : (dn ++ [(mk_PlanKind z k).1]).length = dn.length + 1 := by simp
    have hw : IntKind.wrap .i64 ((dn.length : Int) + 1) = (((dn ++ [(mk_PlanKind z k).1]).length : Nat) : Int) := by rw [he, wrap_ok (by omega) (by omega)]; omega
    rw [show decide ((dn.length : Int) < ((dn ++ z :: rest).length : Int)) = true from decide_eq_true (by simp only [List.length_append, List.length_cons]; omega)]
    simp only [ifb_true, inb_mid, getD_mid, set_mid]
    refine Sat.cut (Cut.of R_laws_markPlanKindS_ok rfl (t_laws_markPlanKindS_6 _ _ _) ?_)
    simp only [inb_mid, getD_mid, set_mid, ifb_true]
    refine Sat.cut (Cut.of R_laws_markPlanKindS_ok rfl (t_laws_markPlanKindS_8 _ _ _) ?_)
    simp only [inb_mid, getD_mid, set_mid, ifb_true]
    have nx := ih (dn ++ [(mk_PlanKind z k).1]) (mk_PlanKind z k).2 (by rw [he]; omega) trivial
    rw [List.append_assoc, List.append_assoc] at nx
    rw [hw]
    exact Sat.cut nx
theorem c_laws_markPlanKindS (l : List Kind) (k : Int) (hg : tS_PlanKind l = true) : CallOK Tryz.prog CP g_laws_markPlanKindS [.own 0 [] 0, .int .i64 k] [.row .kind l 0 0 0 .no] (.int .i64 (mkS_PlanKind l k).2) [.row .kind (mkS_PlanKind l k).1 0 0 0 .no] := by
  refine CallOK.of R_laws_markPlanKindS_ok (by kernel_rfl) (t_laws_markPlanKindS l k) ?_
  simp only [tS_PlanKind, Bool.and_eq_true, decide_eq_true_eq] at hg
  obtain ⟨g0, g1⟩ := hg
  exact Sat.cut (l_laws_markPlanKindS l [] k (by simpa using g0) trivial)
theorem E_laws_markPlanKindS_ok : EntOK Tryz.prog CP g_laws_markPlanKindS E_laws_markPlanKindS := by
  refine ⟨⟨Tryz.f209, by kernel_rfl, by kernel_rfl, by kernel_rfl⟩, fun args H res H' h => ?_⟩
  simp only [E_laws_markPlanKindS] at h
  split at h
  · simp only [Option.some.injEq, Prod.mk.injEq] at h
    obtain ⟨hg, rfl, rfl⟩ := h
    exact c_laws_markPlanKindS _ _ hg
  · cases h

/-- laws.markPlanPointS -/
noncomputable def R_laws_markPlanPointS : RE Ty El := ⟨Tryz.prog, CP, [(g_laws_markText, E_laws_markText)], Tryz.f210, 1, [], [(2, [(0, .any), (1, .any), (5, .any)]), (6, [(0, .any), (1, .any), (5, .any)]), (8, [(0, .any), (1, .any), (5, .any)])]⟩
theorem R_laws_markPlanPointS_ok : REOK R_laws_markPlanPointS g_laws_markPlanPointS := ⟨CP_ok, (TabOK.cons E_laws_markText_ok EOKnil), by kernel_rfl, by kernel_rfl⟩
theorem t_laws_markPlanPointS (l : List Point) (k : Int) : aRun R_laws_markPlanPointS 600 false (body0 R_laws_markPlanPointS.fn) (initSt R_laws_markPlanPointS.fn [.own 0 [] 0, .int .i64 k] [.row .point l 0 0 0 .no]) =
  some (.go (todoAt R_laws_markPlanPointS.fn 2) [.own 0 [] 0, .int .i64 k, .int .i64 (0 : Int)] [.row .point l 0 0 0 .no]) := by kernel_rfl
theorem t_laws_markPlanPointS_2 (x0 : Int) (x1 : Int) (x2 : List (El .point)) : aRun R_laws_markPlanPointS 600 true (todoAt R_laws_markPlanPointS.fn 2) (cutSt R_laws_markPlanPointS.fn (liveOf R_laws_markPlanPointS (todoAt R_laws_markPlanPointS.fn 2)) [.own 0 [] 0, .int .i64 x0, .int .i64 x1] [.row .point x2 0 0 0 .no]) =
  ifb (decide (x1 < (↑x2.length : Int))) (ifb (inb x1 x2.length) (some (.go (todoAt R_laws_markPlanPointS.fn 6) [.own 0 [] 0, .int .i64 (IntKind.i64.wrap (x0 + (1 : Int))), .int .i64 x1] [.row .point (x2.set x1.toNat (Point.mk (markT x0) (x2.getD x1.toNat (R_laws_markPlanPointS.C.dflt Ty.point)).x (x2.getD x1.toNat (R_laws_markPlanPointS.C.dflt Ty.point)).y)) 0 0 0 .no])) (none)) (some (.ret (.int .i64 x0) [.row .point x2 0 0 0 .no])) := by kernel_rfl
theorem t_laws_markPlanPointS_6 (x0 : Int) (x1 : Int) (x2 : List (El .point)) : aRun R_laws_markPlanPointS 600 true (todoAt R_laws_markPlanPointS.fn 6) (cutSt R_laws_markPlanPointS.fn (liveOf R_laws_markPlanPointS (todoAt R_laws_markPlanPointS.fn 6)) [.own 0 [] 0, .int .i64 x0, .int .i64 x1] [.row .point x2 0 0 0 .no]) =
  ifb (inb x1 x2.length) (some (.go (todoAt R_laws_markPlanPointS.fn 8) [.own 0 [] 0, .int .i64 (IntKind.i64.wrap (x0 + (1 : Int))), .int .i64 x1] [.row .point (x2.set x1.toNat (Point.mk (x2.getD x1.toNat (R_laws_markPlanPointS.C.dflt Ty.point)).name x0 (x2.getD x1.toNat (R_laws_markPlanPointS.C.dflt Ty.point)).y)) 0 0 0 .no])) (none) := by kernel_rfl
theorem t_laws_markPlanPointS_8 (x0 : Int) (x1 : Int) (x2 : List (El .point)) : aRun R_laws_markPlanPointS 600 true (todoAt R_laws_markPlanPointS.fn 8) (cutSt R_laws_markPlanPointS.fn (liveOf R_laws_markPlanPointS (todoAt R_laws_markPlanPointS.fn 8)) [.own 0 [] 0, .int .i64 x0, .int .i64 x1] [.row .point x2 0 0 0 .no]) =
  ifb (inb x1 x2.length) (some (.go (todoAt R_laws_markPlanPointS.fn 2) [.own 0 [] 0, .int .i64 (IntKind.i64.wrap (x0 + (1 : Int))), .int .i64 (IntKind.i64.wrap (x1 + (1 : Int)))] [.row .point (x2.set x1.toNat (Point.mk (x2.getD x1.toNat (R_laws_markPlanPointS.C.dflt Ty.point)).name (x2.getD x1.toNat (R_laws_markPlanPointS.C.dflt Ty.point)).x x0)) 0 0 0 .no])) (none) := by kernel_rfl
theorem l_laws_markPlanPointS : ∀ (rest dn : List Point) (k : Int), dn.length + rest.length ≤ 1000000000 → True →
    Cut R_laws_markPlanPointS g_laws_markPlanPointS 2 [.own 0 [] 0, .int .i64 k, .int .i64 (dn.length : Int)] [.row .point (dn ++ rest) 0 0 0 .no] (.int .i64 (mkS_PlanPoint rest k).2) [.row .point (dn ++ (mkS_PlanPoint rest k).1) 0 0 0 .no] := by
  intro rest
  induction rest with
  | nil =>
    intro dn k hl ha
    refine Cut.of R_laws_markPlanPointS_ok rfl (t_laws_markPlanPointS_2 k dn.length _) ?_
    rw [decide_eq_false (by simp)]
    exact Sat.ret rfl rfl
  | cons z rest ih =>
    intro dn k hl ha
    refine Cut.of R_laws_markPlanPointS_ok rfl (t_laws_markPlanPointS_2 k dn.length _) ?_
    have hl2 : dn.length + (rest.length + 1) ≤ 1000000000 := by simpa using hl
    have he : (dn ++ [(mk_PlanPoint z k).1]).length = dn.length + 1 := by simp
    have hw : IntKind.wrap .i64 ((dn.length : Int) + 1) = (((dn ++ [(mk_PlanPoint z k).1]).length : Nat) : Int) := by rw [he, wrap_ok (by omega) (by omega)]; omega
    rw [show decide ((dn.length : Int) < ((dn ++ z :: rest).length : Int)) = true from decide_eq_true (by simp only [List.length_append, List.length_cons]; omega)]
    simp only [ifb_true, inb_mid, getD_mid, set_mid]
    refine Sat.cut (Cut.of R_laws_markPlanPointS_ok rfl (t_laws_markPlanPointS_6 _ _ _) ?_)
    simp only [inb_mid, getD_mid, set_mid, ifb_true]
    refine Sat.cut (Cut.of R_laws_markPlanPointS_ok rfl (t_laws_markPlanPointS_8 _ _ _) ?_)
    simp only [inb_mid, getD_mid, set_mid, ifb_true]
    have nx := ih (dn ++ [(mk_PlanPoint z k).1]) (mk_PlanPoint z k).2 (by rw [he]; omega) trivial
    rw [List.append_assoc, List.append_assoc] at nx
    rw [hw]
    exact Sat.cut nx
theorem c_laws_markPlanPointS (l : List Point) (k : Int) (hg : tS_PlanPoint l = true) : CallOK Tryz.prog CP g_laws_markPlanPointS [.own 0 [] 0, .int .i64 k] [.row .point l 0 0 0 .no] (.int .i64 (mkS_PlanPoint l k).2) [.row .point (mkS_PlanPoint l k).1 0 0 0 .no] := by
  refine CallOK.of R_laws_markPlanPointS_ok (by kernel_rfl) (t_laws_markPlanPointS l k) ?_
  simp only [tS_PlanPoint, Bool.and_eq_true, decide_eq_true_eq] at hg
  obtain ⟨g0, g1⟩ := hg
  exact Sat.cut (l_laws_markPlanPointS l [] k (by simpa using g0) trivial)
theorem E_laws_markPlanPointS_ok : EntOK Tryz.prog CP g_laws_markPlanPointS E_laws_markPlanPointS := by
  refine ⟨⟨Tryz.f210, by kernel_rfl, by kernel_rfl, by kernel_rfl⟩, fun args H res H' h => ?_⟩
  simp only [E_laws_markPlanPointS] at h
  split at h
  · simp only [Option.some.injEq, Prod.mk.injEq] at h
    obtain ⟨hg, rfl, rfl⟩ := h
    exact c_laws_markPlanPointS _ _ hg
  · cases h

/-- laws.markPlanBase -/
noncomputable def R_laws_markPlanBase : RE Ty El := ⟨Tryz.prog, CP, [(g_laws_markPlanKindS, E_laws_markPlanKindS), (g_laws_markPlanPointS, E_laws_markPlanPointS)], Tryz.f134, 2, [], []⟩
theorem R_laws_markPlanBase_ok : REOK R_laws_markPlanBase g_laws_markPlanBase := ⟨CP_ok, (TabOK.cons E_laws_markPlanKindS_ok (TabOK.cons E_laws_markPlanPointS_ok EOKnil)), by kernel_rfl, by kernel_rfl⟩
theorem t_laws_markPlanBase (ks : List Kind) (ps : List Point) (k : Int) : aRun R_laws_markPlanBase 600 false (body0 R_laws_markPlanBase.fn) (initSt R_laws_markPlanBase.fn [.agg [.own 0 [] 0, .own 1 [] 0], .int .i64 k] [.row .kind ks 0 0 0 .no, .row .point ps 0 0 0 .no]) =
  ifb (tS_PlanKind ks) (ifb (tS_PlanPoint ps) (some (.ret (.int .i64 ((mkS_PlanPoint ps (mkS_PlanKind ks k).snd).snd)) [.row .kind ((mkS_PlanKind ks k).fst) 0 0 0 .no, .row .point ((mkS_PlanPoint ps (mkS_PlanKind ks k).snd).fst) 0 0 0 .no])) (none)) (none) := by kernel_rfl
theorem c_laws_markPlanBase (ks : List Kind) (ps : List Point) (k : Int) (hg : t_PlanBase ks ps = true) : CallOK Tryz.prog CP g_laws_markPlanBase [.agg [.own 0 [] 0, .own 1 [] 0], .int .i64 k] [.row .kind ks 0 0 0 .no, .row .point ps 0 0 0 .no] (.int .i64 (mkS_PlanPoint ps ((mkS_PlanKind ks (k)).2)).2) [.row .kind ((mkS_PlanKind ks (k)).1) 0 0 0 .no, .row .point ((mkS_PlanPoint ps ((mkS_PlanKind ks (k)).2)).1) 0 0 0 .no] := by
  refine CallOK.of R_laws_markPlanBase_ok (by kernel_rfl) (t_laws_markPlanBase ks ps k) ?_
  simp only [t_PlanBase, Bool.and_eq_true] at hg
  obtain ⟨g0, g1, -⟩ := hg
  rw [show tS_PlanKind ks = true by assumption]
  simp only [ifb_true]
  rw [show tS_PlanPoint ps = true by assumption]
  simp only [ifb_true]
  exact Sat.ret rfl rfl
theorem E_laws_markPlanBase_ok : EntOK Tryz.prog CP g_laws_markPlanBase E_laws_markPlanBase := by
  refine ⟨⟨Tryz.f134, by kernel_rfl, by kernel_rfl, by kernel_rfl⟩, fun args H res H' h => ?_⟩
  simp only [E_laws_markPlanBase] at h
  split at h
  · simp only [Option.some.injEq, Prod.mk.injEq] at h
    obtain ⟨hg, rfl, rfl⟩ := h
    exact c_laws_markPlanBase _ _ _ hg
  · cases h

/-- laws.markPlanFieldS -/
noncomputable def R_laws_markPlanFieldS : RE Ty El := ⟨Tryz.prog, CP, [(g_laws_markText, E_laws_markText)], Tryz.f211, 1, [], [(2, [(0, .any), (1, .any), (5, .any)]), (6, [(0, .any), (1, .any), (5, .any)]), (8, [(0, .any), (1, .any), (5, .any)])]⟩
theorem R_laws_markPlanFieldS_ok : REOK R_laws_markPlanFieldS g_laws_markPlanFieldS := ⟨CP_ok, (TabOK.cons E_laws_markText_ok EOKnil), by kernel_rfl, by kernel_rfl⟩
theorem t_laws_markPlanFieldS (l : List Fld) (k : Int) : aRun R_laws_markPlanFieldS 600 false (body0 R_laws_markPlanFieldS.fn) (initSt R_laws_markPlanFieldS.fn [.own 0 [] 0, .int .i64 k] [.row .fld l 0 0 0 .no]) =
  some (.go (todoAt R_laws_markPlanFieldS.fn 2) [.own 0 [] 0, .int .i64 k, .int .i64 (0 : Int)] [.row .fld l 0 0 0 .no]) := by kernel_rfl
theorem t_laws_markPlanFieldS_2 (x0 : Int) (x1 : Int) (x2 : List (El .fld)) : aRun R_laws_markPlanFieldS 600 true (todoAt R_laws_markPlanFieldS.fn 2) (cutSt R_laws_markPlanFieldS.fn (liveOf R_laws_markPlanFieldS (todoAt R_laws_markPlanFieldS.fn 2)) [.own 0 [] 0, .int .i64 x0, .int .i64 x1] [.row .fld x2 0 0 0 .no]) =
  ifb (decide (x1 < (↑x2.length : Int))) (ifb (inb x1 x2.length) (some (.go (todoAt R_laws_markPlanFieldS.fn 6) [.own 0 [] 0, .int .i64 (IntKind.i64.wrap (x0 + (1 : Int))), .int .i64 x1] [.row .fld (x2.set x1.toNat (Fld.mk x0 (x2.getD x1.toNat (R_laws_markPlanFieldS.C.dflt Ty.fld)).number (x2.getD x1.toNat (R_laws_markPlanFieldS.C.dflt Ty.fld)).value)) 0 0 0 .no])) (none)) (some (.ret (.int .i64 x0) [.row .fld x2 0 0 0 .no])) := by kernel_rfl
theorem t_laws_markPlanFieldS_6 (x0 : Int) (x1 : Int) (x2 : List (El .fld)) : aRun R_laws_markPlanFieldS 600 true (todoAt R_laws_markPlanFieldS.fn 6) (cutSt R_laws_markPlanFieldS.fn (liveOf R_laws_markPlanFieldS (todoAt R_laws_markPlanFieldS.fn 6)) [.own 0 [] 0, .int .i64 x0, .int .i64 x1] [.row .fld x2 0 0 0 .no]) =
  ifb (inb x1 x2.length) (some (.go (todoAt R_laws_markPlanFieldS.fn 8) [.own 0 [] 0, .int .i64 (IntKind.i64.wrap (x0 + (1 : Int))), .int .i64 x1] [.row .fld (x2.set x1.toNat (Fld.mk (x2.getD x1.toNat (R_laws_markPlanFieldS.C.dflt Ty.fld)).what x0 (x2.getD x1.toNat (R_laws_markPlanFieldS.C.dflt Ty.fld)).value)) 0 0 0 .no])) (none) := by kernel_rfl
theorem t_laws_markPlanFieldS_8 (x0 : Int) (x1 : Int) (x2 : List (El .fld)) : aRun R_laws_markPlanFieldS 600 true (todoAt R_laws_markPlanFieldS.fn 8) (cutSt R_laws_markPlanFieldS.fn (liveOf R_laws_markPlanFieldS (todoAt R_laws_markPlanFieldS.fn 8)) [.own 0 [] 0, .int .i64 x0, .int .i64 x1] [.row .fld x2 0 0 0 .no]) =
  ifb (inb x1 x2.length) (some (.go (todoAt R_laws_markPlanFieldS.fn 2) [.own 0 [] 0, .int .i64 (IntKind.i64.wrap (x0 + (1 : Int))), .int .i64 (IntKind.i64.wrap (x1 + (1 : Int)))] [.row .fld (x2.set x1.toNat (Fld.mk (x2.getD x1.toNat (R_laws_markPlanFieldS.C.dflt Ty.fld)).what (x2.getD x1.toNat (R_laws_markPlanFieldS.C.dflt Ty.fld)).number (markT x0))) 0 0 0 .no])) (none) := by kernel_rfl
theorem l_laws_markPlanFieldS : ∀ (rest dn : List Fld) (k : Int), dn.length + rest.length ≤ 1000000000 → True →
    Cut R_laws_markPlanFieldS g_laws_markPlanFieldS 2 [.own 0 [] 0, .int .i64 k, .int .i64 (dn.length : Int)] [.row .fld (dn ++ rest) 0 0 0 .no] (.int .i64 (mkS_PlanField rest k).2) [.row .fld (dn ++ (mkS_PlanField rest k).1) 0 0 0 .no] := by
  intro rest
  induction rest with
  | nil =>
    intro dn k hl ha
    refine Cut.of R_laws_markPlanFieldS_ok rfl (t_laws_markPlanFieldS_2 k dn.length _) ?_
    rw [decide_eq_false (by simp)]
    exact Sat.ret rfl rfl
  | cons z rest ih =>
    intro dn k hl ha
    refine Cut.of R_laws_markPlanFieldS_ok rfl (t_laws_markPlanFieldS_2 k dn.length _) ?_
    have hl2 : dn.length + (rest.length + 1) ≤ 1000000000 := by simpa using hl
    have he : (dn ++ [(mk_PlanField z k).1]).length = dn.length + 1 := by simp
    have hw : IntKind.wrap .i64 ((dn.length : Int) + 1) = (((dn ++ [(mk_PlanField z k).1]).length : Nat) : Int) := by rw [he, wrap_ok (by omega) (by omega)]; omega
    rw [show decide ((dn.length : Int) < ((dn ++ z :: rest).length : Int)) = true from decide_eq_true (by simp only [List.length_append, List.length_cons]; omega)]
    simp only [ifb_true, inb_mid, getD_mid, set_mid]
    refine Sat.cut (Cut.of R_laws_markPlanFieldS_ok rfl (t_laws_markPlanFieldS_6 _ _ _) ?_)
    simp only [inb_mid, getD_mid, set_mid, ifb_true]
    refine Sat.cut (Cut.of R_laws_markPlanFieldS_ok rfl (t_laws_markPlanFieldS_8 _ _ _) ?_)
    simp only [inb_mid, getD_mid, set_mid, ifb_true]
    have nx := ih (dn ++ [(mk_PlanField z k).1]) (mk_PlanField z k).2 (by rw [he]; omega) trivial
    rw [List.append_assoc, List.append_assoc] at nx
    rw [hw]
    exact Sat.cut nx
theorem c_laws_markPlanFieldS (l : List Fld) (k : Int) (hg : tS_PlanField l = true) : CallOK Tryz.prog CP g_laws_markPlanFieldS [.own 0 [] 0, .int .i64 k] [.row .fld l 0 0 0 .no] (.int .i64 (mkS_PlanField l k).2) [.row .fld (mkS_PlanField l k).1 0 0 0 .no] := by
  refine CallOK.of R_laws_markPlanFieldS_ok (by kernel_rfl) (t_laws_markPlanFieldS l k) ?_
  simp only [tS_PlanField, Bool.and_eq_true, decide_eq_true_eq] at hg
  obtain ⟨g0, g1⟩ := hg
  exact Sat.cut (l_laws_markPlanFieldS l [] k (by simpa using g0) trivial)
theorem E_laws_markPlanFieldS_ok : EntOK Tryz.prog CP g_laws_markPlanFieldS E_laws_markPlanFieldS := by
  refine ⟨⟨Tryz.f211, by kernel_rfl, by kernel_rfl, by kernel_rfl⟩, fun args H res H' h => ?_⟩
  simp only [E_laws_markPlanFieldS] at h
  split at h
  · simp only [Option.some.injEq, Prod.mk.injEq] at h
    obtain ⟨hg, rfl, rfl⟩ := h
    exact c_laws_markPlanFieldS _ _ hg
  · cases h

/-- laws.markPlanEntryS -/
noncomputable def R_laws_markPlanEntryS : RE Ty El := ⟨Tryz.prog, CP, [(g_laws_markText, E_laws_markText), (g_laws_markPlanFieldS, E_laws_markPlanFieldS)], Tryz.f135, 1, [], [(2, [(0, .any), (1, .any), (5, .any)]), (6, [(0, .any), (1, .any), (5, .any)])]⟩
theorem R_laws_markPlanEntryS_ok : REOK R_laws_markPlanEntryS g_laws_markPlanEntryS := ⟨CP_ok, (TabOK.cons E_laws_markText_ok (TabOK.cons E_laws_markPlanFieldS_ok EOKnil)), by kernel_rfl, by kernel_rfl⟩
theorem t_laws_markPlanEntryS (l : List Entry) (k : Int) : aRun R_laws_markPlanEntryS 600 false (body0 R_laws_markPlanEntryS.fn) (initSt R_laws_markPlanEntryS.fn [.own 0 [] 0, .int .i64 k] [.row .entry l 1 0 0 .no]) =
  some (.go (todoAt R_laws_markPlanEntryS.fn 2) [.own 0 [] 0, .int .i64 k, .int .i64 (0 : Int)] [.row .entry l 1 0 0 .no]) := by kernel_rfl
theorem t_laws_markPlanEntryS_2 (x0 : Int) (x1 : Int) (x2 : List (El .entry)) : aRun R_laws_markPlanEntryS 600 true (todoAt R_laws_markPlanEntryS.fn 2) (cutSt R_laws_markPlanEntryS.fn (liveOf R_laws_markPlanEntryS (todoAt R_laws_markPlanEntryS.fn 2)) [.own 0 [] 0, .int .i64 x0, .int .i64 x1] [.row .entry x2 1 0 0 .no]) =
  ifb (decide (x1 < (↑x2.length : Int))) (ifb (inb x1 x2.length) (some (.go (todoAt R_laws_markPlanEntryS.fn 6) [.own 0 [] 0, .int .i64 (IntKind.i64.wrap (x0 + (1 : Int))), .int .i64 x1] [.row .entry (x2.set x1.toNat (Entry.mk (markT x0) (x2.getD x1.toNat (R_laws_markPlanEntryS.C.dflt Ty.entry)).fields)) 1 0 0 .no])) (none)) (some (.ret (.int .i64 x0) [.row .entry x2 1 0 0 .no])) := by kernel_rfl
theorem t_laws_markPlanEntryS_6 (x0 : Int) (x1 : Int) (x2 : List (El .entry)) : aRun R_laws_markPlanEntryS 600 true (todoAt R_laws_markPlanEntryS.fn 6) (cutSt R_laws_markPlanEntryS.fn (liveOf R_laws_markPlanEntryS (todoAt R_laws_markPlanEntryS.fn 6)) [.own 0 [] 0, .int .i64 x0, .int .i64 x1] [.row .entry x2 1 0 0 .no]) =
  ifb (inb x1 x2.length) (ifb (tS_PlanField (x2.getD x1.toNat (R_laws_markPlanEntryS.C.dflt Ty.entry)).fields) (some (.go (todoAt R_laws_markPlanEntryS.fn 2) [.own 0 [] 0, .int .i64 ((mkS_PlanField (x2.getD x1.toNat (R_laws_markPlanEntryS.C.dflt Ty.entry)).fields x0).snd), .int .i64 (IntKind.i64.wrap (x1 + (1 : Int)))] [.row .entry (x2.set x1.toNat (Entry.mk (x2.getD x1.toNat (R_laws_markPlanEntryS.C.dflt Ty.entry)).name (mkS_PlanField (x2.getD x1.toNat (R_laws_markPlanEntryS.C.dflt Ty.entry)).fields x0).fst)) 1 0 0 .no])) (none)) (none) := by kernel_rfl
theorem l_laws_markPlanEntryS : ∀ (rest dn : List Entry) (k : Int), dn.length + rest.length ≤ 1000000000 → rest.all (fun z : Entry => t_PlanEntry z.name z.fields) = true →
    Cut R_laws_markPlanEntryS g_laws_markPlanEntryS 2 [.own 0 [] 0, .int .i64 k, .int .i64 (dn.length : Int)] [.row .entry (dn ++ rest) 1 0 0 .no] (.int .i64 (mkS_PlanEntry rest k).2) [.row .entry (dn ++ (mkS_PlanEntry rest k).1) 1 0 0 .no] := by
  intro rest
  induction rest with
  | nil =>
    intro dn k hl ha
    refine Cut.of R_laws_markPlanEntryS_ok rfl (t_laws_markPlanEntryS_2 k dn.length _) ?_
    rw [decide_eq_false (by simp)]
    exact Sat.ret rfl rfl
  | cons z rest ih =>
    intro dn k hl ha
    refine Cut.of R_laws_markPlanEntryS_ok rfl (t_laws_markPlanEntryS_2 k dn.length _) ?_
    have hl2 : dn.length + (rest.length + 1) ≤ 1000000000 := by simpa using hl
    have he : (dn ++ [(mk_PlanEntry z k).1]).length = dn.length + 1 := by simp
    have hw : IntKind.wrap .i64 ((dn.length : Int) + 1) = (((dn ++ [(mk_PlanEntry z k).1]).length : Nat) : Int) := by rw [he, wrap_ok (by omega) (by omega)]; omega
    have ha2 := ha
    rw [List.all_cons, Bool.and_eq_true] at ha2
    have hz : t_PlanEntry z.name z.fields = true := ha2.1
    rw [show decide ((dn.length : Int) < ((dn ++ z :: rest).length : Int)) = true from decide_eq_true (by simp only [List.length_append, List.length_cons]; omega)]
    simp only [ifb_true, inb_mid, getD_mid, set_mid]
    refine Sat.cut (Cut.of R_laws_markPlanEntryS_ok rfl (t_laws_markPlanEntryS_6 _ _ _) ?_)
    simp only [inb_mid, getD_mid, set_mid, ifb_true]
    have n_fields : tS_PlanField z.fields = true := by have := hz; simp only [t_PlanEntry, Bool.and_eq_true] at this; simp only [this]
    rw [n_fields]
    simp only [ifb_true, getD_mid, set_mid]
    have nx := ih (dn ++ [(mk_PlanEntry z k).1]) (mk_PlanEntry z k).2 (by rw [he]; omega) ha2.2
    rw [List.append_assoc, List.append_assoc] at nx
    rw [hw]
    exact Sat.cut nx
theorem c_laws_markPlanEntryS (l : List Entry) (k : Int) (hg : tS_PlanEntry l = true) : CallOK Tryz.prog CP g_laws_markPlanEntryS [.own 0 [] 0, .int .i64 k] [.row .entry l 1 0 0 .no] (.int .i64 (mkS_PlanEntry l k).2) [.row .entry (mkS_PlanEntry l k).1 1 0 0 .no] := by
  refine CallOK.of R_laws_markPlanEntryS_ok (by kernel_rfl) (t_laws_markPlanEntryS l k) ?_
  simp only [tS_PlanEntry, Bool.and_eq_true, decide_eq_true_eq] at hg
  obtain ⟨g0, g1⟩ := hg
  exact Sat.cut (l_laws_markPlanEntryS l [] k (by simpa using g0) g1)
theorem E_laws_markPlanEntryS_ok : EntOK Tryz.prog CP g_laws_markPlanEntryS E_laws_markPlanEntryS := by
  refine ⟨⟨Tryz.f135, by kernel_rfl, by kernel_rfl, by kernel_rfl⟩, fun args H res H' h => ?_⟩
  simp only [E_laws_markPlanEntryS] at h
  split at h
  · simp only [Option.some.injEq, Prod.mk.injEq] at h
    obtain ⟨hg, rfl, rfl⟩ := h
    exact c_laws_markPlanEntryS _ _ hg
  · cases h

/-- laws.markPlanBook -/
noncomputable def R_laws_markPlanBook : RE Ty El := ⟨Tryz.prog, CP, [(g_laws_markPlanBase, E_laws_markPlanBase), (g_laws_markPlanEntryS, E_laws_markPlanEntryS)], Tryz.f42, 3, [], []⟩
theorem R_laws_markPlanBook_ok : REOK R_laws_markPlanBook g_laws_markPlanBook := ⟨CP_ok, (TabOK.cons E_laws_markPlanBase_ok (TabOK.cons E_laws_markPlanEntryS_ok EOKnil)), by kernel_rfl, by kernel_rfl⟩
theorem t_laws_markPlanBook (ks : List Kind) (ps : List Point) (es : List Entry) (k : Int) : aRun R_laws_markPlanBook 600 false (body0 R_laws_markPlanBook.fn) (initSt R_laws_markPlanBook.fn [.agg [.own 0 [] 0, .own 1 [] 0, .own 2 [] 0], .int .i64 k] [.row .kind ks 0 0 0 .no, .row .point ps 0 0 0 .no, .row .entry es 1 0 0 .no]) =
  ifb (t_PlanBase ks ps) (ifb (tS_PlanEntry es) (some (.ret (.int .i64 ((mkS_PlanEntry es (mkS_PlanPoint ps (mkS_PlanKind ks k).snd).snd).snd)) [.row .kind ((mkS_PlanKind ks k).fst) 0 0 0 .no, .row .point ((mkS_PlanPoint ps (mkS_PlanKind ks k).snd).fst) 0 0 0 .no, .row .entry ((mkS_PlanEntry es (mkS_PlanPoint ps (mkS_PlanKind ks k).snd).snd).fst) 1 0 0 .no])) (none)) (none) := by kernel_rfl
theorem c_laws_markPlanBook (ks : List Kind) (ps : List Point) (es : List Entry) (k : Int) (hg : t_PlanBook ks ps es = true) : CallOK Tryz.prog CP g_laws_markPlanBook [.agg [.own 0 [] 0, .own 1 [] 0, .own 2 [] 0], .int .i64 k] [.row .kind ks 0 0 0 .no, .row .point ps 0 0 0 .no, .row .entry es 1 0 0 .no] (.int .i64 (mkS_PlanEntry es ((mkS_PlanPoint ps ((mkS_PlanKind ks (k)).2)).2)).2) [.row .kind ((mkS_PlanKind ks (k)).1) 0 0 0 .no, .row .point ((mkS_PlanPoint ps ((mkS_PlanKind ks (k)).2)).1) 0 0 0 .no, .row .entry ((mkS_PlanEntry es ((mkS_PlanPoint ps ((mkS_PlanKind ks (k)).2)).2)).1) 1 0 0 .no] := by
  refine CallOK.of R_laws_markPlanBook_ok (by kernel_rfl) (t_laws_markPlanBook ks ps es k) ?_
  simp only [t_PlanBook, Bool.and_eq_true] at hg
  obtain ⟨g0, g1, g2, -⟩ := hg
  rw [show t_PlanBase ks ps = true by simp only [t_PlanBase, g0, g1, g2, Bool.and_true]]
  simp only [ifb_true]
  rw [show tS_PlanEntry es = true by assumption]
  simp only [ifb_true]
  exact Sat.ret rfl rfl
theorem E_laws_markPlanBook_ok : EntOK Tryz.prog CP g_laws_markPlanBook E_laws_markPlanBook := by
  refine ⟨⟨Tryz.f42, by kernel_rfl, by kernel_rfl, by kernel_rfl⟩, fun args H res H' h => ?_⟩
  simp only [E_laws_markPlanBook] at h
  split at h
  · simp only [Option.some.injEq, Prod.mk.injEq] at h
    obtain ⟨hg, rfl, rfl⟩ := h
    exact c_laws_markPlanBook _ _ _ _ hg
  · cases h

/-- laws.markPlanStepS -/
noncomputable def R_laws_markPlanStepS : RE Ty El := ⟨Tryz.prog, CP, [], Tryz.f136, 1, [], [(2, [(0, .any), (1, .any), (5, .any)]), (6, [(0, .any), (1, .any), (5, .any)]), (8, [(0, .any), (1, .any), (5, .any)]), (10, [(0, .any), (1, .any), (5, .any)]), (12, [(0, .any), (1, .any), (5, .any)]), (14, [(0, .any), (1, .any), (5, .any)])]⟩
theorem R_laws_markPlanStepS_ok : REOK R_laws_markPlanStepS g_laws_markPlanStepS := ⟨CP_ok, EOKnil, by kernel_rfl, by kernel_rfl⟩
theorem t_laws_markPlanStepS (l : List Stp) (k : Int) : aRun R_laws_markPlanStepS 600 false (body0 R_laws_markPlanStepS.fn) (initSt R_laws_markPlanStepS.fn [.own 0 [] 0, .int .i64 k] [.row .step l 0 0 0 .no]) =
  some (.go (todoAt R_laws_markPlanStepS.fn 2) [.own 0 [] 0, .int .i64 k, .int .i64 (0 : Int)] [.row .step l 0 0 0 .no]) := by kernel_rfl
theorem t_laws_markPlanStepS_2 (x0 : Int) (x1 : Int) (x2 : List (El .step)) : aRun R_laws_markPlanStepS 600 true (todoAt R_laws_markPlanStepS.fn 2) (cutSt R_laws_markPlanStepS.fn (liveOf R_laws_markPlanStepS (todoAt R_laws_markPlanStepS.fn 2)) [.own 0 [] 0, .int .i64 x0, .int .i64 x1] [.row .step x2 0 0 0 .no]) =
  ifb (decide (x1 < (↑x2.length : Int))) (ifb (inb x1 x2.length) (some (.go (todoAt R_laws_markPlanStepS.fn 6) [.own 0 [] 0, .int .i64 (IntKind.i64.wrap (x0 + (1 : Int))), .int .i64 x1] [.row .step (x2.set x1.toNat (Stp.mk x0 (x2.getD x1.toNat (R_laws_markPlanStepS.C.dflt Ty.step)).y (x2.getD x1.toNat (R_laws_markPlanStepS.C.dflt Ty.step)).low (x2.getD x1.toNat (R_laws_markPlanStepS.C.dflt Ty.step)).high (x2.getD x1.toNat (R_laws_markPlanStepS.C.dflt Ty.step)).frm (x2.getD x1.toNat (R_laws_markPlanStepS.C.dflt Ty.step)).by_)) 0 0 0 .no])) (none)) (some (.ret (.int .i64 x0) [.row .step x2 0 0 0 .no])) := by kernel_rfl
theorem t_laws_markPlanStepS_6 (x0 : Int) (x1 : Int) (x2 : List (El .step)) : aRun R_laws_markPlanStepS 600 true (todoAt R_laws_markPlanStepS.fn 6) (cutSt R_laws_markPlanStepS.fn (liveOf R_laws_markPlanStepS (todoAt R_laws_markPlanStepS.fn 6)) [.own 0 [] 0, .int .i64 x0, .int .i64 x1] [.row .step x2 0 0 0 .no]) =
  ifb (inb x1 x2.length) (some (.go (todoAt R_laws_markPlanStepS.fn 8) [.own 0 [] 0, .int .i64 (IntKind.i64.wrap (x0 + (1 : Int))), .int .i64 x1] [.row .step (x2.set x1.toNat (Stp.mk (x2.getD x1.toNat (R_laws_markPlanStepS.C.dflt Ty.step)).x x0 (x2.getD x1.toNat (R_laws_markPlanStepS.C.dflt Ty.step)).low (x2.getD x1.toNat (R_laws_markPlanStepS.C.dflt Ty.step)).high (x2.getD x1.toNat (R_laws_markPlanStepS.C.dflt Ty.step)).frm (x2.getD x1.toNat (R_laws_markPlanStepS.C.dflt Ty.step)).by_)) 0 0 0 .no])) (none) := by kernel_rfl
theorem t_laws_markPlanStepS_8 (x0 : Int) (x1 : Int) (x2 : List (El .step)) : aRun R_laws_markPlanStepS 600 true (todoAt R_laws_markPlanStepS.fn 8) (cutSt R_laws_markPlanStepS.fn (liveOf R_laws_markPlanStepS (todoAt R_laws_markPlanStepS.fn 8)) [.own 0 [] 0, .int .i64 x0, .int .i64 x1] [.row .step x2 0 0 0 .no]) =
  ifb (inb x1 x2.length) (some (.go (todoAt R_laws_markPlanStepS.fn 10) [.own 0 [] 0, .int .i64 (IntKind.i64.wrap (x0 + (1 : Int))), .int .i64 x1] [.row .step (x2.set x1.toNat (Stp.mk (x2.getD x1.toNat (R_laws_markPlanStepS.C.dflt Ty.step)).x (x2.getD x1.toNat (R_laws_markPlanStepS.C.dflt Ty.step)).y x0 (x2.getD x1.toNat (R_laws_markPlanStepS.C.dflt Ty.step)).high (x2.getD x1.toNat (R_laws_markPlanStepS.C.dflt Ty.step)).frm (x2.getD x1.toNat (R_laws_markPlanStepS.C.dflt Ty.step)).by_)) 0 0 0 .no])) (none) := by kernel_rfl
theorem t_laws_markPlanStepS_10 (x0 : Int) (x1 : Int) (x2 : List (El .step)) : aRun R_laws_markPlanStepS 600 true (todoAt R_laws_markPlanStepS.fn 10) (cutSt R_laws_markPlanStepS.fn (liveOf R_laws_markPlanStepS (todoAt R_laws_markPlanStepS.fn 10)) [.own 0 [] 0, .int .i64 x0, .int .i64 x1] [.row .step x2 0 0 0 .no]) =
  ifb (inb x1 x2.length) (some (.go (todoAt R_laws_markPlanStepS.fn 12) [.own 0 [] 0, .int .i64 (IntKind.i64.wrap (x0 + (1 : Int))), .int .i64 x1] [.row .step (x2.set x1.toNat (Stp.mk (x2.getD x1.toNat (R_laws_markPlanStepS.C.dflt Ty.step)).x (x2.getD x1.toNat (R_laws_markPlanStepS.C.dflt Ty.step)).y (x2.getD x1.toNat (R_laws_markPlanStepS.C.dflt Ty.step)).low x0 (x2.getD x1.toNat (R_laws_markPlanStepS.C.dflt Ty.step)).frm (x2.getD x1.toNat (R_laws_markPlanStepS.C.dflt Ty.step)).by_)) 0 0 0 .no])) (none) := by kernel_rfl
theorem t_laws_markPlanStepS_12 (x0 : Int) (x1 : Int) (x2 : List (El .step)) : aRun R_laws_markPlanStepS 600 true (todoAt R_laws_markPlanStepS.fn 12) (cutSt R_laws_markPlanStepS.fn (liveOf R_laws_markPlanStepS (todoAt R_laws_markPlanStepS.fn 12)) [.own 0 [] 0, .int .i64 x0, .int .i64 x1] [.row .step x2 0 0 0 .no]) =
  ifb (inb x1 x2.length) (some (.go (todoAt R_laws_markPlanStepS.fn 14) [.own 0 [] 0, .int .i64 (IntKind.i64.wrap (x0 + (1 : Int))), .int .i64 x1] [.row .step (x2.set x1.toNat (Stp.mk (x2.getD x1.toNat (R_laws_markPlanStepS.C.dflt Ty.step)).x (x2.getD x1.toNat (R_laws_markPlanStepS.C.dflt Ty.step)).y (x2.getD x1.toNat (R_laws_markPlanStepS.C.dflt Ty.step)).low (x2.getD x1.toNat (R_laws_markPlanStepS.C.dflt Ty.step)).high x0 (x2.getD x1.toNat (R_laws_markPlanStepS.C.dflt Ty.step)).by_)) 0 0 0 .no])) (none) := by kernel_rfl
theorem t_laws_markPlanStepS_14 (x0 : Int) (x1 : Int) (x2 : List (El .step)) : aRun R_laws_markPlanStepS 600 true (todoAt R_laws_markPlanStepS.fn 14) (cutSt R_laws_markPlanStepS.fn (liveOf R_laws_markPlanStepS (todoAt R_laws_markPlanStepS.fn 14)) [.own 0 [] 0, .int .i64 x0, .int .i64 x1] [.row .step x2 0 0 0 .no]) =
  ifb (inb x1 x2.length) (some (.go (todoAt R_laws_markPlanStepS.fn 2) [.own 0 [] 0, .int .i64 (IntKind.i64.wrap (x0 + (1 : Int))), .int .i64 (IntKind.i64.wrap (x1 + (1 : Int)))] [.row .step (x2.set x1.toNat (Stp.mk (x2.getD x1.toNat (R_laws_markPlanStepS.C.dflt Ty.step)).x (x2.getD x1.toNat (R_laws_markPlanStepS.C.dflt Ty.step)).y (x2.getD x1.toNat (R_laws_markPlanStepS.C.dflt Ty.step)).low (x2.getD x1.toNat (R_laws_markPlanStepS.C.dflt Ty.step)).high (x2.getD x1.toNat (R_laws_markPlanStepS.C.dflt Ty.step)).frm x0)) 0 0 0 .no])) (none) := by kernel_rfl
theorem l_laws_markPlanStepS : ∀ (rest dn : List Stp) (k : Int), dn.length + rest.length ≤ 1000000000 → True →
    Cut R_laws_markPlanStepS g_laws_markPlanStepS 2 [.own 0 [] 0, .int .i64 k, .int .i64 (dn.length : Int)] [.row .step (dn ++ rest) 0 0 0 .no] (.int .i64 (mkS_PlanStep rest k).2) [.row .step (dn ++ (mkS_PlanStep rest k).1) 0 0 0 .no] := by
  intro rest
  induction rest with
  | nil =>
    intro dn k hl ha
    refine Cut.of R_laws_markPlanStepS_ok rfl (t_laws_markPlanStepS_2 k dn.length _) ?_
    rw [decide_eq_false (by simp)]
    exact Sat.ret rfl rfl
  | cons z rest ih =>
    intro dn k hl ha
    refine Cut.of R_laws_markPlanStepS_ok rfl (t_laws_markPlanStepS_2 k dn.length _) ?_
    have hl2 : dn.length + (rest.length + 1) ≤ 1000000000 := by simpa using hl
    have he : (dn ++ [(mk_PlanStep z k).1]).length = dn.length + 1 := by simp
    have hw : IntKind.wrap .i64 ((dn.length : Int) + 1) = (((dn ++ [(mk_PlanStep z k).1]).length : Nat) : Int) := by rw [he, wrap_ok (by omega) (by omega)]; omega
    rw [show decide ((dn.length : Int) < ((dn ++ z :: rest).length : Int)) = true from decide_eq_true (by simp only [List.length_append, List.length_cons]; omega)]
    simp only [ifb_true, inb_mid, getD_mid, set_mid]
    refine Sat.cut (Cut.of R_laws_markPlanStepS_ok rfl (t_laws_markPlanStepS_6 _ _ _) ?_)
    simp only [inb_mid, getD_mid, set_mid, ifb_true]
    refine Sat.cut (Cut.of R_laws_markPlanStepS_ok rfl (t_laws_markPlanStepS_8 _ _ _) ?_)
    simp only [inb_mid, getD_mid, set_mid, ifb_true]
    refine Sat.cut (Cut.of R_laws_markPlanStepS_ok rfl (t_laws_markPlanStepS_10 _ _ _) ?_)
    simp only [inb_mid, getD_mid, set_mid, ifb_true]
    refine Sat.cut (Cut.of R_laws_markPlanStepS_ok rfl (t_laws_markPlanStepS_12 _ _ _) ?_)
    simp only [inb_mid, getD_mid, set_mid, ifb_true]
    refine Sat.cut (Cut.of R_laws_markPlanStepS_ok rfl (t_laws_markPlanStepS_14 _ _ _) ?_)
    simp only [inb_mid, getD_mid, set_mid, ifb_true]
    have nx := ih (dn ++ [(mk_PlanStep z k).1]) (mk_PlanStep z k).2 (by rw [he]; omega) trivial
    rw [List.append_assoc, List.append_assoc] at nx
    rw [hw]
    exact Sat.cut nx
theorem c_laws_markPlanStepS (l : List Stp) (k : Int) (hg : tS_PlanStep l = true) : CallOK Tryz.prog CP g_laws_markPlanStepS [.own 0 [] 0, .int .i64 k] [.row .step l 0 0 0 .no] (.int .i64 (mkS_PlanStep l k).2) [.row .step (mkS_PlanStep l k).1 0 0 0 .no] := by
  refine CallOK.of R_laws_markPlanStepS_ok (by kernel_rfl) (t_laws_markPlanStepS l k) ?_
  simp only [tS_PlanStep, Bool.and_eq_true, decide_eq_true_eq] at hg
  obtain ⟨g0, g1⟩ := hg
  exact Sat.cut (l_laws_markPlanStepS l [] k (by simpa using g0) trivial)
theorem E_laws_markPlanStepS_ok : EntOK Tryz.prog CP g_laws_markPlanStepS E_laws_markPlanStepS := by
  refine ⟨⟨Tryz.f136, by kernel_rfl, by kernel_rfl, by kernel_rfl⟩, fun args H res H' h => ?_⟩
  simp only [E_laws_markPlanStepS] at h
  split at h
  · simp only [Option.some.injEq, Prod.mk.injEq] at h
    obtain ⟨hg, rfl, rfl⟩ := h
    exact c_laws_markPlanStepS _ _ hg
  · cases h

/-- laws.markPlanPath -/
noncomputable def R_laws_markPlanPath : RE Ty El := ⟨Tryz.prog, CP, [(g_laws_markPlanStepS, E_laws_markPlanStepS)], Tryz.f43, 1, [], []⟩
theorem R_laws_markPlanPath_ok : REOK R_laws_markPlanPath g_laws_markPlanPath := ⟨CP_ok, (TabOK.cons E_laws_markPlanStepS_ok EOKnil), by kernel_rfl, by kernel_rfl⟩
theorem t_laws_markPlanPath (ss : List Stp) (frm : Int) (by_ : Int) (k : Int) : aRun R_laws_markPlanPath 600 false (body0 R_laws_markPlanPath.fn) (initSt R_laws_markPlanPath.fn [.agg [.own 0 [] 0, .int .i64 frm, .int .i64 by_], .int .i64 k] [.row .step ss 0 0 0 .no]) =
  ifb (tS_PlanStep ss) (some (.ret (.int .i64 ((mkS_PlanStep ss k).snd)) [.row .step ((mkS_PlanStep ss k).fst) 0 0 0 .no])) (none) := by kernel_rfl
theorem c_laws_markPlanPath (ss : List Stp) (frm : Int) (by_ : Int) (k : Int) (hg : t_PlanPath ss frm by_ = true) : CallOK Tryz.prog CP g_laws_markPlanPath [.agg [.own 0 [] 0, .int .i64 frm, .int .i64 by_], .int .i64 k] [.row .step ss 0 0 0 .no] (.int .i64 (mkS_PlanStep ss (k)).2) [.row .step ((mkS_PlanStep ss (k)).1) 0 0 0 .no] := by
  refine CallOK.of R_laws_markPlanPath_ok (by kernel_rfl) (t_laws_markPlanPath ss frm by_ k) ?_
  simp only [t_PlanPath, Bool.and_eq_true] at hg
  obtain ⟨g0, -⟩ := hg
  rw [show tS_PlanStep ss = true by assumption]
  simp only [ifb_true]
  exact Sat.ret rfl rfl
theorem E_laws_markPlanPath_ok : EntOK Tryz.prog CP g_laws_markPlanPath E_laws_markPlanPath := by
  refine ⟨⟨Tryz.f43, by kernel_rfl, by kernel_rfl, by kernel_rfl⟩, fun args H res H' h => ?_⟩
  simp only [E_laws_markPlanPath] at h
  split at h
  · simp only [Option.some.injEq, Prod.mk.injEq] at h
    obtain ⟨hg, rfl, rfl⟩ := h
    exact c_laws_markPlanPath _ _ _ _ hg
  · cases h

/-- laws.eqPlanStep -/
noncomputable def R_laws_eqPlanStep : RE Ty El := ⟨Tryz.prog, CP, [], Tryz.f208, 0, [], []⟩
theorem R_laws_eqPlanStep_ok : REOK R_laws_eqPlanStep g_laws_eqPlanStep := ⟨CP_ok, EOKnil, by kernel_rfl, by kernel_rfl⟩
theorem t_laws_eqPlanStep (x : Int) (y : Int) (low : Int) (high : Int) (frm : Int) (by_ : Int) (x' : Int) (y' : Int) (low' : Int) (high' : Int) (frm' : Int) (by_' : Int) : aRun R_laws_eqPlanStep 600 false (body0 R_laws_eqPlanStep.fn) (initSt R_laws_eqPlanStep.fn [.agg [.int .i64 x, .int .i64 y, .int .i64 low, .int .i64 high, .int .i64 frm, .int .i64 by_], .agg [.int .i64 x', .int .i64 y', .int .i64 low', .int .i64 high', .int .i64 frm', .int .i64 by_']] []) =
  ifb (x != x') (some (.ret (.bool false) [])) (ifb (y != y') (some (.ret (.bool false) [])) (ifb (low != low') (some (.ret (.bool false) [])) (ifb (high != high') (some (.ret (.bool false) [])) (ifb (frm != frm') (some (.ret (.bool false) [])) (ifb (by_ != by_') (some (.ret (.bool false) [])) (some (.ret (.bool true) []))))))) := by kernel_rfl
theorem c_laws_eqPlanStep (x : Int) (y : Int) (low : Int) (high : Int) (frm : Int) (by_ : Int) (x' : Int) (y' : Int) (low' : Int) (high' : Int) (frm' : Int) (by_' : Int) : CallOK Tryz.prog CP g_laws_eqPlanStep [.agg [.int .i64 x, .int .i64 y, .int .i64 low, .int .i64 high, .int .i64 frm, .int .i64 by_], .agg [.int .i64 x', .int .i64 y', .int .i64 low', .int .i64 high', .int .i64 frm', .int .i64 by_']] [] (.bool (decide ((⟨x, y, low, high, frm, by_⟩ : Stp) = ⟨x', y', low', high', frm', by_'⟩))) [] := by
  refine CallOK.of R_laws_eqPlanStep_ok (by kernel_rfl) (t_laws_eqPlanStep x y low high frm by_ x' y' low' high' frm' by_') ?_
  repeat' (refine Sat.ifb (fun h => ?_) (fun h => ?_))
  all_goals (first | (refine Sat.retB ?_ rfl; simp_all; done) | (refine Sat.no ?_; simp_all; done))
theorem E_laws_eqPlanStep_ok : EntOK Tryz.prog CP g_laws_eqPlanStep E_laws_eqPlanStep := by
  refine ⟨⟨Tryz.f208, by kernel_rfl, by kernel_rfl, by kernel_rfl⟩, fun args H res H' h => ?_⟩
  simp only [E_laws_eqPlanStep] at h
  split at h
  · simp only [Option.some.injEq, Prod.mk.injEq] at h
    obtain ⟨hg, rfl, rfl⟩ := h
    exact c_laws_eqPlanStep _ _ _ _ _ _ _ _ _ _ _ _
  · cases h

/-- laws.eqPlanStepS -/
noncomputable def R_laws_eqPlanStepS : RE Ty El := ⟨Tryz.prog, CP, [(g_laws_eqPlanStep, E_laws_eqPlanStep)], Tryz.f133, 0, [], [(4, [(0, .any), (1, .any), (5, .any)])]⟩
theorem R_laws_eqPlanStepS_ok : REOK R_laws_eqPlanStepS g_laws_eqPlanStepS := ⟨CP_ok, (TabOK.cons E_laws_eqPlanStep_ok EOKnil), by kernel_rfl, by kernel_rfl⟩
theorem t_laws_eqPlanStepS (l l' : List Stp) : aRun R_laws_eqPlanStepS 600 false (body0 R_laws_eqPlanStepS.fn) (initSt R_laws_eqPlanStepS.fn [.sl .step l, .sl .step l'] []) =
  ifb ((↑l.length : Int) != (↑l'.length : Int)) (some (.ret (.bool false) [])) (some (.go (todoAt R_laws_eqPlanStepS.fn 4) [.sl .step l, .sl .step l', .int .i64 (0 : Int)] [])) := by kernel_rfl
theorem t_laws_eqPlanStepS_4 (x0 : List (El .step)) (x1 : List (El .step)) (x2 : Int) : aRun R_laws_eqPlanStepS 600 true (todoAt R_laws_eqPlanStepS.fn 4) (cutSt R_laws_eqPlanStepS.fn (liveOf R_laws_eqPlanStepS (todoAt R_laws_eqPlanStepS.fn 4)) [.sl .step x0, .sl .step x1, .int .i64 x2] []) =
  ifb (decide (x2 < (↑x0.length : Int))) (ifb (inb x2 x0.length) (ifb (inb x2 x1.length) (ifb (!decide (x0.getD x2.toNat (R_laws_eqPlanStepS.C.dflt Ty.step) = x1.getD x2.toNat (R_laws_eqPlanStepS.C.dflt Ty.step))) (some (.ret (.bool false) [])) (some (.go (todoAt R_laws_eqPlanStepS.fn 4) [.sl .step x0, .sl .step x1, .int .i64 (IntKind.i64.wrap (x2 + (1 : Int)))] []))) (none)) (none)) (some (.ret (.bool true) [])) := by kernel_rfl
theorem l_laws_eqPlanStepS (l l' : List Stp) (hl' : l.length = l'.length) (g0 : l.length ≤ 1000000000) (g1 : True) : ∀ (d i : Nat), i + d = l.length → l.take i = l'.take i →
    Cut R_laws_eqPlanStepS g_laws_eqPlanStepS 4 [.sl .step l, .sl .step l', .int .i64 (i : Int)] [] (.bool (decide (l = l'))) [] := by
  intro d
  induction d with
  | zero =>
    intro i hi ht
    refine Cut.of R_laws_eqPlanStepS_ok rfl (t_laws_eqPlanStepS_4 l l' i) ?_
    rw [show decide ((i : Int) < (l.length : Int)) = false from decide_eq_false (by omega)]
    rw [List.take_of_length_le (by omega), List.take_of_length_le (by omega)] at ht
    exact Sat.retB (decide_eq_true ht).symm rfl
  | succ d ih =>
    intro i hi ht
    refine Cut.of R_laws_eqPlanStepS_ok rfl (t_laws_eqPlanStepS_4 l l' i) ?_
    have hlt : i < l.length := by omega
    have hw : IntKind.wrap .i64 ((i : Int) + 1) = ((i + 1 : Nat) : Int) := by rw [wrap_ok] <;> omega
    have hw1 : IntKind.wrap .i64 ((i : Int) - 1) = (i : Int) - 1 := by rw [wrap_ok] <;> omega
    have hd : l.drop i = l[i] :: l.drop (i + 1) := List.drop_eq_getElem_cons hlt
    have hx : l.getD (i : Int).toNat (R_laws_eqPlanStepS.C.dflt .step) = l[i] := by simp [hlt]
    have hin : inb (i : Int) l.length = true := by simp only [inb, Bool.and_eq_true, decide_eq_true_eq]; omega
    have hlo : decide ((i : Int) < (l.length : Int)) = true := decide_eq_true (by omega)
    have htk := List.take_succ_eq_append_getElem hlt
    have hl : (l.take (i + 1)).getLast? = some l[i] := by rw [List.take_succ_eq_append_getElem hlt, List.getLast?_concat]
    have hlt' : i < l'.length := by omega
    have hin' : inb (i : Int) l'.length = true := by simp only [inb, Bool.and_eq_true, decide_eq_true_eq]; omega
    have hx' : l'.getD (i : Int).toNat (R_laws_eqPlanStepS.C.dflt .step) = l'[i] := by simp [hlt']
    rw [hlo, hin, hin', hx, hx', hw]
    simp only [ifb_true]
    by_cases he : l[i] = l'[i]
    · rw [show decide (l[i] = l'[i]) = true from decide_eq_true he]
      simp only [Bool.not_true, ifb_false]
      exact Sat.cut (ih (i + 1) (by omega) (by rw [List.take_succ_eq_append_getElem hlt, List.take_succ_eq_append_getElem hlt', ht, he]))
    · rw [show decide (l[i] = l'[i]) = false from decide_eq_false he]
      simp only [Bool.not_false, ifb_true]
      exact Sat.retB (decide_eq_false (fun h => he (by subst h; rfl))).symm rfl
theorem c_laws_eqPlanStepS (l l' : List Stp) (hg : tS_PlanStep l = true) : CallOK Tryz.prog CP g_laws_eqPlanStepS [.sl .step l, .sl .step l'] [] ((.bool (decide (l = l')))) [] := by
  refine CallOK.of R_laws_eqPlanStepS_ok (by kernel_rfl) (t_laws_eqPlanStepS l l') ?_
  simp only [tS_PlanStep, Bool.and_eq_true, decide_eq_true_eq] at hg
  obtain ⟨g0, g1⟩ := hg
  by_cases hl : l.length = l'.length
  · rw [show ((l.length : Int) != (l'.length : Int)) = false by simp [hl]]
    simp only [ifb_false]
    have := l_laws_eqPlanStepS l l' hl g0 trivial l.length 0 (by omega) rfl
    exact Sat.cut this
  · rw [show ((l.length : Int) != (l'.length : Int)) = true by simp; omega]
    exact Sat.retB (decide_eq_false (fun h => hl (by rw [h]))).symm rfl
theorem E_laws_eqPlanStepS_ok : EntOK Tryz.prog CP g_laws_eqPlanStepS E_laws_eqPlanStepS := by
  refine ⟨⟨Tryz.f133, by kernel_rfl, by kernel_rfl, by kernel_rfl⟩, fun args H res H' h => ?_⟩
  simp only [E_laws_eqPlanStepS] at h
  split at h
  · simp only [Option.some.injEq, Prod.mk.injEq] at h
    obtain ⟨hg, rfl, rfl⟩ := h
    exact c_laws_eqPlanStepS _ _ hg
  · cases h

/-- laws.eqPlanPath -/
noncomputable def R_laws_eqPlanPath : RE Ty El := ⟨Tryz.prog, CP, [(g_laws_eqPlanStepS, E_laws_eqPlanStepS)], Tryz.f41, 0, [], []⟩
theorem R_laws_eqPlanPath_ok : REOK R_laws_eqPlanPath g_laws_eqPlanPath := ⟨CP_ok, (TabOK.cons E_laws_eqPlanStepS_ok EOKnil), by kernel_rfl, by kernel_rfl⟩
theorem t_laws_eqPlanPath (ss : List Stp) (frm : Int) (by_ : Int) (ss' : List Stp) (frm' : Int) (by_' : Int) : aRun R_laws_eqPlanPath 600 false (body0 R_laws_eqPlanPath.fn) (initSt R_laws_eqPlanPath.fn [.agg [.sl .step ss, .int .i64 frm, .int .i64 by_], .agg [.sl .step ss', .int .i64 frm', .int .i64 by_']] []) =
  ifb (tS_PlanStep ss) (ifb (!decide (ss = ss')) (some (.ret (.bool false) [])) (ifb (frm != frm') (some (.ret (.bool false) [])) (ifb (by_ != by_') (some (.ret (.bool false) [])) (some (.ret (.bool true) []))))) (none) := by kernel_rfl
theorem c_laws_eqPlanPath (ss : List Stp) (frm : Int) (by_ : Int) (ss' : List Stp) (frm' : Int) (by_' : Int) (hg : t_PlanPath ss frm by_ = true) : CallOK Tryz.prog CP g_laws_eqPlanPath [.agg [.sl .step ss, .int .i64 frm, .int .i64 by_], .agg [.sl .step ss', .int .i64 frm', .int .i64 by_']] [] (.bool ((decide (ss = ss') && (decide (frm = frm') && (decide (by_ = by_') && true))))) [] := by
  refine CallOK.of R_laws_eqPlanPath_ok (by kernel_rfl) (t_laws_eqPlanPath ss frm by_ ss' frm' by_') ?_
  simp only [t_PlanPath, Bool.and_eq_true] at hg
  obtain ⟨g0, -⟩ := hg
  rw [show tS_PlanStep ss = true by assumption]
  simp only [ifb_true]
  cases q0 : decide (ss = ss') with
  | false =>
    simp only [Bool.not_false, ifb_true, Bool.false_and]
    exact Sat.retB rfl rfl
  | true =>
  simp only [Bool.not_true, ifb_false, Bool.true_and]
  by_cases e1 : frm = frm'
  case neg => rw [show (frm != frm') = true by simp [e1], decide_eq_false e1]; exact Sat.retB (by simp) rfl
  rw [show (frm != frm') = false by simp [e1], decide_eq_true e1]
  simp only [ifb_false, Bool.true_and]
  by_cases e2 : by_ = by_'
  case neg => rw [show (by_ != by_') = true by simp [e2], decide_eq_false e2]; exact Sat.retB (by simp) rfl
  rw [show (by_ != by_') = false by simp [e2], decide_eq_true e2]
  simp only [ifb_false, Bool.true_and]
  exact Sat.retB rfl rfl
theorem E_laws_eqPlanPath_ok : EntOK Tryz.prog CP g_laws_eqPlanPath E_laws_eqPlanPath := by
  refine ⟨⟨Tryz.f41, by kernel_rfl, by kernel_rfl, by kernel_rfl⟩, fun args H res H' h => ?_⟩
  simp only [E_laws_eqPlanPath] at h
  split at h
  · simp only [Option.some.injEq, Prod.mk.injEq] at h
    obtain ⟨hg, rfl, rfl⟩ := h
    exact c_laws_eqPlanPath _ _ _ _ _ _ hg
  · cases h

/-- laws.heldPlanStepS -/
noncomputable def R_laws_heldPlanStepS : RE Ty El := ⟨Tryz.prog, CP, [], Tryz.f137, 0, [], [(2, [(0, .any), (1, .any), (5, .any)])]⟩
theorem R_laws_heldPlanStepS_ok : REOK R_laws_heldPlanStepS g_laws_heldPlanStepS := ⟨CP_ok, EOKnil, by kernel_rfl, by kernel_rfl⟩
theorem t_laws_heldPlanStepS (l : List Stp) (k : Int) : aRun R_laws_heldPlanStepS 600 false (body0 R_laws_heldPlanStepS.fn) (initSt R_laws_heldPlanStepS.fn [.sl .step l, .int .i64 k] []) =
  some (.go (todoAt R_laws_heldPlanStepS.fn 2) [.sl .step l, .int .i64 k, .int .i64 (0 : Int)] []) := by kernel_rfl
theorem t_laws_heldPlanStepS_2 (x0 : List (El .step)) (x1 : Int) (x2 : Int) : aRun R_laws_heldPlanStepS 600 true (todoAt R_laws_heldPlanStepS.fn 2) (cutSt R_laws_heldPlanStepS.fn (liveOf R_laws_heldPlanStepS (todoAt R_laws_heldPlanStepS.fn 2)) [.sl .step x0, .int .i64 x1, .int .i64 x2] []) =
  ifb (decide (x2 < (↑x0.length : Int))) (ifb (inb x2 x0.length) (ifb ((x0.getD x2.toNat (R_laws_heldPlanStepS.C.dflt Ty.step)).x != x1) (some (.ret (.int .i64 (-1 : Int)) [])) (ifb (inb x2 x0.length) (ifb ((x0.getD x2.toNat (R_laws_heldPlanStepS.C.dflt Ty.step)).y != IntKind.i64.wrap (x1 + (1 : Int))) (some (.ret (.int .i64 (-1 : Int)) [])) (ifb (inb x2 x0.length) (ifb ((x0.getD x2.toNat (R_laws_heldPlanStepS.C.dflt Ty.step)).low != IntKind.i64.wrap (IntKind.i64.wrap (x1 + (1 : Int)) + (1 : Int))) (some (.ret (.int .i64 (-1 : Int)) [])) (ifb (inb x2 x0.length) (ifb ((x0.getD x2.toNat (R_laws_heldPlanStepS.C.dflt Ty.step)).high != IntKind.i64.wrap (IntKind.i64.wrap (IntKind.i64.wrap (x1 + (1 : Int)) + (1 : Int)) + (1 : Int))) (some (.ret (.int .i64 (-1 : Int)) [])) (ifb (inb x2 x0.length) (ifb ((x0.getD x2.toNat (R_laws_heldPlanStepS.C.dflt Ty.step)).frm != IntKind.i64.wrap (IntKind.i64.wrap (IntKind.i64.wrap (IntKind.i64.wrap (x1 + (1 : Int)) + (1 : Int)) + (1 : Int)) + (1 : Int))) (some (.ret (.int .i64 (-1 : Int)) [])) (ifb (inb x2 x0.length) (ifb ((x0.getD x2.toNat (R_laws_heldPlanStepS.C.dflt Ty.step)).by_ != IntKind.i64.wrap (IntKind.i64.wrap (IntKind.i64.wrap (IntKind.i64.wrap (IntKind.i64.wrap (x1 + (1 : Int)) + (1 : Int)) + (1 : Int)) + (1 : Int)) + (1 : Int))) (some (.ret (.int .i64 (-1 : Int)) [])) (some (.go (todoAt R_laws_heldPlanStepS.fn 2) [.sl .step x0, .int .i64 (IntKind.i64.wrap (IntKind.i64.wrap (IntKind.i64.wrap (IntKind.i64.wrap (IntKind.i64.wrap (IntKind.i64.wrap (x1 + (1 : Int)) + (1 : Int)) + (1 : Int)) + (1 : Int)) + (1 : Int)) + (1 : Int))), .int .i64 (IntKind.i64.wrap (x2 + (1 : Int)))] []))) (none))) (none))) (none))) (none))) (none))) (none)) (some (.ret (.int .i64 x1) [])) := by kernel_rfl
theorem l_laws_heldPlanStepS (l : List Stp) (g0 : l.length ≤ 1000000000) (ha : True) : ∀ (d i : Nat) (x : Int), i + d = l.length →
    Cut R_laws_heldPlanStepS g_laws_heldPlanStepS 2 [.sl .step l, .int .i64 x, .int .i64 (i : Int)] [] (.int .i64 ((hdS_PlanStep (l.drop i) x).getD (-1))) [] := by
  intro d
  induction d with
  | zero =>
    intro i x hi
    refine Cut.of R_laws_heldPlanStepS_ok rfl (t_laws_heldPlanStepS_2 l x i) ?_
    rw [decide_eq_false (by omega), List.drop_of_length_le (by omega)]
    exact Sat.retI rfl rfl
  | succ d ih =>
    intro i x hi
    refine Cut.of R_laws_heldPlanStepS_ok rfl (t_laws_heldPlanStepS_2 l x i) ?_
    have hlt : i < l.length := by omega
    have hw : IntKind.wrap .i64 ((i : Int) + 1) = ((i + 1 : Nat) : Int) := by rw [wrap_ok] <;> omega
    have hw1 : IntKind.wrap .i64 ((i : Int) - 1) = (i : Int) - 1 := by rw [wrap_ok] <;> omega
    have hd : l.drop i = l[i] :: l.drop (i + 1) := List.drop_eq_getElem_cons hlt
    have hx0 : l.getD (i : Int).toNat (R_laws_heldPlanStepS.C.dflt .step) = l[i] := by simp [hlt]
    have hin : inb (i : Int) l.length = true := by simp only [inb, Bool.and_eq_true, decide_eq_true_eq]; omega
    have hlo : decide ((i : Int) < (l.length : Int)) = true := decide_eq_true (by omega)
    have htk := List.take_succ_eq_append_getElem hlt
    have hl : (l.take (i + 1)).getLast? = some l[i] := by rw [List.take_succ_eq_append_getElem hlt, List.getLast?_concat]
    rw [hlo, hin, hx0, hw, hd]
    simp only [ifb_true]
    by_cases e0 : l[i].x = x
    case neg => rw [show (l[i].x != x) = true by simp [e0]]; rw [show hdS_PlanStep (l[i] :: l.drop (i + 1)) x = none by simp [hdS_PlanStep, hd_PlanStep, e0]]; exact Sat.retI rfl rfl
    rw [show (l[i].x != x) = false by simp [e0]]
    simp only [ifb_false, Bool.not_true]
    by_cases e1 : l[i].y = (IntKind.wrap .i64 (x + 1))
    case neg => rw [show (l[i].y != (IntKind.wrap .i64 (x + 1))) = true by simp [e1]]; rw [show hdS_PlanStep (l[i] :: l.drop (i + 1)) x = none by simp [hdS_PlanStep, hd_PlanStep, e0, e1]]; exact Sat.retI rfl rfl
    rw [show (l[i].y != (IntKind.wrap .i64 (x + 1))) = false by simp [e1]]
    simp only [ifb_false, Bool.not_true]
    by_cases e2 : l[i].low = (IntKind.wrap .i64 (IntKind.wrap .i64 (x + 1) + 1))
    case neg => rw [show (l[i].low != (IntKind.wrap .i64 (IntKind.wrap .i64 (x + 1) + 1))) = true by simp [e2]]; rw [show hdS_PlanStep (l[i] :: l.drop (i + 1)) x = none by simp [hdS_PlanStep, hd_PlanStep, e0, e1, e2]]; exact Sat.retI rfl rfl
    rw [show (l[i].low != (IntKind.wrap .i64 (IntKind.wrap .i64 (x + 1) + 1))) = false by simp [e2]]
    simp only [ifb_false, Bool.not_true]
    by_cases e3 : l[i].high = (IntKind.wrap .i64 (IntKind.wrap .i64 (IntKind.wrap .i64 (x + 1) + 1) + 1))
    case neg => rw [show (l[i].high != (IntKind.wrap .i64 (IntKind.wrap .i64 (IntKind.wrap .i64 (x + 1) + 1) + 1))) = true by simp [e3]]; rw [show hdS_PlanStep (l[i] :: l.drop (i + 1)) x = none by simp [hdS_PlanStep, hd_PlanStep, e0, e1, e2, e3]]; exact Sat.retI rfl rfl
    rw [show (l[i].high != (IntKind.wrap .i64 (IntKind.wrap .i64 (IntKind.wrap .i64 (x + 1) + 1) + 1))) = false by simp [e3]]
    simp only [ifb_false, Bool.not_true]
    by_cases e4 : l[i].frm = (IntKind.wrap .i64 (IntKind.wrap .i64 (IntKind.wrap .i64 (IntKind.wrap .i64 (x + 1) + 1) + 1) + 1))
    case neg => rw [show (l[i].frm != (IntKind.wrap .i64 (IntKind.wrap .i64 (IntKind.wrap .i64 (IntKind.wrap .i64 (x + 1) + 1) + 1) + 1))) = true by simp [e4]]; rw [show hdS_PlanStep (l[i] :: l.drop (i + 1)) x = none by simp [hdS_PlanStep, hd_PlanStep, e0, e1, e2, e3, e4]]; exact Sat.retI rfl rfl
    rw [show (l[i].frm != (IntKind.wrap .i64 (IntKind.wrap .i64 (IntKind.wrap .i64 (IntKind.wrap .i64 (x + 1) + 1) + 1) + 1))) = false by simp [e4]]
    simp only [ifb_false, Bool.not_true]
    by_cases e5 : l[i].by_ = (IntKind.wrap .i64 (IntKind.wrap .i64 (IntKind.wrap .i64 (IntKind.wrap .i64 (IntKind.wrap .i64 (x + 1) + 1) + 1) + 1) + 1))
    case neg => rw [show (l[i].by_ != (IntKind.wrap .i64 (IntKind.wrap .i64 (IntKind.wrap .i64 (IntKind.wrap .i64 (IntKind.wrap .i64 (x + 1) + 1) + 1) + 1) + 1))) = true by simp [e5]]; rw [show hdS_PlanStep (l[i] :: l.drop (i + 1)) x = none by simp [hdS_PlanStep, hd_PlanStep, e0, e1, e2, e3, e4, e5]]; exact Sat.retI rfl rfl
    rw [show (l[i].by_ != (IntKind.wrap .i64 (IntKind.wrap .i64 (IntKind.wrap .i64 (IntKind.wrap .i64 (IntKind.wrap .i64 (x + 1) + 1) + 1) + 1) + 1))) = false by simp [e5]]
    simp only [ifb_false, Bool.not_true]
    rw [show hdS_PlanStep (l[i] :: l.drop (i + 1)) x = hdS_PlanStep (l.drop (i + 1)) (IntKind.wrap .i64 (IntKind.wrap .i64 (IntKind.wrap .i64 (IntKind.wrap .i64 (IntKind.wrap .i64 (IntKind.wrap .i64 (x + 1) + 1) + 1) + 1) + 1) + 1)) by simp [hdS_PlanStep, hd_PlanStep, e0, e1, e2, e3, e4, e5]]
    exact Sat.cut (ih (i + 1) _ (by omega))
theorem c_laws_heldPlanStepS (l : List Stp) (k : Int) (hg : tS_PlanStep l = true) : CallOK Tryz.prog CP g_laws_heldPlanStepS [.sl .step l, .int .i64 k] [] (.int .i64 ((hdS_PlanStep l k).getD (-1))) [] := by
  refine CallOK.of R_laws_heldPlanStepS_ok (by kernel_rfl) (t_laws_heldPlanStepS l k) ?_
  simp only [tS_PlanStep, Bool.and_eq_true, decide_eq_true_eq] at hg
  obtain ⟨g0, g1⟩ := hg
  exact Sat.cut (l_laws_heldPlanStepS l g0 trivial l.length 0 k (by omega))
theorem E_laws_heldPlanStepS_ok : EntOK Tryz.prog CP g_laws_heldPlanStepS E_laws_heldPlanStepS := by
  refine ⟨⟨Tryz.f137, by kernel_rfl, by kernel_rfl, by kernel_rfl⟩, fun args H res H' h => ?_⟩
  simp only [E_laws_heldPlanStepS] at h
  split at h
  · simp only [Option.some.injEq, Prod.mk.injEq] at h
    obtain ⟨hg, rfl, rfl⟩ := h
    exact c_laws_heldPlanStepS _ _ hg
  · cases h

/-- laws.heldPlanPath -/
noncomputable def R_laws_heldPlanPath : RE Ty El := ⟨Tryz.prog, CP, [(g_laws_heldPlanStepS, E_laws_heldPlanStepS)], Tryz.f44, 0, [], []⟩
theorem R_laws_heldPlanPath_ok : REOK R_laws_heldPlanPath g_laws_heldPlanPath := ⟨CP_ok, (TabOK.cons E_laws_heldPlanStepS_ok EOKnil), by kernel_rfl, by kernel_rfl⟩
theorem t_laws_heldPlanPath (ss : List Stp) (frm : Int) (by_ : Int) (k : Int) : aRun R_laws_heldPlanPath 600 false (body0 R_laws_heldPlanPath.fn) (initSt R_laws_heldPlanPath.fn [.agg [.sl .step ss, .int .i64 frm, .int .i64 by_], .int .i64 k] []) =
  ifb (tS_PlanStep ss) (ifb (decide ((hdS_PlanStep ss k).getD (-1 : Int) < (0 : Int))) (some (.ret (.int .i64 (-1 : Int)) [])) (some (.ret (.int .i64 ((hdS_PlanStep ss k).getD (-1 : Int))) []))) (none) := by kernel_rfl
theorem c_laws_heldPlanPath (ss : List Stp) (frm : Int) (by_ : Int) (k : Int) (hg : t_PlanPath ss frm by_ = true) : CallOK Tryz.prog CP g_laws_heldPlanPath [.agg [.sl .step ss, .int .i64 frm, .int .i64 by_], .int .i64 k] [] (.int .i64 ((hd_PlanPath ss frm by_ k).getD (-1))) [] := by
  refine CallOK.of R_laws_heldPlanPath_ok (by kernel_rfl) (t_laws_heldPlanPath ss frm by_ k) ?_
  simp only [t_PlanPath, Bool.and_eq_true] at hg
  obtain ⟨g0, -⟩ := hg
  unfold hd_PlanPath
  rw [show tS_PlanStep ss = true by assumption]
  simp only [ifb_true]
  cases q0 : hdS_PlanStep ss k with
  | none => exact Sat.retI rfl rfl
  | some k0 =>
  simp only [Option.getD_some]
  by_cases c0 : k0 < 0
  · rw [decide_eq_true c0, if_pos c0]; exact Sat.retI rfl rfl
  rw [decide_eq_false c0, if_neg c0]
  simp only [ifb_false]
  exact Sat.retI rfl rfl
theorem E_laws_heldPlanPath_ok : EntOK Tryz.prog CP g_laws_heldPlanPath E_laws_heldPlanPath := by
  refine ⟨⟨Tryz.f44, by kernel_rfl, by kernel_rfl, by kernel_rfl⟩, fun args H res H' h => ?_⟩
  simp only [E_laws_heldPlanPath] at h
  split at h
  · simp only [Option.some.injEq, Prod.mk.injEq] at h
    obtain ⟨hg, rfl, rfl⟩ := h
    exact c_laws_heldPlanPath _ _ _ _ hg
  · cases h
end Lx
/- Small arguments: what the laws' own measure gives. -/
set_option linter.unusedVariables false
set_option linter.unusedSimpArgs false
namespace Lx
open Go Go.Proofs
theorem sumN_mem {α : Type} (f : α → Nat) {a : α} : ∀ {l : List α}, a ∈ l → f a ≤ sumN f l
  | b :: l, h => by
    rw [sumN_cons]
    rcases List.mem_cons.1 h with rfl | h
    · omega
    · have := sumN_mem f h; omega
theorem flds_small {l : List Fld} {N : Nat} (hN : N ≤ 1000000000) (h : wS_PlanField l ≤ N) : tS_PlanField l = true ∧ l.length ≤ N ∧ l.all (fun f => szV f.value) = true := by
  unfold wS_PlanField at h
  refine ⟨by unfold tS_PlanField; rw [decide_eq_true (by omega)]; rfl, by omega, List.all_eq_true.2 fun z hz => decide_eq_true ?_⟩
  have := sumN_mem (fun z : Fld => w_PlanField z.what z.number z.value) hz
  simp only [w_PlanField] at this
  simp only [w_PlanField] at h
  omega
theorem entry_small {e : Entry} {N : Nat} (hN : N ≤ 1000000000) (h : w_PlanEntry e.name e.fields ≤ N) : t_PlanEntry e.name e.fields = true ∧ szE e = true := by
  unfold w_PlanEntry at h
  obtain ⟨h1, h2, h3⟩ := flds_small hN (by omega : wS_PlanField e.fields ≤ N)
  refine ⟨by unfold t_PlanEntry; rw [h1]; rfl, ?_⟩
  unfold szE
  rw [h3, decide_eq_true (by omega)]; rfl
theorem entries_small {l : List Entry} {N : Nat} (hN : N ≤ 1000000000) (h : wS_PlanEntry l ≤ N) : tS_PlanEntry l = true ∧ szB l = true ∧ l.length ≤ N := by
  unfold wS_PlanEntry at h
  have hm : ∀ z ∈ l, w_PlanEntry z.name z.fields ≤ N := fun z hz => by
    have := sumN_mem (fun z : Entry => w_PlanEntry z.name z.fields) hz
    have this : w_PlanEntry z.name z.fields ≤ sumN (fun z : Entry => w_PlanEntry z.name z.fields) l := this
    omega
  refine ⟨?_, ?_, by omega⟩
  · unfold tS_PlanEntry
    rw [decide_eq_true (by omega), List.all_eq_true.2 fun z hz => (entry_small hN (hm z hz)).1]; rfl
  · unfold szB
    rw [decide_eq_true (by omega), List.all_eq_true.2 fun z hz => (entry_small hN (hm z hz)).2]; rfl
theorem book_small {ks : List Kind} {ps : List Point} {es : List Entry} (h : w_PlanBook ks ps es ≤ 1048576) : t_PlanBook ks ps es = true ∧ szB es = true ∧ es.length ≤ 1048576 ∧ ps.length ≤ 1048576 ∧ ks.length ≤ 1048576 := by
  unfold w_PlanBook w_PlanBase wS_PlanKind wS_PlanPoint at h
  obtain ⟨h1, h2, h3⟩ := entries_small (N := 1048576) (by omega) (by omega : wS_PlanEntry es ≤ 1048576)
  refine ⟨?_, h2, h3, by omega, by omega⟩
  unfold t_PlanBook tS_PlanKind tS_PlanPoint
  rw [decide_eq_true (by omega), decide_eq_true (by omega), h1]; rfl
end Lx
/- The law of PlanPathOf, exact. -/
set_option linter.unusedVariables false
set_option linter.unusedSimpArgs false
set_option maxRecDepth 4000
namespace Lx
open Go Go.Proofs
/-- laws.FnExactPlanPathOf -/
noncomputable def R_laws_FnExactPlanPathOf : RE Ty El := ⟨Tryz.prog, CP, [(g_laws_szPlanBook, E_laws_szPlanBook), (g_laws_toPlanBook, E_laws_toPlanBook), (g_spec_PlanPathOf, E_spec_PlanPathOfo), (g_impl_PlanPathOf, E_impl_PlanPathOfo), (g_laws_eqPlanBook, E_laws_eqPlanBook), (g_laws_eqPlanPath, E_laws_eqPlanPath), (g_laws_markPlanBook, E_laws_markPlanBook), (g_laws_markPlanPath, E_laws_markPlanPath), (g_laws_heldPlanPath, E_laws_heldPlanPath)], Tryz.f7, 0, [], []⟩
theorem R_laws_FnExactPlanPathOf_ok : REOK R_laws_FnExactPlanPathOf g_laws_FnExactPlanPathOf := ⟨CP_ok, (TabOK.cons E_laws_szPlanBook_ok (TabOK.cons E_laws_toPlanBook_ok (TabOK.cons E_spec_PlanPathOfo_ok (TabOK.cons E_impl_PlanPathOfo_ok (TabOK.cons E_laws_eqPlanBook_ok (TabOK.cons E_laws_eqPlanPath_ok (TabOK.cons E_laws_markPlanBook_ok (TabOK.cons E_laws_markPlanPath_ok (TabOK.cons E_laws_heldPlanPath_ok EOKnil))))))))), by kernel_rfl, by kernel_rfl⟩
theorem t_laws_FnExactPlanPathOf (ks : List Kind) (ps : List Point) (es : List Entry) (n : Str) : aRun R_laws_FnExactPlanPathOf 600 false (body0 R_laws_FnExactPlanPathOf.fn) (initSt R_laws_FnExactPlanPathOf.fn [.agg [.sl .lkind ks, .sl .lpoint ps, .sl .lentry es], .str n] []) =
  ifb (decide ((↑(List.length n) : Int) > (1048576 : Int))) (some (.ret (.bool true) [])) (ifb (ok_PlanBook ks ps es && leftOk (1048576 : Int)) (ifb (decide (szL (1048576 : Int) (w_PlanBook ks ps es) < (0 : Int))) (some (.ret (.bool true) [])) (ifb (t_PlanBook ks ps es) (ifb (szB es && decide (es.length < (1000000000 : Nat))) (ifb (t_PlanBook ks ps es) (ifb (szB es && decide (es.length < (1000000000 : Nat))) (ifb (t_PlanPath (pathF ks ps es n).steps (pathF ks ps es n).frm (pathF ks ps es n).by_) (ifb (!(decide ((pathF ks ps es n).steps = (pathF ks ps es n).steps) && (decide ((pathF ks ps es n).frm = (pathF ks ps es n).frm) && (decide ((pathF ks ps es n).by_ = (pathF ks ps es n).by_) && true)))) (some (.ret (.bool false) [])) (ifb ((pathF ks ps es n).code != (pathF ks ps es n).code) (some (.ret (.bool false) [])) (ifb (t_PlanBook ks ps es) (ifb (t_PlanBook ks ps es) (ifb (!(decide (ks = ks) && (decide (ps = ps) && true) && (decide (es = es) && true))) (some (.ret (.bool false) [])) (ifb (t_PlanBook ks ps es) (ifb (decide ((mkS_PlanEntry es (mkS_PlanPoint ps (mkS_PlanKind ks (1 : Int)).snd).snd).snd < (0 : Int))) (some (.ret (.bool false) [])) (ifb (t_PlanPath (pathF ks ps es n).steps (pathF ks ps es n).frm (pathF ks ps es n).by_) (ifb (!(decide ((pathF ks ps es n).steps = (pathF ks ps es n).steps) && (decide ((pathF ks ps es n).frm = (pathF ks ps es n).frm) && (decide ((pathF ks ps es n).by_ = (pathF ks ps es n).by_) && true)))) (some (.ret (.bool false) [])) (ifb ((pathF ks ps es n).code != (pathF ks ps es n).code) (some (.ret (.bool false) [])) (ifb (t_PlanPath (pathF ks ps es n).steps (pathF ks ps es n).frm (pathF ks ps es n).by_) (ifb (t_PlanPath (mkS_PlanStep (pathF ks ps es n).steps (1 : Int)).fst (pathF ks ps es n).frm (pathF ks ps es n).by_) (ifb (decide ((hd_PlanPath (mkS_PlanStep (pathF ks ps es n).steps (1 : Int)).fst (pathF ks ps es n).frm (pathF ks ps es n).by_ (1 : Int)).getD (-1 : Int) < (0 : Int))) (some (.ret (.bool false) [])) (ifb ((hd_PlanPath (mkS_PlanStep (pathF ks ps es n).steps (1 : Int)).fst (pathF ks ps es n).frm (pathF ks ps es n).by_ (1 : Int)).getD (-1 : Int) != (mkS_PlanStep (pathF ks ps es n).steps (1 : Int)).snd) (some (.ret (.bool false) [])) (ifb (t_PlanBook ks ps es) (ifb (szB es && decide (es.length < (1000000000 : Nat))) (ifb (t_PlanPath (pathF ks ps es n).steps (pathF ks ps es n).frm (pathF ks ps es n).by_) (ifb (!(decide ((pathF ks ps es n).steps = (pathF ks ps es n).steps) && (decide ((pathF ks ps es n).frm = (pathF ks ps es n).frm) && (decide ((pathF ks ps es n).by_ = (pathF ks ps es n).by_) && true)))) (some (.ret (.bool false) [])) (ifb ((pathF ks ps es n).code != (pathF ks ps es n).code) (some (.ret (.bool false) [])) (ifb (t_PlanPath (mkS_PlanStep (pathF ks ps es n).steps (1 : Int)).fst (pathF ks ps es n).frm (pathF ks ps es n).by_) (ifb (decide ((hd_PlanPath (mkS_PlanStep (pathF ks ps es n).steps (1 : Int)).fst (pathF ks ps es n).frm (pathF ks ps es n).by_ (1 : Int)).getD (-1 : Int) < (0 : Int))) (some (.ret (.bool false) [])) (ifb ((hd_PlanPath (mkS_PlanStep (pathF ks ps es n).steps (1 : Int)).fst (pathF ks ps es n).frm (pathF ks ps es n).by_ (1 : Int)).getD (-1 : Int) != (mkS_PlanStep (pathF ks ps es n).steps (1 : Int)).snd) (some (.ret (.bool false) [])) (some (.ret (.bool true) [])))) (none)))) (none)) (none)) (none)))) (none)) (none)))) (none))) (none))) (none)) (none)))) (none)) (none)) (none)) (none)) (none))) (none)) := by kernel_rfl
theorem mkS_len : ∀ (l : List Stp) (k : Int), (mkS_PlanStep l k).1.length = l.length
  | [], _ => rfl
  | z :: l, k => by simp only [mkS_PlanStep, List.length_cons, mkS_len l]
theorem c_laws_FnExactPlanPathOf (ks : List Kind) (ps : List Point) (es : List Entry) (n : Str) (hg : ok_PlanBook ks ps es = true) : CallOK Tryz.prog CP g_laws_FnExactPlanPathOf [.agg [.sl .lkind ks, .sl .lpoint ps, .sl .lentry es], .str n] [] (.bool true) [] := by
  refine CallOK.of R_laws_FnExactPlanPathOf_ok (by kernel_rfl) (t_laws_FnExactPlanPathOf ks ps es n) ?_
  have yes : Sat R_laws_FnExactPlanPathOf g_laws_FnExactPlanPathOf (.bool true) [] (some (.ret (.bool true) [])) := Sat.ret rfl rfl
  refine Sat.ifb (fun _ => yes) (fun _ => ?_)
  rw [show (ok_PlanBook ks ps es && leftOk 1048576) = true by rw [hg]; rfl]
  simp only [ifb_true]
  by_cases c : (1048576 : Int) - ((w_PlanBook ks ps es : Nat) : Int) < 0
  · rw [szL_lt c]; exact yes
  have hw : w_PlanBook ks ps es ≤ 1048576 := by omega
  obtain ⟨s1, s2, s3, s4, s5⟩ := book_small hw
  rw [szL_ge c, decide_eq_false c]
  have h40 := steps_len2 (ks := ks) (ps := ps) (es := es) (n := n)
  generalize pathF ks ps es n = r at h40 ⊢
  have n1 := nle_PlanKind ks
  have n2 := nle_PlanPoint ps
  have n3 := nle_PlanEntry es
  have n4 := nle_PlanStep r.steps
  have hw2 : wS_PlanKind ks + wS_PlanPoint ps + wS_PlanEntry es ≤ 1048576 := by
    unfold w_PlanBook w_PlanBase at hw; omega
  obtain ⟨_, k1⟩ := hmS_PlanKind ks 1 (by omega) (by omega)
  obtain ⟨_, k2⟩ := hmS_PlanPoint ps (mkS_PlanKind ks 1).2 (by omega) (by omega)
  obtain ⟨_, k3⟩ := hmS_PlanEntry es (mkS_PlanPoint ps (mkS_PlanKind ks 1).2).2 (by omega) (by omega)
  obtain ⟨e1, e2⟩ := hmS_PlanStep r.steps 1 (by omega) (by omega)
  have hq : hd_PlanPath (mkS_PlanStep r.steps 1).1 r.frm r.by_ 1 = some (mkS_PlanStep r.steps 1).2 := by
    unfold hd_PlanPath
    rw [e1]
    simp only
    rw [if_neg (by omega)]
  have t1 : t_PlanPath r.steps r.frm r.by_ = true := by unfold t_PlanPath tS_PlanStep; rw [decide_eq_true (by omega)]; rfl
  have t2 : t_PlanPath (mkS_PlanStep r.steps 1).1 r.frm r.by_ = true := by unfold t_PlanPath tS_PlanStep; rw [decide_eq_true (by rw [mkS_len]; omega)]; rfl
  have d1 : decide ((mkS_PlanEntry es (mkS_PlanPoint ps (mkS_PlanKind ks 1).2).2).2 < 0) = false := decide_eq_false (by omega)
  have d2 : decide ((mkS_PlanStep r.steps 1).2 < 0) = false := decide_eq_false (by omega)
  simp only [ifb_false, s1, s2, t1, t2, d1, d2, hq, Option.getD_some, decide_eq_true (show es.length < 1000000000 by omega), Bool.and_self, Bool.and_true, ifb_true, bne_self_eq_false, beq_self_eq_true, decide_true, Bool.not_true]
  exact yes
end Lx
