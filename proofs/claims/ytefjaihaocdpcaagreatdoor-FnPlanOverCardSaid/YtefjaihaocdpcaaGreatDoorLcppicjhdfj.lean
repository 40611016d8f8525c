/- The law of what is flown over. -/
import Derived.Test.YtefjaihaocdpcaaGreatDoorLnjbibaalnh
set_option linter.unusedVariables false
set_option linter.unusedSimpArgs false
set_option maxRecDepth 4000
namespace Lx
open Go Go.Proofs
noncomputable def Q7nu : RE Ty El := ⟨Tryz.prog, CP, [(Qig0, Qarm), (Q1rj, Qcyu), (Q92w, Qgsc), (Qhfm, Q4sg), (Q2jn, Q4vh), (Qaxv, Q215), (Qlm4, Qp5x), (Qy6j, Q49v)], Tryz.f5, 0, [], [(11, [(1, .any), (5, .any), (6, .any), (14, .any), (15, .any), (17, .any), (18, .any)]), (20, [(22, .any), (23, .any), (24, .any), (25, .any), (26, .any), (27, .any)]), (28, [(24, .any), (28, .any), (30, .any), (32, .any)]), (23, [(22, .any), (23, .any), (24, .any), (25, .any), (26, .ro .str)])]⟩
theorem Qzq4 : REOK Q7nu Qjrv := ⟨CP_ok, (TabOK.cons Q3nq (TabOK.cons Qfxg (TabOK.cons Qzro (TabOK.cons Qavb (TabOK.cons Q9yb (TabOK.cons Qzbd (TabOK.cons Qh42 (TabOK.cons Qler Qye1)))))))), by kernel_rfl, by kernel_rfl⟩
theorem Qs4x (c m : List Int) : aRun Q7nu 600 false (body0 Q7nu.fn) (Q4gm Q7nu.fn [.sl .u8 c, .sl .u8 m] []) =
 ifb (decide ((↑c.length : Int) > (1048576 : Int))) (some (.ret (.bool true) [])) (ifb (decide ((↑m.length : Int) > (1048576 : Int))) (some (.ret (.bool true) [])) (ifb (Qf9o c) (ifb (szB (dOver c).es && decide ((dOver c).es.length < (1000000000 : Nat)) && decide ((dOver c).ps.length < (1000000000 : Nat))) (ifb (szB (dOver c).es && decide ((dOver c).es.length < (1000000000 : Nat)) && decide ((dOver c).ps.length < (1000000000 : Nat))) (ifb (((overF (dOver c).ks (dOver c).ps (dOver c).es (dOver c).n (dOver c).q).getD ((0 : Int), (0 : Int))).fst != ((overF (dOver c).ks (dOver c).ps (dOver c).es (dOver c).n (dOver c).q).getD ((0 : Int), (0 : Int))).fst) (some (.ret (.bool false) [])) (ifb (((overF (dOver c).ks (dOver c).ps (dOver c).es (dOver c).n (dOver c).q).getD ((0 : Int), (0 : Int))).snd != ((overF (dOver c).ks (dOver c).ps (dOver c).es (dOver c).n (dOver c).q).getD ((0 : Int), (0 : Int))).snd) (some (.ret (.bool false) [])) (ifb (!(overF (dOver c).ks (dOver c).ps (dOver c).es (dOver c).n (dOver c).q).isSome == (overF (dOver c).ks (dOver c).ps (dOver c).es (dOver c).n (dOver c).q).isSome) (some (.ret (.bool false) [])) (ifb ((overF (dOver c).ks (dOver c).ps (dOver c).es (dOver c).n (dOver c).q).isSome) (ifb (decide (((overF (dOver c).ks (dOver c).ps (dOver c).es (dOver c).n (dOver c).q).getD ((0 : Int), (0 : Int))).fst > ((overF (dOver c).ks (dOver c).ps (dOver c).es (dOver c).n (dOver c).q).getD ((0 : Int), (0 : Int))).snd)) (some (.ret (.bool false) [])) (ifb (szB (dOver c).es && decide ((dOver c).es.length < (1000000000 : Nat))) (ifb (szB (dOver c).es && decide ((dOver c).es.length < (1000000000 : Nat))) (some (.go (Qu6t Q7nu.fn 11) [.sl .u8 m, .ptr 0 0, .str ((dOver c).n), .ptr 1 0, .bool ((stB (dOver c).ks (dOver c).ps (dOver c).es (dOver c).n).isSome), .int .i64 ((pathF (dOver c).ks (dOver c).ps (dOver c).es (dOver c).n).code), .int .i64 (0 : Int)] [.box [.sl .kind ((dOver c).ks), .sl .point ((dOver c).ps), .sl .entry ((dOver c).es)], .box [.str (((stB (dOver c).ks (dOver c).ps (dOver c).es (dOver c).n).getD fl0).name), .str (((stB (dOver c).ks (dOver c).ps (dOver c).es (dOver c).n).getD fl0).kind.name), .int .i64 (((stB (dOver c).ks (dOver c).ps (dOver c).es (dOver c).n).getD fl0).kind.quick), .int .i64 (((stB (dOver c).ks (dOver c).ps (dOver c).es (dOver c).n).getD fl0).kind.slow), .int .i64 (((stB (dOver c).ks (dOver c).ps (dOver c).es (dOver c).n).getD fl0).frm), .int .i64 (((stB (dOver c).ks (dOver c).ps (dOver c).es (dOver c).n).getD fl0).by_), .int .i64 (((stB (dOver c).ks (dOver c).ps (dOver c).es (dOver c).n).getD fl0).level), .sl .str (((stB (dOver c).ks (dOver c).ps (dOver c).es (dOver c).n).getD fl0).route)]])) (none)) (none))) (ifb (szB (dOver c).es && decide ((dOver c).es.length < (1000000000 : Nat))) (ifb (szB (dOver c).es && decide ((dOver c).es.length < (1000000000 : Nat))) (some (.go (Qu6t Q7nu.fn 11) [.sl .u8 m, .ptr 0 0, .str ((dOver c).n), .ptr 1 0, .bool ((stB (dOver c).ks (dOver c).ps (dOver c).es (dOver c).n).isSome), .int .i64 ((pathF (dOver c).ks (dOver c).ps (dOver c).es (dOver c).n).code), .int .i64 (0 : Int)] [.box [.sl .kind ((dOver c).ks), .sl .point ((dOver c).ps), .sl .entry ((dOver c).es)], .box [.str (((stB (dOver c).ks (dOver c).ps (dOver c).es (dOver c).n).getD fl0).name), .str (((stB (dOver c).ks (dOver c).ps (dOver c).es (dOver c).n).getD fl0).kind.name), .int .i64 (((stB (dOver c).ks (dOver c).ps (dOver c).es (dOver c).n).getD fl0).kind.quick), .int .i64 (((stB (dOver c).ks (dOver c).ps (dOver c).es (dOver c).n).getD fl0).kind.slow), .int .i64 (((stB (dOver c).ks (dOver c).ps (dOver c).es (dOver c).n).getD fl0).frm), .int .i64 (((stB (dOver c).ks (dOver c).ps (dOver c).es (dOver c).n).getD fl0).by_), .int .i64 (((stB (dOver c).ks (dOver c).ps (dOver c).es (dOver c).n).getD fl0).level), .sl .str (((stB (dOver c).ks (dOver c).ps (dOver c).es (dOver c).n).getD fl0).route)]])) (none)) (none)))))) (none)) (none)) (none))) := by kernel_rfl
theorem Qulg (x0 : List (El .u8)) (x1 : Str) (x2 : Bool) (x3 : Int) (x4 : Int) (x5 : List (El .kind)) (x6 : List (El .point)) (x7 : List (El .entry)) (x8 : Str) (x9 : Str) (x10 : Int) (x11 : Int) (x12 : Int) (x13 : Int) (x14 : Int) (x15 : List (El .str)) : aRun Q7nu 600 true (Qu6t Q7nu.fn 11) (cutSt Q7nu.fn (Q1m4 Q7nu (Qu6t Q7nu.fn 11)) [.sl .u8 x0, .ptr 0 0, .str x1, .ptr 1 0, .bool x2, .int .i64 x3, .int .i64 x4] [.box [.sl .kind x5, .sl .point x6, .sl .entry x7], .box [.str x8, .str x9, .int .i64 x10, .int .i64 x11, .int .i64 x12, .int .i64 x13, .int .i64 x14, .sl .str x15]]) =
 ifb x2 (ifb (x3 == (0 : Int)) (ifb (decide (x4 < (↑x15.length : Int))) (ifb (inb x4 x15.length) (ifb (szB x7 && decide (x7.length < (1000000000 : Nat)) && decide (x6.length < (1000000000 : Nat))) (ifb (!(overF x5 x6 x7 x1 (x15.getD x4.toNat (Q7nu.C.dflt Ty.str))).isSome) (some (.ret (.bool false) [])) (some (.go (Qu6t Q7nu.fn 11) [.sl .u8 x0, .ptr 0 0, .str x1, .ptr 1 0, .bool x2, .int .i64 x3, .int .i64 (IntKind.i64.wrap (x4 + (1 : Int)))] [.box [.sl .kind x5, .sl .point x6, .sl .entry x7], .box [.str x8, .str x9, .int .i64 x10, .int .i64 x11, .int .i64 x12, .int .i64 x13, .int .i64 x14, .sl .str x15]]))) (none)) (none)) (ifb (Qf9o x0) (ifb (decide ((Qq37 x0).ps.length < (1000000000 : Nat))) (some (.go (Qu6t Q7nu.fn 20) [.ptr 0 0, .sl .str ((Qq37 x0).l), .sl .cell ((Qqfy (Qq37 x0).ks (Qq37 x0).ps (Qq37 x0).l).getD []), .bool ((Qqfy (Qq37 x0).ks (Qq37 x0).ps (Qq37 x0).l).isSome), .own 1 [] 0, .int .i64 (IntKind.i64.wrap ((↑(Qq37 x0).l.length : Int) - (1 : Int)))] [.box [.sl .kind ((Qq37 x0).ks), .sl .point ((Qq37 x0).ps)], .row .str [] 0 0 0 .no])) (none)) (none))) (ifb (Qf9o x0) (ifb (decide ((Qq37 x0).ps.length < (1000000000 : Nat))) (some (.go (Qu6t Q7nu.fn 20) [.ptr 0 0, .sl .str ((Qq37 x0).l), .sl .cell ((Qqfy (Qq37 x0).ks (Qq37 x0).ps (Qq37 x0).l).getD []), .bool ((Qqfy (Qq37 x0).ks (Qq37 x0).ps (Qq37 x0).l).isSome), .own 1 [] 0, .int .i64 (IntKind.i64.wrap ((↑(Qq37 x0).l.length : Int) - (1 : Int)))] [.box [.sl .kind ((Qq37 x0).ks), .sl .point ((Qq37 x0).ps)], .row .str [] 0 0 0 .no])) (none)) (none))) (ifb (Qf9o x0) (ifb (decide ((Qq37 x0).ps.length < (1000000000 : Nat))) (some (.go (Qu6t Q7nu.fn 20) [.ptr 0 0, .sl .str ((Qq37 x0).l), .sl .cell ((Qqfy (Qq37 x0).ks (Qq37 x0).ps (Qq37 x0).l).getD []), .bool ((Qqfy (Qq37 x0).ks (Qq37 x0).ps (Qq37 x0).l).isSome), .own 1 [] 0, .int .i64 (IntKind.i64.wrap ((↑(Qq37 x0).l.length : Int) - (1 : Int)))] [.box [.sl .kind ((Qq37 x0).ks), .sl .point ((Qq37 x0).ps)], .row .str [] 0 0 0 .no])) (none)) (none)) := by kernel_rfl
theorem Qfh0 (x0 : List (El .str)) (x1 : List (El .cell)) (x2 : Bool) (x3 : Int) (x4 : List (El .kind)) (x5 : List (El .point)) (x6 : List (El .str)) : aRun Q7nu 600 true (Qu6t Q7nu.fn 20) (cutSt Q7nu.fn (Q1m4 Q7nu (Qu6t Q7nu.fn 20)) [.ptr 0 0, .sl .str x0, .sl .cell x1, .bool x2, .own 1 [] 0, .int .i64 x3] [.box [.sl .kind x4, .sl .point x5], .row .str x6 0 0 0 .no]) =
 ifb (decide (x3 ≥ (0 : Int))) (ifb (inb x3 x0.length) (ifb (decide ((x6.length + [x0.getD x3.toNat (Q7nu.C.dflt Ty.str)].length) * Qbhn Q7nu.P (9 : Nat) ≤ (140737488355328 : Nat))) (some (.go (Qu6t Q7nu.fn 20) [.ptr 0 0, .sl .str x0, .sl .cell x1, .bool x2, .own 1 [] 0, .int .i64 (IntKind.i64.wrap (x3 - (1 : Int)))] [.box [.sl .kind x4, .sl .point x5], .row .str (x6 ++ [x0.getD x3.toNat (Q7nu.C.dflt Ty.str)]) 0 0 0 .no])) (none)) (none)) (some (.go (Qu6t Q7nu.fn 23) [.ptr 0 0, .sl .str x0, .sl .cell x1, .bool x2, .sl .str x6] [.box [.sl .kind x4, .sl .point x5]])) := by kernel_rfl
theorem Q7er (x0 : List (El .str)) (x1 : List (El .cell)) (x2 : Bool) (x3 : List (El .str)) (x4 : List (El .kind)) (x5 : List (El .point)) : aRun Q7nu 600 true (Qu6t Q7nu.fn 23) (cutSt Q7nu.fn (Q1m4 Q7nu (Qu6t Q7nu.fn 23)) [.ptr 0 0, .sl .str x0, .sl .cell x1, .bool x2, .sl .str x3] [.box [.sl .kind x4, .sl .point x5]]) =
 ifb (decide (x5.length < (1000000000 : Nat))) (ifb (decide (x5.length < (1000000000 : Nat))) (ifb (!x2 == (Qqfy x4 x5 x3).isSome) (some (.ret (.bool false) [])) (ifb ((↑((Qqfy x4 x5 x3).getD []).length : Int) != (↑x1.length : Int)) (some (.ret (.bool false) [])) (ifb (!x2 == (Qqfy x4 x5 x0).isSome) (some (.ret (.bool false) [])) (ifb ((↑((Qqfy x4 x5 x0).getD []).length : Int) != (↑x1.length : Int)) (some (.ret (.bool false) [])) (some (.go (Qu6t Q7nu.fn 28) [.sl .cell x1, .sl .cell ((Qqfy x4 x5 x3).getD []), .sl .cell ((Qqfy x4 x5 x0).getD []), .int .i64 (0 : Int)] [])))))) (none)) (none) := by kernel_rfl
theorem Qufk (x0 : List (El .cell)) (x1 : List (El .cell)) (x2 : List (El .cell)) (x3 : Int) : aRun Q7nu 600 true (Qu6t Q7nu.fn 28) (cutSt Q7nu.fn (Q1m4 Q7nu (Qu6t Q7nu.fn 28)) [.sl .cell x0, .sl .cell x1, .sl .cell x2, .int .i64 x3] []) =
 ifb (decide (x3 < (↑x0.length : Int))) (ifb (inb x3 x0.length) (ifb (inb (IntKind.i64.wrap (IntKind.i64.wrap ((↑x1.length : Int) - (1 : Int)) - x3)) x1.length) (ifb (!((x0.getD x3.toNat (Q7nu.C.dflt Ty.cell)).x == (x1.getD (IntKind.i64.wrap (IntKind.i64.wrap ((↑x1.length : Int) - (1 : Int)) - x3)).toNat (Q7nu.C.dflt Ty.cell)).x && ((x0.getD x3.toNat (Q7nu.C.dflt Ty.cell)).y == (x1.getD (IntKind.i64.wrap (IntKind.i64.wrap ((↑x1.length : Int) - (1 : Int)) - x3)).toNat (Q7nu.C.dflt Ty.cell)).y && true))) (some (.ret (.bool false) [])) (ifb (inb x3 x0.length) (ifb (inb x3 x2.length) (ifb (!((x0.getD x3.toNat (Q7nu.C.dflt Ty.cell)).x == (x2.getD x3.toNat (Q7nu.C.dflt Ty.cell)).x && ((x0.getD x3.toNat (Q7nu.C.dflt Ty.cell)).y == (x2.getD x3.toNat (Q7nu.C.dflt Ty.cell)).y && true))) (some (.ret (.bool false) [])) (some (.go (Qu6t Q7nu.fn 28) [.sl .cell x0, .sl .cell x1, .sl .cell x2, .int .i64 (IntKind.i64.wrap (x3 + (1 : Int)))] []))) (none)) (none))) (none)) (none)) (some (.ret (.bool true) [])) := by kernel_rfl
theorem Qbkd (a : List Cell) (h40 : a.length ≤ 40) : ∀ (d i : Nat), i + d = a.length → Cut Q7nu Qjrv 28 [.sl .cell a, .sl .cell a.reverse, .sl .cell a, .int .i64 (i : Int)] [] (.bool true) [] := by
 intro d
 induction d with
 | zero =>
  intro i hi
  refine Cut.of Qzq4 rfl (Qufk a a.reverse a i) ?_
  rw [show decide ((i : Int) < (a.length : Int)) = false from decide_eq_false (by omega)]
  exact Sat.ret rfl rfl
 | succ d ih =>
  intro i hi
  refine Cut.of Qzq4 rfl (Qufk a a.reverse a i) ?_
  have hlt : i < a.length := by omega
  have hw : IntKind.wrap .i64 ((i : Int) + 1) = ((i + 1 : Nat) : Int) := by rw [Qbrg] <;> omega
  have hw1 : IntKind.wrap .i64 ((i : Int) - 1) = (i : Int) - 1 := by rw [Qbrg] <;> omega
  have hd : a.drop i = a[i] :: a.drop (i + 1) := List.drop_eq_getElem_cons hlt
  have hx : a.getD (i : Int).toNat (Q7nu.C.dflt .cell) = a[i] := by simp [hlt]
  have hin : inb (i : Int) a.length = true := by simp only [inb, Bool.and_eq_true, decide_eq_true_eq]; omega
  have hlo : decide ((i : Int) < (a.length : Int)) = true := decide_eq_true (by omega)
  have htk := List.take_succ_eq_append_getElem hlt
  have hl : (a.take (i + 1)).getLast? = some a[i] := by rw [List.take_succ_eq_append_getElem hlt, List.getLast?_concat]
  have hl2 : IntKind.wrap .i64 ((a.reverse.length : Int) - 1) = (a.length : Int) - 1 := by rw [List.length_reverse, Qbrg] <;> omega
  have hl3 : IntKind.wrap .i64 ((a.length : Int) - 1 - (i : Int)) = ((a.length - 1 - i : Nat) : Int) := by rw [Qbrg] <;> omega
  have hin2 : inb ((a.length - 1 - i : Nat) : Int) a.reverse.length = true := by simp only [inb, Bool.and_eq_true, decide_eq_true_eq, List.length_reverse]; omega
  have hx2 : a.reverse.getD ((a.length - 1 - i : Nat) : Int).toNat (Q7nu.C.dflt .cell) = a[i] := by
   rw [Int.toNat_natCast, List.getD_eq_getElem?_getD, List.getElem?_reverse (by omega), show a.length - 1 - (a.length - 1 - i) = i by omega, List.getElem?_eq_getElem hlt]; rfl
  rw [hlo, hin, hx, hw, hl2, hl3, hin2, hx2]
  simp only [Qd8q, beq_self_eq_true, Bool.and_self, Bool.not_true, Qk7y]
  exact Sat.cut (ih (i + 1) (by omega))
theorem Qzwg (l : List Str) (ks : List Kind) (ps : List Point) (hp : ps.length ≤ 100) : Cut Q7nu Qjrv 23 [.ptr 0 0, .sl .str l, .sl .cell ((Qqfy ks ps l).getD []), .bool (Qqfy ks ps l).isSome, .sl .str l.reverse] [.box [.sl .kind ks, .sl .point ps]] (.bool true) [] := by
 refine Cut.of Qzq4 rfl (Q7er l _ _ _ ks ps) ?_
 have e1 : (Qqfy ks ps l.reverse).isSome = (Qqfy ks ps l).isSome := by rw [Q6cr]; cases Qqfy ks ps l <;> rfl
 have e2 : (Qqfy ks ps l.reverse).getD [] = ((Qqfy ks ps l).getD []).reverse := by rw [Q6cr, Qbrl]
 have h40 := Qf6d (ks := ks) (ps := ps) (w := l)
 rw [decide_eq_true (show ps.length < 1000000000 by omega), e1, e2]
 generalize (Qqfy ks ps l).getD [] = a at h40 ⊢
 simp only [Qd8q, beq_self_eq_true, Bool.not_true, Qk7y, List.length_reverse, bne_self_eq_false]
 exact Sat.cut (Qbkd a h40 a.length 0 (by omega))
theorem Qa15 (l : List Str) (ks : List Kind) (ps : List Point) (hp : ps.length ≤ 100) (hl0 : l.length ≤ 1000) : ∀ (j : Nat), j ≤ l.length → Cut Q7nu Qjrv 20 [.ptr 0 0, .sl .str l, .sl .cell ((Qqfy ks ps l).getD []), .bool (Qqfy ks ps l).isSome, .own 1 [] 0, .int .i64 ((j : Int) - 1)] [.box [.sl .kind ks, .sl .point ps], .row .str (l.drop j).reverse 0 0 0 .no] (.bool true) [] := by
 have hb : Qbhn Q7nu.P 9 ≤ 256 := of_decide_eq_true (by kernel_rfl)
 intro j
 induction j with
 | zero =>
  intro hj
  refine Cut.of Qzq4 rfl (Qfh0 l _ _ _ ks ps _) ?_
  rw [show decide (((0 : Nat) : Int) - 1 ≥ 0) = false from rfl]
  exact Sat.cut (Qzwg l ks ps hp)
 | succ j ih =>
  intro hj
  refine Cut.of Qzq4 rfl (Qfh0 l _ _ _ ks ps _) ?_
  have e0 : ((j + 1 : Nat) : Int) - 1 = (j : Int) := by omega
  have hlt : j < l.length := by omega
  have hin : inb (j : Int) l.length = true := by simp only [inb, Bool.and_eq_true, decide_eq_true_eq]; omega
  have hw : IntKind.wrap .i64 ((j : Int) - 1) = (j : Int) - 1 := by rw [Qbrg] <;> omega
  have hx : l.getD (j : Int).toNat (Q7nu.C.dflt .str) = l[j] := by simp [hlt]
  rw [e0, show decide ((j : Int) ≥ 0) = true from decide_eq_true (by omega), hin, hw, hx, Q1mk hb (by simp; omega)]
  have nx := ih (by omega)
  rw [List.drop_eq_getElem_cons hlt, List.reverse_cons] at nx
  exact Sat.cut nx
theorem Qr4x (m : List Int) (hm : Qf9o m = true) : Sat Q7nu Qjrv (.bool true) [] (ifb (Qf9o m) (ifb (decide ((Qq37 m).ps.length < (1000000000 : Nat))) (some (.go (Qu6t Q7nu.fn 20) [.ptr 0 0, .sl .str ((Qq37 m).l), .sl .cell ((Qqfy (Qq37 m).ks (Qq37 m).ps (Qq37 m).l).getD []), .bool ((Qqfy (Qq37 m).ks (Qq37 m).ps (Qq37 m).l).isSome), .own 1 [] 0, .int .i64 (IntKind.i64.wrap (((Qq37 m).l.length : Int) - (1 : Int)))] [.box [.sl .kind ((Qq37 m).ks), .sl .point ((Qq37 m).ps)], .row .str [] 0 0 0 .no])) (none)) (none)) := by
 obtain ⟨c1, c2, c3⟩ := (Qkhd m hm).2
 generalize Qq37 m = z at c1 c2 c3 ⊢
 have hw : IntKind.wrap .i64 ((z.l.length : Int) - 1) = (z.l.length : Int) - 1 := by rw [Qbrg] <;> omega
 rw [hm, decide_eq_true (show z.ps.length < 1000000000 by omega), hw]
 have nx := Qa15 z.l z.ks z.ps c2 c3 z.l.length (Nat.le_refl _)
 rw [List.drop_length, List.reverse_nil] at nx
 exact Sat.cut nx
theorem Q33g (m : List Int) (hm : Qf9o m = true) (n nm k0 : Str) (st : Bool) (cd k1 k2 f1 f2 f3 : Int) (ks : List Kind) (ps : List Point) (es : List Entry) (rt : List Str) (hz : (szB es && decide (es.length < (1000000000 : Nat)) && decide (ps.length < (1000000000 : Nat))) = true) (hrt : rt.length ≤ 2000000000) (hall : st = true → cd = 0 → ∀ (i : Nat), i < rt.length → (overF ks ps es n (rt.getD i [])).isSome = true) : ∀ (d i : Nat), i + d = rt.length →
  Cut Q7nu Qjrv 11 [.sl .u8 m, .ptr 0 0, .str n, .ptr 1 0, .bool st, .int .i64 cd, .int .i64 (i : Int)] [.box [.sl .kind ks, .sl .point ps, .sl .entry es], .box [.str nm, .str k0, .int .i64 k1, .int .i64 k2, .int .i64 f1, .int .i64 f2, .int .i64 f3, .sl .str rt]] (.bool true) [] := by
 intro d
 induction d with
 | zero =>
  intro i hi
  refine Cut.of Qzq4 rfl (Qulg m n st cd i ks ps es nm k0 k1 k2 f1 f2 f3 rt) ?_
  rw [show decide ((i : Int) < (rt.length : Int)) = false from decide_eq_false (by omega)]
  exact Sat.ifb (fun _ => Sat.ifb (fun _ => Qr4x m hm) (fun _ => Qr4x m hm)) (fun _ => Qr4x m hm)
 | succ d ih =>
  intro i hi
  refine Cut.of Qzq4 rfl (Qulg m n st cd i ks ps es nm k0 k1 k2 f1 f2 f3 rt) ?_
  refine Sat.ifb (fun hs => Sat.ifb (fun hc => ?_) (fun _ => Qr4x m hm)) (fun _ => Qr4x m hm)
  have hlt : i < rt.length := by omega
  have hw : IntKind.wrap .i64 ((i : Int) + 1) = ((i + 1 : Nat) : Int) := by rw [Qbrg] <;> omega
  have hw1 : IntKind.wrap .i64 ((i : Int) - 1) = (i : Int) - 1 := by rw [Qbrg] <;> omega
  have hd : rt.drop i = rt[i] :: rt.drop (i + 1) := List.drop_eq_getElem_cons hlt
  have hx : rt.getD (i : Int).toNat (Q7nu.C.dflt .str) = rt[i] := by simp [hlt]
  have hin : inb (i : Int) rt.length = true := by simp only [inb, Bool.and_eq_true, decide_eq_true_eq]; omega
  have hlo : decide ((i : Int) < (rt.length : Int)) = true := decide_eq_true (by omega)
  have htk := List.take_succ_eq_append_getElem hlt
  have hl : (rt.take (i + 1)).getLast? = some rt[i] := by rw [List.take_succ_eq_append_getElem hlt, List.getLast?_concat]
  have hov := hall hs (by simpa using hc) i hlt
  have hx3 : rt.getD (i : Int).toNat (Q7nu.C.dflt .str) = rt.getD i [] := by rw [Int.toNat_natCast]; rfl
  rw [hlo, hin, hx3, hw, hz, hov]
  exact Sat.cut (ih (i + 1) (by omega))
theorem Q6qt (c m : List Int) (hg : (Qf9o c && Qf9o m) = true) : Qewq Tryz.prog CP Qjrv [.sl .u8 c, .sl .u8 m] [] (.bool true) [] := by
 refine Qewq.of Qzq4 (by kernel_rfl) (Qs4x c m) ?_
 simp only [Bool.and_eq_true] at hg
 obtain ⟨hc, hm⟩ := hg
 have yes : Sat Q7nu Qjrv (.bool true) [] (some (.ret (.bool true) [])) := Sat.ret rfl rfl
 refine Sat.ifb (fun _ => yes) (fun _ => Sat.ifb (fun _ => yes) (fun _ => ?_))
 have gb := (Qxst c hc).2
 rw [hc]
 generalize dOver c = z at gb ⊢
 simp only [Qywq, goodS, goodB, Bool.and_eq_true, decide_eq_true_eq] at gb
 obtain ⟨⟨hz, hz2⟩, _, hp, h9, _⟩ := gb
 have z1 : (szB z.es && decide (z.es.length < (1000000000 : Nat))) = true := by rw [hz, decide_eq_true (by omega)]; rfl
 have z2 : (szB z.es && decide (z.es.length < (1000000000 : Nat)) && decide (z.ps.length < (1000000000 : Nat))) = true := by rw [z1, decide_eq_true (by omega)]; rfl
 have main : ∀ i : Nat, i = 0 → Cut Q7nu Qjrv 11 [.sl .u8 m, .ptr 0 0, .str z.n, .ptr 1 0, .bool (stB z.ks z.ps z.es z.n).isSome, .int .i64 (pathF z.ks z.ps z.es z.n).code, .int .i64 (i : Int)] [.box [.sl .kind z.ks, .sl .point z.ps, .sl .entry z.es], .box [.str ((stB z.ks z.ps z.es z.n).getD fl0).name, .str ((stB z.ks z.ps z.es z.n).getD fl0).kind.name, .int .i64 ((stB z.ks z.ps z.es z.n).getD fl0).kind.quick, .int .i64 ((stB z.ks z.ps z.es z.n).getD fl0).kind.slow, .int .i64 ((stB z.ks z.ps z.es z.n).getD fl0).frm, .int .i64 ((stB z.ks z.ps z.es z.n).getD fl0).by_, .int .i64 ((stB z.ks z.ps z.es z.n).getD fl0).level, .sl .str ((stB z.ks z.ps z.es z.n).getD fl0).route]] (.bool true) [] := fun i hi => by
  subst hi
  have hlen : ((stB z.ks z.ps z.es z.n).getD fl0).route.length ≤ 2000000000 := Nat.le_trans (Qomc hz) (by omega)
  refine Q33g m hm z.n _ _ _ _ _ _ _ _ _ z.ks z.ps z.es _ z2 hlen (fun h1 h2 i hi => ?_) _ 0 (Nat.zero_add _)
  cases hst : stB z.ks z.ps z.es z.n with
  | none => rw [hst] at h1; cases h1
  | some f =>
   rw [hst] at hi
   exact Qibn hst h2 i hi
 rw [z2, z1]
 simp only [Qd8q, bne_self_eq_false, Qk7y, beq_self_eq_true, Bool.not_true]
 refine Sat.ifb (fun hs => ?_) (fun _ => Sat.cut (main 0 rfl))
 cases ho : overF z.ks z.ps z.es z.n z.q with
 | none => rw [ho] at hs; cases hs
 | some r =>
  have hle := Qq0p ho
  simp only [Option.getD_some]
  rw [show decide (r.1 > r.2) = false from decide_eq_false (by omega)]
  exact Sat.cut (main 0 rfl)
end Lx
