/- Books drawn. -/
import Derived.Shelf.SlGeneric
import Derived.Shelf.SlSortCmp.WholeK
import Derived.Shelf.Small.Strs
import Derived.KernelRfl
import Derived.Test.YtefjaihaocdpcaaGreatDoorProg
import Derived.Lib.Bytealg
import Derived.Sort.Statements
import Derived.Shelf.GgSortFunc.InsertionK
import Derived.Shelf.SlSortCmp.Insertion
import Derived.Lib.Walk
import Derived.Test.YtefjaihaocdpcaaGreatDoorLdnocnjpddo
import Derived.Test.YtefjaihaocdpcaaGreatDoorLicoikbaike
set_option linter.unusedVariables false
set_option linter.unusedSimpArgs false
set_option maxRecDepth 4000
namespace Lx
open Go Go.Proofs
noncomputable def Qoc9 : RE Ty El := ⟨Tryz.prog, CP, [(Qpxs, Q7v2), (Qbeb, Q8t5), (Qwqy, Q0t5), (Qlb4, Q2m7), (Q43w, Qfl5), (Qstj, Qmce)], Tryz.f142, 1, [.agg [.ro .kind, .ro .point, .ro .entry]], [(4, [(0, .box [.ro .kind, .ro .point, .ro .entry]), (3, .box [.ro .kind, .ro .point, .ro .entry]), (4, .box [.ro .kind, .ro .point, .ro .entry]), (5, .box [.ro .kind, .ro .point, .ro .entry]), (6, .box [.ro .kind, .ro .point, .ro .entry])]), (10, [(4, .box [.ro .kind, .ro .point, .ro .entry]), (5, .box [.ro .kind, .ro .point, .ro .entry]), (7, .box [.ro .kind, .ro .point, .ro .entry])]), (7, [(0, .box [.ro .kind, .ro .point, .ro .entry]), (3, .box [.ro .kind, .ro .point, .ro .entry]), (4, .box [.ro .kind, .ro .point, .ro .entry]), (5, .box [.ro .kind, .ro .point, .ro .entry])])]⟩
theorem Q692 : REOK Qoc9 Q604 := ⟨CP_ok, (TabOK.cons Q0e7 (TabOK.cons Q2a7 (TabOK.cons Qnck (TabOK.cons Qyvn (TabOK.cons Qel0 (TabOK.cons Qqii Qye1)))))), by kernel_rfl, by kernel_rfl⟩
theorem Qh82 (bs : List Int) (p : Int) (ks : List Kind) (ps : List Point) : aRun Qoc9 600 false (body0 Qoc9.fn) (Q4gm Qoc9.fn [.ptr 0 0, .agg [.sl .kind ks, .sl .point ps]] [.box [.sl .u8 bs, .int .i64 p]]) =
 ifb (posOk p) (ifb (decide (pickV bs p (3 : Int) > (0 : Int))) (some (.go (Qu6t Qoc9.fn 4) [.ptr 0 0, .ptr 1 0, .ptr 2 0, .ptr 3 0, .int .i64 (1 : Int)] [.box [.sl .u8 bs, .int .i64 (p + (1 : Int))], .box [.sl .kind ks, .sl .point ps], .box [.sl .kind [], .sl .point [], .sl .entry []], .box [.sl .kind ks, .sl .point ps, .sl .entry []]])) (some (.go (Qu6t Qoc9.fn 7) [.ptr 0 0, .ptr 1 0, .ptr 2 0, .ptr 3 0] [.box [.sl .u8 bs, .int .i64 (p + (1 : Int))], .box [.sl .kind ks, .sl .point ps], .box [.sl .kind [], .sl .point [], .sl .entry []], .box [.sl .kind ks, .sl .point ps, .sl .entry []]]))) (none) := by kernel_rfl
theorem Qbfw (x0 : Int) (x1 : List (El .u8)) (x2 : Int) (x3 : List (El .kind)) (x4 : List (El .point)) (x5 : List (El .kind)) (x6 : List (El .point)) (x7 : List (El .entry)) (x8 : List (El .kind)) (x9 : List (El .point)) (x10 : List (El .entry)) : aRun Qoc9 600 true (Qu6t Qoc9.fn 4) (cutSt Qoc9.fn (Q1m4 Qoc9 (Qu6t Qoc9.fn 4)) [.ptr 0 0, .ptr 1 0, .ptr 2 0, .ptr 3 0, .int .i64 x0] [.box [.sl .u8 x1, .int .i64 x2], .box [.sl .kind x3, .sl .point x4], .box [.sl .kind x5, .sl .point x6, .sl .entry x7], .box [.sl .kind x8, .sl .point x9, .sl .entry x10]]) =
 ifb (decide (x0 ≤ (4 : Int))) (ifb (valK x1 x2 x3 x4) (ifb (goodB x8 x9 x10 && szV (dVal x1 x2 x3 x4 x0).s) (some (.go (Qu6t Qoc9.fn 4) [.ptr 0 0, .ptr 1 0, .ptr 2 0, .ptr 3 0, .int .i64 (IntKind.i64.wrap (x0 + (1 : Int)))] [.box [.sl .u8 x1, .int .i64 ((dVal x1 x2 x3 x4 x0).p)], .box [.sl .kind x3, .sl .point x4], .box [.sl .kind x5, .sl .point x6, .sl .entry x7], .box [.sl .kind ((takeF x8 x9 x10 (Chg.mk #[(107 : UInt8), (108 : UInt8), (49 : UInt8)].toList x0 (1 : Int) (dVal x1 x2 x3 x4 x0).s)).ks), .sl .point ((takeF x8 x9 x10 (Chg.mk #[(107 : UInt8), (108 : UInt8), (49 : UInt8)].toList x0 (1 : Int) (dVal x1 x2 x3 x4 x0).s)).ps), .sl .entry ((takeF x8 x9 x10 (Chg.mk #[(107 : UInt8), (108 : UInt8), (49 : UInt8)].toList x0 (1 : Int) (dVal x1 x2 x3 x4 x0).s)).es)]])) (none)) (none)) (some (.go (Qu6t Qoc9.fn 7) [.ptr 0 0, .ptr 1 0, .ptr 2 0, .ptr 3 0] [.box [.sl .u8 x1, .int .i64 x2], .box [.sl .kind x3, .sl .point x4], .box [.sl .kind x5, .sl .point x6, .sl .entry x7], .box [.sl .kind x8, .sl .point x9, .sl .entry x10]])) := by kernel_rfl
theorem Qui8 (x0 : List (El .u8)) (x1 : Int) (x2 : List (El .kind)) (x3 : List (El .point)) (x4 : List (El .kind)) (x5 : List (El .point)) (x6 : List (El .entry)) (x7 : List (El .kind)) (x8 : List (El .point)) (x9 : List (El .entry)) : aRun Qoc9 600 true (Qu6t Qoc9.fn 7) (cutSt Qoc9.fn (Q1m4 Qoc9 (Qu6t Qoc9.fn 7)) [.ptr 0 0, .ptr 1 0, .ptr 2 0, .ptr 3 0] [.box [.sl .u8 x0, .int .i64 x1], .box [.sl .kind x2, .sl .point x3], .box [.sl .kind x4, .sl .point x5, .sl .entry x6], .box [.sl .kind x7, .sl .point x8, .sl .entry x9]]) =
 ifb (chgsK x0 x1 x2 x3 (24 : Int)) (ifb (tkK x7 x8 x9 (dChgs x0 x1 x2 x3 (24 : Int)).l) (ifb (posOk (dChgs x0 x1 x2 x3 (24 : Int)).p) (ifb (pickV x0 (dChgs x0 x1 x2 x3 (24 : Int)).p (16 : Int) == (0 : Int)) (some (.go (Qu6t Qoc9.fn 10) [.ptr 1 0, .ptr 2 0, .int .i64 (0 : Int)] [.box [.sl .u8 x0, .int .i64 ((dChgs x0 x1 x2 x3 (24 : Int)).p + (1 : Int))], .box [.sl .kind x4, .sl .point x5, .sl .entry x6], .box [.sl .kind x7, .sl .point x8, .sl .entry ((dTk x7 x8 x9 (dChgs x0 x1 x2 x3 (24 : Int)).l).es)]])) (some (.ret (.agg [.sl .kind x7, .sl .point x8, .sl .entry ((dTk x7 x8 x9 (dChgs x0 x1 x2 x3 (24 : Int)).l).es)]) [.box [.sl .u8 x0, .int .i64 ((dChgs x0 x1 x2 x3 (24 : Int)).p + (1 : Int))]]))) (none)) (none)) (none) := by kernel_rfl
theorem Qvgp (x0 : Int) (x1 : List (El .u8)) (x2 : Int) (x3 : List (El .kind)) (x4 : List (El .point)) (x5 : List (El .entry)) (x6 : List (El .kind)) (x7 : List (El .point)) (x8 : List (El .entry)) : aRun Qoc9 600 true (Qu6t Qoc9.fn 10) (cutSt Qoc9.fn (Q1m4 Qoc9 (Qu6t Qoc9.fn 10)) [.ptr 1 0, .ptr 2 0, .int .i64 x0] [.box [.sl .u8 x1, .int .i64 x2], .box [.sl .kind x3, .sl .point x4, .sl .entry x5], .box [.sl .kind x6, .sl .point x7, .sl .entry x8]]) =
 ifb (decide (x0 < (12 : Int))) (ifb (decide ((0 : Int) ≤ x0) && decide (x0 < (10 : Int) ^ ((4 : Nat) + (1 : Nat)))) (ifb (decide (#[(102 : UInt8)].toList.length + List.length (dDec (4 : Nat) x0) ≤ (9223372036854775807 : Nat))) (ifb (goodB x6 x7 x8 && szV #[(50 : UInt8)].toList) (some (.go (Qu6t Qoc9.fn 10) [.ptr 1 0, .ptr 2 0, .int .i64 (IntKind.i64.wrap (x0 + (1 : Int)))] [.box [.sl .u8 x1, .int .i64 x2], .box [.sl .kind x3, .sl .point x4, .sl .entry x5], .box [.sl .kind ((takeF x6 x7 x8 (Chg.mk (#[(102 : UInt8)].toList ++ dDec (4 : Nat) x0) (3 : Int) (5 : Int) #[(50 : UInt8)].toList)).ks), .sl .point ((takeF x6 x7 x8 (Chg.mk (#[(102 : UInt8)].toList ++ dDec (4 : Nat) x0) (3 : Int) (5 : Int) #[(50 : UInt8)].toList)).ps), .sl .entry ((takeF x6 x7 x8 (Chg.mk (#[(102 : UInt8)].toList ++ dDec (4 : Nat) x0) (3 : Int) (5 : Int) #[(50 : UInt8)].toList)).es)]])) (none)) (none)) (none)) (some (.ret (.agg [.sl .kind x6, .sl .point x7, .sl .entry x8]) [.box [.sl .u8 x1, .int .i64 x2]])) := by kernel_rfl
theorem Q8ao (bs : List Int) (ks : List Kind) (ps : List Point) (q : Int) (r0 : List Kind) (r1 : List Point) (r2 : List Entry) : ∀ (d i : Nat) (es : List Entry), i + d = 12 → goodE ks ps es = true →
  CutE Qoc9 Q604 10 [.ptr 1 0, .ptr 2 0, .int .i64 (i : Int)] [.box [.sl .u8 bs, .int .i64 q], .box [.sl .kind r0, .sl .point r1, .sl .entry r2], .box [.sl .kind ks, .sl .point ps, .sl .entry es]] (fun v h => ∃ x : BkP, v = (.agg [.sl .kind ks, .sl .point ps, .sl .entry x.es]) ∧ h = [.box [.sl .u8 bs, .int .i64 x.p]] ∧ goodE ks ps x.es = true ∧ q ≤ x.p ∧ x.p ≤ q + 0) := by
 intro d
 induction d with
 | zero =>
  intro i es hi hg
  refine CutE.of Q692 rfl (Qvgp i bs q r0 r1 r2 ks ps es) ?_
  rw [show decide ((i : Int) < 12) = false from decide_eq_false (by omega), Qk7y]
  exact SatE.ret ⟨⟨es, q⟩, rfl, rfl, hg, by simp, by simp⟩
 | succ d ih =>
  intro i es hi hg
  refine CutE.of Q692 rfl (Qvgp i bs q r0 r1 r2 ks ps es) ?_
  have hw : IntKind.i64.wrap ((i : Int) + 1) = ((i + 1 : Nat) : Int) := by rw [Qbrg] <;> omega
  obtain ⟨g1, l1⟩ := decs (n := (i : Int)) (by omega) (by omega)
  have hgb := hg
  simp only [goodE, Bool.and_eq_true] at hgb
  have hz : szV #[(50 : UInt8)].toList = true := decide_eq_true (by simp)
  obtain ⟨t1, t2, t3⟩ := Qy7k (c := (Chg.mk (#[(102 : UInt8)].toList ++ dDec (4 : Nat) (i : Int)) (3 : Int) (5 : Int) #[(50 : UInt8)].toList)) hg hz
  rw [show decide ((i : Int) < 12) = true from decide_eq_true (by omega), hw, t1, t2, Qd8q]
  exact SatE.need g1 (SatE.need (decide_eq_true (by simp; omega)) (SatE.need (by rw [Bool.and_eq_true]; exact ⟨hgb.2, hz⟩) (SatE.cut (ih (i + 1) _ (by omega) t3))))
theorem Q8ui (bs : List Int) (ks : List Kind) (ps : List Point) (hbs : Qf9o bs = true) (hb : Qib4 ks ps = true) (h1 : 1 ≤ ps.length) (q : Int) (h0 : 0 ≤ q) (hq : q ≤ 880000) (r0 : List Kind) (r1 : List Point) (r2 : List Entry) (es : List Entry) (hg : goodE ks ps es = true) :
  CutE Qoc9 Q604 7 [.ptr 0 0, .ptr 1 0, .ptr 2 0, .ptr 3 0] [.box [.sl .u8 bs, .int .i64 q], .box [.sl .kind ks, .sl .point ps], .box [.sl .kind r0, .sl .point r1, .sl .entry r2], .box [.sl .kind ks, .sl .point ps, .sl .entry es]] (fun v h => ∃ x : BkP, v = (.agg [.sl .kind ks, .sl .point ps, .sl .entry x.es]) ∧ h = [.box [.sl .u8 bs, .int .i64 x.p]] ∧ goodE ks ps x.es = true ∧ q ≤ x.p ∧ x.p ≤ q + 801) := by
 refine CutE.of Q692 rfl (Qui8 bs q ks ps r0 r1 r2 ks ps es) ?_
 have hc : chgsK bs q ks ps 24 = true := by simp only [chgsK, Bool.and_eq_true, decide_eq_true_eq]; exact ⟨hbs, h0, hq, hb, h1, by omega, by omega⟩
 obtain ⟨c1, c2, c3, c4⟩ := (Qbm6 bs q ks ps 24 hc).2
 have ht : tkK ks ps es (dChgs bs q ks ps 24).l = true := by simp only [tkK, Bool.and_eq_true, decide_eq_true_eq]; exact ⟨hg, by omega, c2⟩
 have hd := (Qhv6 ks ps es _ ht).2
 refine SatE.need hc (SatE.need ht (SatE.need (Q8s4 (by omega) (by omega)) (SatE.ifb (fun _ => ?_) (fun _ => ?_))))
 ·refine SatE.mono (SatE.cut (Q8ao bs ks ps _ r0 r1 r2 12 0 _ (by omega) hd)) ?_
  rintro v h ⟨x, rfl, rfl, a1, a2, a3⟩
  exact ⟨x, rfl, rfl, a1, by omega, by omega⟩
 ·exact SatE.ret ⟨⟨_, _⟩, rfl, rfl, hd, by show q ≤ (dChgs bs q ks ps 24).p + 1; omega, by show (dChgs bs q ks ps 24).p + 1 ≤ q + 801; omega⟩
theorem Qygj (bs : List Int) (ks : List Kind) (ps : List Point) (hbs : Qf9o bs = true) (hb : Qib4 ks ps = true) (h1 : 1 ≤ ps.length) (r0 : List Kind) (r1 : List Point) (r2 : List Entry) : ∀ (d i : Nat) (es : List Entry) (q : Int), i + d = 5 → 1 ≤ i → 0 ≤ q → q + 20 * d ≤ 880000 → goodE ks ps es = true →
  CutE Qoc9 Q604 4 [.ptr 0 0, .ptr 1 0, .ptr 2 0, .ptr 3 0, .int .i64 (i : Int)] [.box [.sl .u8 bs, .int .i64 q], .box [.sl .kind ks, .sl .point ps], .box [.sl .kind r0, .sl .point r1, .sl .entry r2], .box [.sl .kind ks, .sl .point ps, .sl .entry es]] (fun v h => ∃ x : BkP, v = (.agg [.sl .kind ks, .sl .point ps, .sl .entry x.es]) ∧ h = [.box [.sl .u8 bs, .int .i64 x.p]] ∧ goodE ks ps x.es = true ∧ q ≤ x.p ∧ x.p ≤ q + (801 + 20 * d)) := by
 intro d
 induction d with
 | zero =>
  intro i es q hi h1i h0 hq hg
  refine CutE.of Q692 rfl (Qbfw i bs q ks ps r0 r1 r2 ks ps es) ?_
  rw [show decide ((i : Int) ≤ 4) = false from decide_eq_false (by omega), Qk7y]
  exact SatE.mono (SatE.cut (Q8ui bs ks ps hbs hb h1 q h0 (by omega) r0 r1 r2 es hg)) (fun v h ⟨x, e1, e2, a1, a2, a3⟩ => ⟨x, e1, e2, a1, a2, by omega⟩)
 | succ d ih =>
  intro i es q hi h1i h0 hq hg
  refine CutE.of Q692 rfl (Qbfw i bs q ks ps r0 r1 r2 ks ps es) ?_
  have hw : IntKind.i64.wrap ((i : Int) + 1) = ((i + 1 : Nat) : Int) := by rw [Qbrg] <;> omega
  have hv : valK bs q ks ps = true := by simp only [valK, rdK, Bool.and_eq_true, decide_eq_true_eq]; exact ⟨⟨hbs, by omega, by omega⟩, (Qd1y hb).1, (Qd1y hb).2, h1⟩
  obtain ⟨v1, v2, v3⟩ := (Qpyo bs q ks ps (i : Int) hv).2
  have hz : szV (dVal bs q ks ps (i : Int)).s = true := decide_eq_true (by omega)
  have hgb := hg
  simp only [goodE, Bool.and_eq_true] at hgb
  obtain ⟨t1, t2, t3⟩ := Qy7k (c := (Chg.mk #[(107 : UInt8), (108 : UInt8), (49 : UInt8)].toList (i : Int) (1 : Int) (dVal bs q ks ps (i : Int)).s)) hg hz
  rw [show decide ((i : Int) ≤ 4) = true from decide_eq_true (by omega), hv, hw, hgb.2, hz, t1, t2]
  simp only [Qd8q, Bool.true_and]
  exact SatE.mono (SatE.cut (ih (i + 1) _ (dVal bs q ks ps (i : Int)).p (by omega) (by omega) (by omega) (by omega) t3)) (fun v h ⟨x, e1, e2, a1, a2, a3⟩ => ⟨x, e1, e2, a1, by omega, by omega⟩)
theorem Q4mo (bs : List Int) (p : Int) (ks : List Kind) (ps : List Point) (hg : bkK bs p ks ps = true) : Qewq Tryz.prog CP Q604 [.ptr 0 0, .agg [.sl .kind ks, .sl .point ps]] [.box [.sl .u8 bs, .int .i64 p]] (.agg [.sl .kind ks, .sl .point ps, .sl .entry (dBook bs p ks ps).es]) [.box [.sl .u8 bs, .int .i64 (dBook bs p ks ps).p]] ∧ Qv5n ks ps p (dBook bs p ks ps) := by
 simp only [bkK, Bool.and_eq_true, decide_eq_true_eq] at hg
 obtain ⟨hbs, h0, h9, hb, h1⟩ := hg
 have hE : CallE Qoc9.P Qoc9.C Q604 [.ptr 0 0, .agg [.sl .kind ks, .sl .point ps]] [.box [.sl .u8 bs, .int .i64 p]] (fun v h => ∃ x : BkP, v = (.agg [.sl .kind ks, .sl .point ps, .sl .entry x.es]) ∧ h = [.box [.sl .u8 bs, .int .i64 x.p]] ∧ Qv5n ks ps p x) := by
  refine CallE.of Q692 (by kernel_rfl) (Qh82 bs p ks ps) ?_
  refine SatE.need (Q8s4 (by omega) (by omega)) (SatE.ifb (fun _ => ?_) (fun _ => ?_))
  ·exact SatE.mono (SatE.cut (Qygj bs ks ps hbs hb h1 [] [] [] 4 1 [] (p + 1) (by omega) (by omega) (by omega) (by omega) (Qkew hb))) (fun v h ⟨x, e1, e2, a1, a2, a3⟩ => ⟨x, e1, e2, a1, by omega, by omega⟩)
  ·exact SatE.mono (SatE.cut (Q8ui bs ks ps hbs hb h1 (p + 1) (by omega) (by omega) [] [] [] [] (Qkew hb))) (fun v h ⟨x, e1, e2, a1, a2, a3⟩ => ⟨x, e1, e2, a1, by omega, by omega⟩)
 obtain ⟨v, H', h, x, rfl, rfl, hx⟩ := hE
 exact Qk78 (p := fun x : BkP => Qewq Tryz.prog CP Q604 [.ptr 0 0, .agg [.sl .kind ks, .sl .point ps]] [.box [.sl .u8 bs, .int .i64 p]] (.agg [.sl .kind ks, .sl .point ps, .sl .entry x.es]) [.box [.sl .u8 bs, .int .i64 x.p]] ∧ Qv5n ks ps p x) ⟨x, h, hx⟩
theorem Qyzu (bs : List Int) (p : Int) (ks : List Kind) (ps : List Point) (hg : bkK bs p ks ps = true) : Qewq Tryz.prog CP Q604 [.ptr 0 0, .agg [.sl .kind ks, .sl .point ps]] [.box [.sl .u8 bs, .int .i64 p]] (.agg [.sl .kind ks, .sl .point ps, .sl .entry (dBook bs p ks ps).es]) [.box [.sl .u8 bs, .int .i64 (dBook bs p ks ps).p]] := by
 exact (Q4mo bs p ks ps hg).1
theorem Qtpw : EntOK Tryz.prog CP Q604 Qnfe := by
 refine ⟨⟨Tryz.f142, by kernel_rfl, by kernel_rfl, by kernel_rfl⟩, fun args H res H' h => ?_⟩
 simp only [Qnfe] at h
 split at h
 ·simp only [Option.some.injEq, Prod.mk.injEq] at h
  obtain ⟨hg, rfl, rfl⟩ := h
  exact Qyzu _ _ _ _ hg
 ·cases h
end Lx
/- Meanings: bases spoilt. -/
namespace Lx
open Go Go.Proofs
def Qp6t (p : Int) (x : BaseP) : Prop := x.ks.length ≤ 20 ∧ x.ps.length ≤ 100 ∧ p ≤ x.p ∧ x.p ≤ p + 60 ∧ Qeqt x.ps = true
noncomputable def dSp (bs : List Int) (p : Int) (ks : List Kind) (ps : List Point) : BaseP := drawn (fun x => Qewq Tryz.prog CP Q963 [.ptr 0 0, .agg [.sl .kind ks, .sl .point ps]] [.box [.sl .u8 bs, .int .i64 p]] (.agg [.sl .kind x.ks, .sl .point x.ps]) [.box [.sl .u8 bs, .int .i64 x.p]] ∧ Qp6t p x)
def spK (bs : List Int) (p : Int) (ks : List Kind) (ps : List Point) : Bool := Qf9o bs && (decide (0 ≤ p) && (decide (p ≤ 880000) && (decide (1 ≤ ks.length) && (decide (ks.length ≤ 10) && (decide (1 ≤ ps.length) && (decide (ps.length ≤ 40) && Qeqt ps))))))
noncomputable def Qx4k : Ent Ty El := ⟨[.io, .ro], 0, fun a h => match a, h with
 | [.ptr 0 0, .agg [.sl .kind ks, .sl .point ps]], [.box [.sl .u8 bs, .int .i64 p]] => some (spK bs p ks ps, .agg [.sl .kind (dSp bs p ks ps).ks, .sl .point (dSp bs p ks ps).ps], [.box [.sl .u8 bs, .int .i64 (dSp bs p ks ps).p]])
 | _, _ => none⟩
theorem inb3 {n a b c : Int} (h : 0 ≤ n ∧ n < 3) : inb n [a, b, c].length = true := by
 simp only [inb, List.length_cons, List.length_nil, Bool.and_eq_true, decide_eq_true_eq]; omega
theorem inbL {α : Type} {n : Int} {l : List α} (h : 0 ≤ n ∧ n < (l.length : Int)) : inb n l.length = true := by
 simp only [inb, Bool.and_eq_true, decide_eq_true_eq]; exact h
end Lx
/- Bases spoilt. -/
namespace Lx
open Go Go.Proofs
noncomputable def Qam6 : RE Ty El := ⟨Tryz.prog, CP, [(Qpxs, Q7v2), (Qchm, Q2vb), (Q373, Qf5p), (Q1eg, Qvc4), (Qstj, Qmce)], Tryz.f119, 1, [.agg [.ro .kind, .ro .point]], [(23, [(0, .any), (4, .any), (5, .any), (8, .any)]), (6, [(0, .any), (4, .any), (5, .any), (9, .any)])]⟩
theorem Qj2r : REOK Qam6 Q963 := ⟨CP_ok, (TabOK.cons Q0e7 (TabOK.cons Qyvd (TabOK.cons Qoq9 (TabOK.cons Q8hv (TabOK.cons Qqii Qye1))))), by kernel_rfl, by kernel_rfl⟩
theorem Qbvz (bs : List Int) (p : Int) (ks : List Kind) (ps : List Point) : aRun Qam6 600 false (body0 Qam6.fn) (Q4gm Qam6.fn [.ptr 0 0, .agg [.sl .kind ks, .sl .point ps]] [.box [.sl .u8 bs, .int .i64 p]]) =
 ifb (Qzta ks ps) (ifb (posOk p) (ifb (posOk (p + (1 : Int))) (ifb (posOk (p + (1 : Int) + (1 : Int))) (ifb (pickV bs (p + (1 : Int) + (1 : Int)) (8 : Int) == (0 : Int)) (ifb (posOk (p + (1 : Int) + (1 : Int) + (1 : Int))) (ifb (decide (#[(107 : UInt8)].toList.length ≤ (1 : Nat)) && decide (IntKind.i64.wrap ((8 : Int) + pickV bs (p + (1 : Int) + (1 : Int) + (1 : Int)) (2 : Int)) < (64 : Int))) (ifb (rdOk bs (p + (1 : Int) + (1 : Int) + (1 : Int) + (1 : Int)) && decide ((0 : Nat) < [#[].toList, #[(65 : UInt8)].toList, #[(122 : UInt8), (122 : UInt8)].toList, #[(97 : UInt8), (49 : UInt8)].toList, dMany #[(107 : UInt8)].toList (IntKind.i64.wrap ((8 : Int) + pickV bs (p + (1 : Int) + (1 : Int) + (1 : Int)) (2 : Int)))].length)) (ifb (inb (pickV bs p (↑ks.length : Int)) ks.length) (some (.ret (.agg [.sl .kind (ks.set (pickV bs p (↑ks.length : Int)).toNat (Kind.mk (ofV bs (p + (1 : Int) + (1 : Int) + (1 : Int) + (1 : Int)) [#[].toList, #[(65 : UInt8)].toList, #[(122 : UInt8), (122 : UInt8)].toList, #[(97 : UInt8), (49 : UInt8)].toList, dMany #[(107 : UInt8)].toList (IntKind.i64.wrap ((8 : Int) + pickV bs (p + (1 : Int) + (1 : Int) + (1 : Int)) (2 : Int)))]) (ks.getD (pickV bs p (↑ks.length : Int)).toNat (Qam6.C.dflt Ty.kind)).quick (ks.getD (pickV bs p (↑ks.length : Int)).toNat (Qam6.C.dflt Ty.kind)).slow)), .sl .point ps]) [.box [.sl .u8 bs, .int .i64 (p + (1 : Int) + (1 : Int) + (1 : Int) + (1 : Int) + (1 : Int))]])) (none)) (none)) (none)) (none)) (ifb (pickV bs (p + (1 : Int) + (1 : Int)) (8 : Int) == (1 : Int)) (ifb (posOk (p + (1 : Int) + (1 : Int) + (1 : Int))) (ifb (inb (pickV bs p (↑ks.length : Int)) ks.length) (some (.ret (.agg [.sl .kind (ks.set (pickV bs p (↑ks.length : Int)).toNat (Kind.mk (ks.getD (pickV bs p (↑ks.length : Int)).toNat (Qam6.C.dflt Ty.kind)).name (IntKind.i64.wrap (pickV bs (p + (1 : Int) + (1 : Int) + (1 : Int)) (9 : Int) - (1 : Int))) (ks.getD (pickV bs p (↑ks.length : Int)).toNat (Qam6.C.dflt Ty.kind)).slow)), .sl .point ps]) [.box [.sl .u8 bs, .int .i64 (p + (1 : Int) + (1 : Int) + (1 : Int) + (1 : Int))]])) (none)) (none)) (ifb (pickV bs (p + (1 : Int) + (1 : Int)) (8 : Int) == (2 : Int)) (ifb (posOk (p + (1 : Int) + (1 : Int) + (1 : Int))) (ifb (inb (pickV bs (p + (1 : Int) + (1 : Int) + (1 : Int)) (3 : Int)) [(0 : Int), (50 : Int), (51 : Int)].length) (ifb (inb (pickV bs p (↑ks.length : Int)) ks.length) (some (.ret (.agg [.sl .kind (ks.set (pickV bs p (↑ks.length : Int)).toNat (Kind.mk (ks.getD (pickV bs p (↑ks.length : Int)).toNat (Qam6.C.dflt Ty.kind)).name (ks.getD (pickV bs p (↑ks.length : Int)).toNat (Qam6.C.dflt Ty.kind)).quick ([(0 : Int), (50 : Int), (51 : Int)].getD (pickV bs (p + (1 : Int) + (1 : Int) + (1 : Int)) (3 : Int)).toNat (Qam6.C.dflt Ty.int)))), .sl .point ps]) [.box [.sl .u8 bs, .int .i64 (p + (1 : Int) + (1 : Int) + (1 : Int) + (1 : Int))]])) (none)) (none)) (none)) (ifb (pickV bs (p + (1 : Int) + (1 : Int)) (8 : Int) == (3 : Int)) (ifb (rdOk bs (p + (1 : Int) + (1 : Int) + (1 : Int)) && decide ((0 : Nat) < [#[].toList, #[(80 : UInt8)].toList, #[(122 : UInt8), (122 : UInt8)].toList, #[(97 : UInt8), (108 : UInt8), (102 : UInt8), (97 : UInt8)].toList].length)) (ifb (inb (pickV bs (p + (1 : Int)) (↑ps.length : Int)) ps.length) (some (.ret (.agg [.sl .kind ks, .sl .point (ps.set (pickV bs (p + (1 : Int)) (↑ps.length : Int)).toNat (Point.mk (ofV bs (p + (1 : Int) + (1 : Int) + (1 : Int)) [#[].toList, #[(80 : UInt8)].toList, #[(122 : UInt8), (122 : UInt8)].toList, #[(97 : UInt8), (108 : UInt8), (102 : UInt8), (97 : UInt8)].toList]) (ps.getD (pickV bs (p + (1 : Int)) (↑ps.length : Int)).toNat (Qam6.C.dflt Ty.point)).x (ps.getD (pickV bs (p + (1 : Int)) (↑ps.length : Int)).toNat (Qam6.C.dflt Ty.point)).y))]) [.box [.sl .u8 bs, .int .i64 (p + (1 : Int) + (1 : Int) + (1 : Int) + (1 : Int))]])) (none)) (none)) (ifb (pickV bs (p + (1 : Int) + (1 : Int)) (8 : Int) == (4 : Int)) (ifb (posOk (p + (1 : Int) + (1 : Int) + (1 : Int))) (ifb (inb (pickV bs (p + (1 : Int) + (1 : Int) + (1 : Int)) (3 : Int)) [(-1 : Int), (16 : Int), (0 : Int)].length) (ifb (inb (pickV bs (p + (1 : Int)) (↑ps.length : Int)) ps.length) (some (.ret (.agg [.sl .kind ks, .sl .point (ps.set (pickV bs (p + (1 : Int)) (↑ps.length : Int)).toNat (Point.mk (ps.getD (pickV bs (p + (1 : Int)) (↑ps.length : Int)).toNat (Qam6.C.dflt Ty.point)).name ([(-1 : Int), (16 : Int), (0 : Int)].getD (pickV bs (p + (1 : Int) + (1 : Int) + (1 : Int)) (3 : Int)).toNat (Qam6.C.dflt Ty.int)) (ps.getD (pickV bs (p + (1 : Int)) (↑ps.length : Int)).toNat (Qam6.C.dflt Ty.point)).y))]) [.box [.sl .u8 bs, .int .i64 (p + (1 : Int) + (1 : Int) + (1 : Int) + (1 : Int))]])) (none)) (none)) (none)) (ifb (pickV bs (p + (1 : Int) + (1 : Int)) (8 : Int) == (5 : Int)) (ifb (inb (pickV bs (p + (1 : Int)) (↑ps.length : Int)) ps.length) (ifb (inb (pickV bs (p + (1 : Int)) (↑ps.length : Int)) ps.length) (ifb (decide ((ps.length + [Point.mk #[(122 : UInt8), (122 : UInt8)].toList (ps.getD (pickV bs (p + (1 : Int)) (↑ps.length : Int)).toNat (Qam6.C.dflt Ty.point)).x (ps.getD (pickV bs (p + (1 : Int)) (↑ps.length : Int)).toNat (Qam6.C.dflt Ty.point)).y].length) * Qbhn Qam6.P (160 : Nat) ≤ (140737488355328 : Nat))) (some (.ret (.agg [.sl .kind ks, .sl .point (ps ++ [Point.mk #[(122 : UInt8), (122 : UInt8)].toList (ps.getD (pickV bs (p + (1 : Int)) (↑ps.length : Int)).toNat (Qam6.C.dflt Ty.point)).x (ps.getD (pickV bs (p + (1 : Int)) (↑ps.length : Int)).toNat (Qam6.C.dflt Ty.point)).y])]) [.box [.sl .u8 bs, .int .i64 (p + (1 : Int) + (1 : Int) + (1 : Int))]])) (none)) (none)) (none)) (ifb (pickV bs (p + (1 : Int) + (1 : Int)) (8 : Int) == (6 : Int)) (some (.go (Qu6t Qam6.fn 23) [.ptr 0 0, .ptr 1 0, .ptr 2 0, .int .i64 (0 : Int)] [.box [.sl .u8 bs, .int .i64 (p + (1 : Int) + (1 : Int) + (1 : Int))], .box [.nils, .nils], .box [.own 3 [] 0, .own 4 [] 0], .row .kind ks 0 0 0 .no, .row .point ps 0 0 0 .no])) (some (.go (Qu6t Qam6.fn 6) [.ptr 0 0, .ptr 1 0, .ptr 2 0, .int .i64 (0 : Int)] [.box [.sl .u8 bs, .int .i64 (p + (1 : Int) + (1 : Int) + (1 : Int))], .box [.nils, .nils], .box [.own 3 [] 0, .own 4 [] 0], .row .kind ks 0 0 0 .no, .row .point ps 0 0 0 .no]))))))))) (none)) (none)) (none)) (none) := by kernel_rfl
theorem Qkno (x0 : Int) (x1 : List (El .u8)) (x2 : Int) (x3 : List (El .kind)) (x4 : List (El .point)) : aRun Qam6 600 true (Qu6t Qam6.fn 23) (cutSt Qam6.fn (Q1m4 Qam6 (Qu6t Qam6.fn 23)) [.ptr 0 0, .ptr 1 0, .ptr 2 0, .int .i64 x0] [.box [.sl .u8 x1, .int .i64 x2], .box [.nils, .nils], .box [.own 3 [] 0, .own 4 [] 0], .row .kind x3 0 0 0 .no, .row .point x4 0 0 0 .no]) =
 ifb (posOk x2) (ifb (decide ((↑x3.length : Int) < IntKind.i64.wrap ((6 : Int) + pickV x1 x2 (2 : Int)))) (ifb (decide (x0 < (9 : Int))) (ifb (decide ((0 : Int) ≤ x0) && decide (x0 < (10 : Int) ^ ((4 : Nat) + (1 : Nat)))) (ifb (decide (#[(116 : UInt8)].toList.length + List.length (dDec (4 : Nat) x0) ≤ (9223372036854775807 : Nat))) (ifb (decide ((x3.length + [Kind.mk (#[(116 : UInt8)].toList ++ dDec (4 : Nat) x0) (1 : Int) (1 : Int)].length) * Qbhn Qam6.P (40 : Nat) ≤ (140737488355328 : Nat))) (some (.go (Qu6t Qam6.fn 23) [.ptr 0 0, .ptr 1 0, .ptr 2 0, .int .i64 (IntKind.i64.wrap (x0 + (1 : Int)))] [.box [.sl .u8 x1, .int .i64 (x2 + (1 : Int))], .box [.nils, .nils], .box [.own 3 [] 0, .own 4 [] 0], .row .kind (x3 ++ [Kind.mk (#[(116 : UInt8)].toList ++ dDec (4 : Nat) x0) (1 : Int) (1 : Int)]) 0 0 0 .no, .row .point x4 0 0 0 .no])) (none)) (none)) (none)) (some (.ret (.agg [.sl .kind x3, .sl .point x4]) [.box [.sl .u8 x1, .int .i64 (x2 + (1 : Int))]]))) (some (.ret (.agg [.sl .kind x3, .sl .point x4]) [.box [.sl .u8 x1, .int .i64 (x2 + (1 : Int))]]))) (none) := by kernel_rfl
theorem Qkh0 (x0 : Int) (x1 : List (El .u8)) (x2 : Int) (x3 : List (El .kind)) (x4 : List (El .point)) : aRun Qam6 600 true (Qu6t Qam6.fn 6) (cutSt Qam6.fn (Q1m4 Qam6 (Qu6t Qam6.fn 6)) [.ptr 0 0, .ptr 1 0, .ptr 2 0, .int .i64 x0] [.box [.sl .u8 x1, .int .i64 x2], .box [.nils, .nils], .box [.own 3 [] 0, .own 4 [] 0], .row .kind x3 0 0 0 .no, .row .point x4 0 0 0 .no]) =
 ifb (posOk x2) (ifb (decide ((↑x4.length : Int) < IntKind.i64.wrap ((16 : Int) + pickV x1 x2 (2 : Int)))) (ifb (decide (x0 < (40 : Int))) (ifb (decide ((0 : Int) ≤ IntKind.i64.wrap ((10 : Int) + x0)) && decide (IntKind.i64.wrap ((10 : Int) + x0) < (10 : Int) ^ ((4 : Nat) + (1 : Nat)))) (ifb (decide (#[(121 : UInt8)].toList.length + List.length (dDec (4 : Nat) (IntKind.i64.wrap ((10 : Int) + x0))) ≤ (9223372036854775807 : Nat))) (ifb (decide ((x4.length + [Point.mk (#[(121 : UInt8)].toList ++ dDec (4 : Nat) (IntKind.i64.wrap ((10 : Int) + x0))) (x0.tmod (16 : Int)) (IntKind.i64.wrap ((15 : Int) - IntKind.i64.wrap (x0.tdiv (16 : Int))))].length) * Qbhn Qam6.P (160 : Nat) ≤ (140737488355328 : Nat))) (some (.go (Qu6t Qam6.fn 6) [.ptr 0 0, .ptr 1 0, .ptr 2 0, .int .i64 (IntKind.i64.wrap (x0 + (1 : Int)))] [.box [.sl .u8 x1, .int .i64 (x2 + (1 : Int))], .box [.nils, .nils], .box [.own 3 [] 0, .own 4 [] 0], .row .kind x3 0 0 0 .no, .row .point (x4 ++ [Point.mk (#[(121 : UInt8)].toList ++ dDec (4 : Nat) (IntKind.i64.wrap ((10 : Int) + x0))) (x0.tmod (16 : Int)) (IntKind.i64.wrap ((15 : Int) - IntKind.i64.wrap (x0.tdiv (16 : Int))))]) 0 0 0 .no])) (none)) (none)) (none)) (some (.ret (.agg [.sl .kind x3, .sl .point x4]) [.box [.sl .u8 x1, .int .i64 (x2 + (1 : Int))]]))) (some (.ret (.agg [.sl .kind x3, .sl .point x4]) [.box [.sl .u8 x1, .int .i64 (x2 + (1 : Int))]]))) (none) := by kernel_rfl
theorem Qnce (bs : List Int) (ps : List Point) : ∀ (d i : Nat) (ks : List Kind) (q : Int), i + d = 9 → 0 ≤ q → q + d ≤ 900000 → ks.length + d ≤ 19 → ps.length ≤ 100 → Qeqt ps = true →
  CutE Qam6 Q963 23 [.ptr 0 0, .ptr 1 0, .ptr 2 0, .int .i64 (i : Int)] [.box [.sl .u8 bs, .int .i64 q], .box [.nils, .nils], .box [.own 3 [] 0, .own 4 [] 0], .row .kind ks 0 0 0 .no, .row .point ps 0 0 0 .no] (fun v h => ∃ x : BaseP, v = (.agg [.sl .kind x.ks, .sl .point x.ps]) ∧ h = [.box [.sl .u8 bs, .int .i64 x.p]] ∧ x.ks.length ≤ 20 ∧ x.ps.length ≤ 100 ∧ q ≤ x.p ∧ x.p ≤ q + (d + 1) ∧ Qeqt x.ps = true) := by
 have hbb : Qbhn Qam6.P 40 ≤ 256 := of_decide_eq_true (by kernel_rfl)
 intro d
 induction d with
 | zero =>
  intro i ks q hi h0 hq hl ho hn
  refine CutE.of Qj2r rfl (Qkno i bs q ks ps) ?_
  refine SatE.need (Q8s4 (by omega) (by omega)) (SatE.ifb (fun _ => ?_) (fun _ => ?_))
  ·rw [show decide ((i : Int) < 9) = false from decide_eq_false (by omega), Qk7y]
   exact SatE.ret ⟨⟨ks, ps, q + 1⟩, rfl, rfl, by show ks.length ≤ 20; omega, by show ps.length ≤ 100; omega, by show q ≤ q + 1; omega, by show q + 1 ≤ _; omega, hn⟩
  ·exact SatE.ret ⟨⟨ks, ps, q + 1⟩, rfl, rfl, by show ks.length ≤ 20; omega, by show ps.length ≤ 100; omega, by show q ≤ q + 1; omega, by show q + 1 ≤ _; omega, hn⟩
 | succ d ih =>
  intro i ks q hi h0 hq hl ho hn
  refine CutE.of Qj2r rfl (Qkno i bs q ks ps) ?_
  have hw : IntKind.i64.wrap ((i : Int) + 1) = ((i + 1 : Nat) : Int) := by rw [Qbrg] <;> omega
  obtain ⟨g1, l1⟩ := decs (n := (i : Int)) (by omega) (by omega)
  refine SatE.need (Q8s4 (by omega) (by omega)) (SatE.ifb (fun _ => ?_) (fun _ => ?_))
  ·rw [show decide ((i : Int) < 9) = true from decide_eq_true (by omega), hw, Qd8q]
   refine SatE.need g1 (SatE.need (decide_eq_true (by simp; omega)) (SatE.need (Q1mk hbb (by simp; omega)) (SatE.mono (SatE.cut (ih (i + 1) _ (q + 1) (by omega) (by omega) (by omega) (by simp; omega) (by omega) hn)) ?_)))
   rintro v h ⟨x, e1, e2, a1, a2, a3, a4, a5⟩
   exact ⟨x, e1, e2, a1, a2, by omega, by omega, a5⟩
  ·exact SatE.ret ⟨⟨ks, ps, q + 1⟩, rfl, rfl, by show ks.length ≤ 20; omega, by show ps.length ≤ 100; omega, by show q ≤ q + 1; omega, by show q + 1 ≤ _; omega, hn⟩
theorem Qpkz (bs : List Int) (ks : List Kind) : ∀ (d i : Nat) (ps : List Point) (q : Int), i + d = 40 → 0 ≤ q → q + d ≤ 900000 → ps.length + d ≤ 80 → ks.length ≤ 20 → Qeqt ps = true →
  CutE Qam6 Q963 6 [.ptr 0 0, .ptr 1 0, .ptr 2 0, .int .i64 (i : Int)] [.box [.sl .u8 bs, .int .i64 q], .box [.nils, .nils], .box [.own 3 [] 0, .own 4 [] 0], .row .kind ks 0 0 0 .no, .row .point ps 0 0 0 .no] (fun v h => ∃ x : BaseP, v = (.agg [.sl .kind x.ks, .sl .point x.ps]) ∧ h = [.box [.sl .u8 bs, .int .i64 x.p]] ∧ x.ks.length ≤ 20 ∧ x.ps.length ≤ 100 ∧ q ≤ x.p ∧ x.p ≤ q + (d + 1) ∧ Qeqt x.ps = true) := by
 have hbb : Qbhn Qam6.P 160 ≤ 256 := of_decide_eq_true (by kernel_rfl)
 intro d
 induction d with
 | zero =>
  intro i ps q hi h0 hq hl ho hn
  refine CutE.of Qj2r rfl (Qkh0 i bs q ks ps) ?_
  refine SatE.need (Q8s4 (by omega) (by omega)) (SatE.ifb (fun _ => ?_) (fun _ => ?_))
  ·rw [show decide ((i : Int) < 40) = false from decide_eq_false (by omega), Qk7y]
   exact SatE.ret ⟨⟨ks, ps, q + 1⟩, rfl, rfl, by show ks.length ≤ 20; omega, by show ps.length ≤ 100; omega, by show q ≤ q + 1; omega, by show q + 1 ≤ _; omega, hn⟩
  ·exact SatE.ret ⟨⟨ks, ps, q + 1⟩, rfl, rfl, by show ks.length ≤ 20; omega, by show ps.length ≤ 100; omega, by show q ≤ q + 1; omega, by show q + 1 ≤ _; omega, hn⟩
 | succ d ih =>
  intro i ps q hi h0 hq hl ho hn
  refine CutE.of Qj2r rfl (Qkh0 i bs q ks ps) ?_
  have hw : IntKind.i64.wrap ((i : Int) + 1) = ((i + 1 : Nat) : Int) := by rw [Qbrg] <;> omega
  have hw2 : IntKind.i64.wrap (10 + (i : Int)) = 10 + (i : Int) := Qbrg (by omega) (by omega)
  obtain ⟨g1, l1⟩ := decs (n := 10 + (i : Int)) (by omega) (by omega)
  refine SatE.need (Q8s4 (by omega) (by omega)) (SatE.ifb (fun _ => ?_) (fun _ => ?_))
  ·rw [show decide ((i : Int) < 40) = true from decide_eq_true (by omega), hw, Qd8q, hw2]
   refine SatE.need g1 (SatE.need (decide_eq_true (by simp; omega)) (SatE.need (Q1mk hbb (by simp; omega)) (SatE.mono (SatE.cut (ih (i + 1) _ (q + 1) (by omega) (by omega) (by omega) (by simp; omega) (by omega) (by exact Qv4q hn (by simp; omega)))) ?_)))
   rintro v h ⟨x, e1, e2, a1, a2, a3, a4, a5⟩
   exact ⟨x, e1, e2, a1, a2, by omega, by omega, a5⟩
  ·exact SatE.ret ⟨⟨ks, ps, q + 1⟩, rfl, rfl, by show ks.length ≤ 20; omega, by show ps.length ≤ 100; omega, by show q ≤ q + 1; omega, by show q + 1 ≤ _; omega, hn⟩
theorem Qdn9 {bs : List Int} {p q : Int} {ks : List Kind} {ps : List Point} (h1 : ks.length ≤ 20) (h2 : ps.length ≤ 100) (h3 : p ≤ q) (h4 : q ≤ p + 60) (h5 : Qeqt ps = true) : ∃ x : BaseP, (AV.agg [.sl .kind ks, .sl .point ps] : AV Ty El) = (.agg [.sl .kind x.ks, .sl .point x.ps]) ∧ ([.box [.sl .u8 bs, .int .i64 q]] : List (AObj Ty El)) = [.box [.sl .u8 bs, .int .i64 x.p]] ∧ Qp6t p x := ⟨⟨ks, ps, q⟩, rfl, rfl, h1, h2, h3, h4, h5⟩
theorem Qtjp (bs : List Int) (p : Int) (ks : List Kind) (ps : List Point) (hg : spK bs p ks ps = true) : Qewq Tryz.prog CP Q963 [.ptr 0 0, .agg [.sl .kind ks, .sl .point ps]] [.box [.sl .u8 bs, .int .i64 p]] (.agg [.sl .kind (dSp bs p ks ps).ks, .sl .point (dSp bs p ks ps).ps]) [.box [.sl .u8 bs, .int .i64 (dSp bs p ks ps).p]] ∧ Qp6t p (dSp bs p ks ps) := by
 simp only [spK, Bool.and_eq_true, decide_eq_true_eq] at hg
 obtain ⟨hbs, h0, h9, k1, k2, s1, s2, hn⟩ := hg
 have hbb : Qbhn Qam6.P 160 ≤ 256 := of_decide_eq_true (by kernel_rfl)
 have ht : Qzta ks ps = true := by
  have e1 : Q6lz ks = true := by simp only [Q6lz, Bool.and_true, decide_eq_true_eq]; omega
  have e2 : Qjyp ps = true := by simp only [Qjyp, Bool.and_true, decide_eq_true_eq]; omega
  rw [Qzta, e1, e2]; rfl
 have ps0 : ∀ (q : Int), p ≤ q → q ≤ p + 10 → posOk q = true := fun q h2 h3 => Q8s4 (by omega) (by omega)
 have pk : ∀ (q n : Int), p ≤ q → q ≤ p + 10 → 1 ≤ n → 0 ≤ pickV bs q n ∧ pickV bs q n < n := fun q n h2 h3 h4 => Q5va hbs (ps0 q h2 h3) h4
 have rd : ∀ (q : Int) (l : List Str), p ≤ q → q ≤ p + 10 → 0 < l.length → (rdOk bs q && decide (0 < l.length)) = true := fun q l h2 h3 hl => by rw [rdOk, hbs, ps0 q h2 h3, decide_eq_true hl]; rfl
 have ik : inb (pickV bs p (ks.length : Int)) ks.length = true := inbL (pk p _ (by omega) (by omega) (by omega))
 have ip : inb (pickV bs (p + 1) (ps.length : Int)) ps.length = true := inbL (pk (p + 1) _ (by omega) (by omega) (by omega))
 have hE : CallE Qam6.P Qam6.C Q963 [.ptr 0 0, .agg [.sl .kind ks, .sl .point ps]] [.box [.sl .u8 bs, .int .i64 p]] (fun v h => ∃ x : BaseP, v = (.agg [.sl .kind x.ks, .sl .point x.ps]) ∧ h = [.box [.sl .u8 bs, .int .i64 x.p]] ∧ Qp6t p x) := by
  refine CallE.of Qj2r (by kernel_rfl) (Qbvz bs p ks ps) ?_
  refine SatE.need ht (SatE.need (ps0 _ (by omega) (by omega)) (SatE.need (ps0 _ (by omega) (by omega)) (SatE.need (ps0 _ (by omega) (by omega)) (SatE.ifb (fun _ => ?_) (fun _ => SatE.ifb (fun _ => ?_) (fun _ => SatE.ifb (fun _ => ?_) (fun _ => SatE.ifb (fun _ => ?_) (fun _ => SatE.ifb (fun _ => ?_) (fun _ => SatE.ifb (fun _ => ?_) (fun _ => SatE.ifb (fun _ => ?_) (fun _ => ?_)))))))))))
  ·obtain ⟨a1, a2⟩ := pk (p + 1 + 1 + 1) 2 (by omega) (by omega) (by omega)
   have hw : IntKind.i64.wrap (8 + pickV bs (p + 1 + 1 + 1) 2) = 8 + pickV bs (p + 1 + 1 + 1) 2 := Qbrg (by omega) (by omega)
   rw [hw]
   exact SatE.need (ps0 _ (by omega) (by omega)) (SatE.need (by rw [Bool.and_eq_true]; exact ⟨decide_eq_true (by simp), decide_eq_true (by omega)⟩) (SatE.need (rd _ _ (by omega) (by omega) (Nat.zero_lt_succ _)) (SatE.need ik (SatE.ret (Qdn9 (by rw [List.length_set]; omega) (by omega) (by omega) (by omega) hn)))))
  ·exact SatE.need (ps0 _ (by omega) (by omega)) (SatE.need ik (SatE.ret (Qdn9 (by rw [List.length_set]; omega) (by omega) (by omega) (by omega) hn)))
  ·exact SatE.need (ps0 _ (by omega) (by omega)) (SatE.need (inb3 (pk (p + 1 + 1 + 1) 3 (by omega) (by omega) (by omega))) (SatE.need ik (SatE.ret (Qdn9 (by rw [List.length_set]; omega) (by omega) (by omega) (by omega) hn))))
  ·exact SatE.need (rd _ _ (by omega) (by omega) (Nat.zero_lt_succ _)) (SatE.need ip (SatE.ret (Qdn9 (by omega) (by rw [List.length_set]; omega) (by omega) (by omega) (Qosi hn _ (Nat.le_trans (Qgo3 (M := 4) (by rfl)) (by omega))))))
  ·exact SatE.need (ps0 _ (by omega) (by omega)) (SatE.need (inb3 (pk (p + 1 + 1 + 1) 3 (by omega) (by omega) (by omega))) (SatE.need ip (SatE.ret (Qdn9 (by omega) (by rw [List.length_set]; omega) (by omega) (by omega) (Qosi hn _ (by exact Qwum hn _ _ (by first | simp | decide)))))))
  ·exact SatE.need ip (SatE.need ip (SatE.need (Q1mk hbb (by simp; omega)) (SatE.ret (Qdn9 (by omega) (by simp; omega) (by omega) (by omega) (by exact Qv4q hn (by simp))))))
  ·refine SatE.mono (SatE.cut (Qnce bs ps 9 0 ks (p + 1 + 1 + 1) (by omega) (by omega) (by omega) (by omega) (by omega) hn)) ?_
   rintro v h ⟨x, e1, e2, a1, a2, a3, a4, a5⟩
   exact ⟨x, e1, e2, a1, a2, by omega, by omega, a5⟩
  ·refine SatE.mono (SatE.cut (Qpkz bs ks 40 0 ps (p + 1 + 1 + 1) (by omega) (by omega) (by omega) (by omega) (by omega) hn)) ?_
   rintro v h ⟨x, e1, e2, a1, a2, a3, a4, a5⟩
   exact ⟨x, e1, e2, a1, a2, by omega, by omega, a5⟩
 obtain ⟨v, H', h, x, rfl, rfl, hx⟩ := hE
 exact Qk78 (p := fun x : BaseP => Qewq Tryz.prog CP Q963 [.ptr 0 0, .agg [.sl .kind ks, .sl .point ps]] [.box [.sl .u8 bs, .int .i64 p]] (.agg [.sl .kind x.ks, .sl .point x.ps]) [.box [.sl .u8 bs, .int .i64 x.p]] ∧ Qp6t p x) ⟨x, h, hx⟩
theorem Q3hx (bs : List Int) (p : Int) (ks : List Kind) (ps : List Point) (hg : spK bs p ks ps = true) : Qewq Tryz.prog CP Q963 [.ptr 0 0, .agg [.sl .kind ks, .sl .point ps]] [.box [.sl .u8 bs, .int .i64 p]] (.agg [.sl .kind (dSp bs p ks ps).ks, .sl .point (dSp bs p ks ps).ps]) [.box [.sl .u8 bs, .int .i64 (dSp bs p ks ps).p]] := by
 exact (Qtjp bs p ks ps hg).1
theorem Q1zq : EntOK Tryz.prog CP Q963 Qx4k := by
 refine ⟨⟨Tryz.f119, by kernel_rfl, by kernel_rfl, by kernel_rfl⟩, fun args H res H' h => ?_⟩
 simp only [Qx4k] at h
 split at h
 ·simp only [Option.some.injEq, Prod.mk.injEq] at h
  obtain ⟨hg, rfl, rfl⟩ := h
  exact Q3hx _ _ _ _ hg
 ·cases h
end Lx
/- Meanings: books spoilt. -/
namespace Lx
open Go Go.Proofs
structure BookP where
 ks : List Kind
 ps : List Point
 es : List Entry
 p : Int
 deriving Inhabited
def goodS (ks : List Kind) (ps : List Point) (es : List Entry) : Bool := goodB ks ps es && (decide (ks.length ≤ 1000) && (decide (ps.length ≤ 100) && (decide (es.length ≤ 1000) && Qeqt ps)))
def Qe4i (p : Int) (x : BookP) : Prop := goodS x.ks x.ps x.es = true ∧ p ≤ x.p ∧ x.p ≤ p + 100
noncomputable def Qkav (bs : List Int) (p : Int) (ks : List Kind) (ps : List Point) (es : List Entry) : BookP := drawn (fun x => Qewq Tryz.prog CP Qvef [.ptr 0 0, .agg [.sl .kind ks, .sl .point ps, .sl .entry es]] [.box [.sl .u8 bs, .int .i64 p]] (.agg [.sl .kind x.ks, .sl .point x.ps, .sl .entry x.es]) [.box [.sl .u8 bs, .int .i64 x.p]] ∧ Qe4i p x)
def slK (bs : List Int) (p : Int) (ks : List Kind) (ps : List Point) (es : List Entry) : Bool := Qf9o bs && (decide (0 ≤ p) && (decide (p ≤ 870000) && (decide (1 ≤ ks.length) && (decide (1 ≤ ps.length) && goodE ks ps es))))
noncomputable def Qsb4 : Ent Ty El := ⟨[.io, .ro], 0, fun a h => match a, h with
 | [.ptr 0 0, .agg [.sl .kind ks, .sl .point ps, .sl .entry es]], [.box [.sl .u8 bs, .int .i64 p]] => some (slK bs p ks ps es, .agg [.sl .kind (Qkav bs p ks ps es).ks, .sl .point (Qkav bs p ks ps es).ps, .sl .entry (Qkav bs p ks ps es).es], [.box [.sl .u8 bs, .int .i64 (Qkav bs p ks ps es).p]])
 | _, _ => none⟩
def small (x : Entry) : Prop := x.fields.length ≤ 20 ∧ ∀ f ∈ x.fields, szV f.value = true
theorem Qq1u {ks : List Kind} {ps : List Point} {es : List Entry} (h1 : ks.length ≤ 1000) (h2 : ps.length ≤ 1000) (h3 : es.length ≤ 1000) (h4 : ∀ x ∈ es, small x) : goodB ks ps es = true := by
 simp only [goodB, szB, Q8cx, Q6lz, Qjyp, Qnwa, Bool.and_eq_true, decide_eq_true_eq, and_true]
 refine ⟨⟨by omega, List.all_eq_true.2 fun x hx => ?_⟩, by omega, by omega, by omega, List.all_eq_true.2 fun x hx => ?_⟩
 ·simp only [szE, Bool.and_eq_true, decide_eq_true_eq]
  exact ⟨by have := (h4 x hx).1; omega, List.all_eq_true.2 fun f hf => (h4 x hx).2 f hf⟩
 ·simp only [Qytc, Qckx, Bool.and_eq_true, decide_eq_true_eq, and_true]
  have := (h4 x hx).1; omega
theorem Qieu {ks : List Kind} {ps : List Point} {es : List Entry} (h1 : ks.length ≤ 1000) (h2 : ps.length ≤ 100) (h3 : es.length ≤ 1000) (h4 : ∀ x ∈ es, small x) (h5 : Qeqt ps = true) : goodS ks ps es = true := by
 have hb := Qq1u h1 (Nat.le_trans h2 (by decide)) h3 h4
 simp only [goodS, hb, h1, h2, h3, h5, decide_true, Bool.and_self]
theorem Qj7a {ks : List Kind} {ps : List Point} {es : List Entry} (h : goodE ks ps es = true) : goodS ks ps es = true := by
 have h0 := h
 simp only [goodE, Qn0o, Qib4, Bool.and_eq_true, decide_eq_true_eq] at h0
 obtain ⟨⟨⟨k2, s2, _⟩, e2, _⟩, hb⟩ := h0
 have hbase : Qib4 ks ps = true := by simp only [goodE, Qn0o, Bool.and_eq_true] at h; exact h.1.1
 simp only [goodS, hb, Bool.and_eq_true, decide_eq_true_eq]
 exact ⟨trivial, by omega, by omega, by omega, (Qd1y hbase).2⟩
theorem Qyyr {ks : List Kind} {ps : List Point} {es : List Entry} (h : goodE ks ps es = true) : es.length ≤ 12 ∧ ∀ x ∈ es, small x := by
 simp only [goodE, goodB, szB, Bool.and_eq_true, decide_eq_true_eq] at h
 obtain ⟨hb, ⟨_, hz⟩, _⟩ := h
 obtain ⟨h1, h2⟩ := Qm34 hb
 refine ⟨h1, fun x hx => ⟨by have := h2 x hx; omega, fun f hf => ?_⟩⟩
 have := List.all_eq_true.1 hz x hx
 simp only [szE, Bool.and_eq_true] at this
 exact List.all_eq_true.1 this.2 f hf
theorem Qt1v {es : List Entry} (h : ∀ x ∈ es, small x) (i : Nat) {e : Entry} (he : small e) : ∀ x ∈ es.set i e, small x := fun x hx => by
 rcases List.mem_or_eq_of_mem_set hx with hx | rfl
 ·exact h x hx
 ·exact he
theorem Qsfv {n : Str} {l : List Fld} (h : small ⟨n, l⟩) (i : Nat) {f : Fld} (hf : szV f.value = true) : small ⟨n, l.set i f⟩ := by
 refine ⟨by have := h.1; simp only [List.length_set]; exact this, fun g hg => ?_⟩
 rcases List.mem_or_eq_of_mem_set hg with hg | rfl
 ·exact h.2 g hg
 ·exact hf
theorem Q7q7 {es : List Entry} {i : Nat} (h : i < es.length) : es.getD i (dfltP .entry) ∈ es := by
 rw [List.getD_eq_getElem?_getD, List.getElem?_eq_getElem h]; exact List.getElem_mem _
theorem Qfaa {l : List Fld} {i : Nat} (h : i < l.length) : l.getD i (dfltP .fld) ∈ l := by
 rw [List.getD_eq_getElem?_getD, List.getElem?_eq_getElem h]; exact List.getElem_mem _
theorem Q23x {ks : List Kind} {ps : List Point} {es : List Entry} (h : goodE ks ps es = true) : ∀ x ∈ es, 1 ≤ x.fields.length := fun x hx => by
 simp only [goodE, Qn0o, Bool.and_eq_true] at h
 have := Qmra es _ h.1.2.2 x hx
 simp only [Q7i7, Bool.and_eq_true, Bool.not_eq_true', decide_eq_false_iff_not] at this
 omega
end Lx
/- Books spoilt. -/
namespace Lx
open Go Go.Proofs
noncomputable def Qb57 : RE Ty El := ⟨Tryz.prog, CP, [(Qpxs, Q7v2), (Qchm, Q2vb), (Qfx9, Qc1o), (Q0nv, Qwn9), (Q963, Qx4k), (Qstj, Qmce)], Tryz.f143, 1, [.agg [.ro .kind, .ro .point, .ro .entry]], [(10, [(4, .any), (5, .any), (8, .any), (9, .any)]), (3, [(0, .box [.ro .kind, .ro .point, .any]), (4, .box [.ro .kind, .ro .point, .any]), (5, .box [.ro .kind, .ro .point, .any])]), (14, [(0, .box [.ro .kind, .ro .point, .any]), (4, .box [.ro .kind, .ro .point, .any]), (5, .box [.ro .kind, .ro .point, .any])]), (26, [(4, .any), (5, .any), (6, .any)])]⟩
theorem Qjmm : REOK Qb57 Qvef := ⟨CP_ok, (TabOK.cons Q0e7 (TabOK.cons Qyvd (TabOK.cons Qaka (TabOK.cons Q83y (TabOK.cons Q1zq (TabOK.cons Qqii Qye1)))))), by kernel_rfl, by kernel_rfl⟩
theorem Qocw (bs : List Int) (p : Int) (ks : List Kind) (ps : List Point) (es : List Entry) : aRun Qb57 600 false (body0 Qb57.fn) (Q4gm Qb57.fn [.ptr 0 0, .agg [.sl .kind ks, .sl .point ps, .sl .entry es]] [.box [.sl .u8 bs, .int .i64 p]]) =
 ifb (Q8cx ks ps es) (ifb ((↑es.length : Int) == (0 : Int)) (some (.go (Qu6t Qb57.fn 3) [.ptr 0 0, .ptr 1 0, .ptr 2 0] [.box [.sl .u8 bs, .int .i64 p], .box [.sl .kind [], .sl .point [], .nils], .box [.sl .kind ks, .sl .point ps, .own 3 [] 0], .row .entry es 1 0 0 .no])) (ifb (posOk p) (ifb (inb (pickV bs p (↑es.length : Int)) es.length) (ifb (posOk (p + (1 : Int))) (ifb (posOk (p + (1 : Int) + (1 : Int))) (ifb (pickV bs (p + (1 : Int) + (1 : Int)) (8 : Int) == (0 : Int)) (some (.go (Qu6t Qb57.fn 14) [.ptr 0 0, .ptr 1 0, .ptr 2 0] [.box [.sl .u8 bs, .int .i64 (p + (1 : Int) + (1 : Int) + (1 : Int))], .box [.sl .kind [], .sl .point [], .nils], .box [.sl .kind ks, .sl .point ps, .own 3 [] 0], .row .entry es 1 0 0 .no])) (ifb (pickV bs (p + (1 : Int) + (1 : Int)) (8 : Int) == (1 : Int)) (ifb (rdOk bs (p + (1 : Int) + (1 : Int) + (1 : Int)) && decide ((0 : Nat) < [#[].toList, #[(97 : UInt8)].toList, #[(122 : UInt8), (122 : UInt8)].toList, #[(75 : UInt8)].toList].length)) (ifb (inb (pickV bs p (↑es.length : Int)) es.length) (some (.ret (.agg [.sl .kind ks, .sl .point ps, .sl .entry (es.set (pickV bs p (↑es.length : Int)).toNat (Entry.mk (ofV bs (p + (1 : Int) + (1 : Int) + (1 : Int)) [#[].toList, #[(97 : UInt8)].toList, #[(122 : UInt8), (122 : UInt8)].toList, #[(75 : UInt8)].toList]) (es.getD (pickV bs p (↑es.length : Int)).toNat (Qb57.C.dflt Ty.entry)).fields))]) [.box [.sl .u8 bs, .int .i64 (p + (1 : Int) + (1 : Int) + (1 : Int) + (1 : Int))]])) (none)) (none)) (ifb (pickV bs (p + (1 : Int) + (1 : Int)) (8 : Int) == (2 : Int)) (ifb (inb (pickV bs p (↑es.length : Int)) es.length) (some (.ret (.agg [.sl .kind ks, .sl .point ps, .sl .entry (es.set (pickV bs p (↑es.length : Int)).toNat (Entry.mk (es.getD (pickV bs p (↑es.length : Int)).toNat (Qb57.C.dflt Ty.entry)).name []))]) [.box [.sl .u8 bs, .int .i64 (p + (1 : Int) + (1 : Int) + (1 : Int))]])) (none)) (ifb (pickV bs (p + (1 : Int) + (1 : Int)) (8 : Int) == (3 : Int)) (ifb (inb (pickV bs p (↑es.length : Int)) es.length) (ifb (posOk (p + (1 : Int) + (1 : Int) + (1 : Int))) (ifb (inb (pickV bs (p + (1 : Int)) (↑(es.getD (pickV bs p (↑es.length : Int)).toNat (Qb57.C.dflt Ty.entry)).fields.length : Int)) (es.getD (pickV bs p (↑es.length : Int)).toNat (Qb57.C.dflt Ty.entry)).fields.length) (some (.ret (.agg [.sl .kind ks, .sl .point ps, .sl .entry (es.set (pickV bs p (↑es.length : Int)).toNat (Entry.mk (es.getD (pickV bs p (↑es.length : Int)).toNat (Qb57.C.dflt Ty.entry)).name ((es.getD (pickV bs p (↑es.length : Int)).toNat (Qb57.C.dflt Ty.entry)).fields.set (pickV bs (p + (1 : Int)) (↑(es.getD (pickV bs p (↑es.length : Int)).toNat (Qb57.C.dflt Ty.entry)).fields.length : Int)).toNat (Fld.mk (pickV bs (p + (1 : Int) + (1 : Int) + (1 : Int)) (7 : Int)) ((es.getD (pickV bs p (↑es.length : Int)).toNat (Qb57.C.dflt Ty.entry)).fields.getD (pickV bs (p + (1 : Int)) (↑(es.getD (pickV bs p (↑es.length : Int)).toNat (Qb57.C.dflt Ty.entry)).fields.length : Int)).toNat (Qb57.C.dflt Ty.fld)).number ((es.getD (pickV bs p (↑es.length : Int)).toNat (Qb57.C.dflt Ty.entry)).fields.getD (pickV bs (p + (1 : Int)) (↑(es.getD (pickV bs p (↑es.length : Int)).toNat (Qb57.C.dflt Ty.entry)).fields.length : Int)).toNat (Qb57.C.dflt Ty.fld)).value))))]) [.box [.sl .u8 bs, .int .i64 (p + (1 : Int) + (1 : Int) + (1 : Int) + (1 : Int))]])) (none)) (none)) (none)) (ifb (pickV bs (p + (1 : Int) + (1 : Int)) (8 : Int) == (4 : Int)) (ifb (inb (pickV bs p (↑es.length : Int)) es.length) (ifb (posOk (p + (1 : Int) + (1 : Int) + (1 : Int))) (ifb (inb (pickV bs (p + (1 : Int) + (1 : Int) + (1 : Int)) (3 : Int)) [(0 : Int), (1000001 : Int), (1000000 : Int)].length) (ifb (inb (pickV bs (p + (1 : Int)) (↑(es.getD (pickV bs p (↑es.length : Int)).toNat (Qb57.C.dflt Ty.entry)).fields.length : Int)) (es.getD (pickV bs p (↑es.length : Int)).toNat (Qb57.C.dflt Ty.entry)).fields.length) (some (.ret (.agg [.sl .kind ks, .sl .point ps, .sl .entry (es.set (pickV bs p (↑es.length : Int)).toNat (Entry.mk (es.getD (pickV bs p (↑es.length : Int)).toNat (Qb57.C.dflt Ty.entry)).name ((es.getD (pickV bs p (↑es.length : Int)).toNat (Qb57.C.dflt Ty.entry)).fields.set (pickV bs (p + (1 : Int)) (↑(es.getD (pickV bs p (↑es.length : Int)).toNat (Qb57.C.dflt Ty.entry)).fields.length : Int)).toNat (Fld.mk ((es.getD (pickV bs p (↑es.length : Int)).toNat (Qb57.C.dflt Ty.entry)).fields.getD (pickV bs (p + (1 : Int)) (↑(es.getD (pickV bs p (↑es.length : Int)).toNat (Qb57.C.dflt Ty.entry)).fields.length : Int)).toNat (Qb57.C.dflt Ty.fld)).what ([(0 : Int), (1000001 : Int), (1000000 : Int)].getD (pickV bs (p + (1 : Int) + (1 : Int) + (1 : Int)) (3 : Int)).toNat (Qb57.C.dflt Ty.int)) ((es.getD (pickV bs p (↑es.length : Int)).toNat (Qb57.C.dflt Ty.entry)).fields.getD (pickV bs (p + (1 : Int)) (↑(es.getD (pickV bs p (↑es.length : Int)).toNat (Qb57.C.dflt Ty.entry)).fields.length : Int)).toNat (Qb57.C.dflt Ty.fld)).value))))]) [.box [.sl .u8 bs, .int .i64 (p + (1 : Int) + (1 : Int) + (1 : Int) + (1 : Int))]])) (none)) (none)) (none)) (none)) (ifb (pickV bs (p + (1 : Int) + (1 : Int)) (8 : Int) == (5 : Int)) (ifb (inb (pickV bs p (↑es.length : Int)) es.length) (ifb (rdOk bs (p + (1 : Int) + (1 : Int) + (1 : Int))) (ifb (inb (pickV bs (p + (1 : Int)) (↑(es.getD (pickV bs p (↑es.length : Int)).toNat (Qb57.C.dflt Ty.entry)).fields.length : Int)) (es.getD (pickV bs p (↑es.length : Int)).toNat (Qb57.C.dflt Ty.entry)).fields.length) (some (.ret (.agg [.sl .kind ks, .sl .point ps, .sl .entry (es.set (pickV bs p (↑es.length : Int)).toNat (Entry.mk (es.getD (pickV bs p (↑es.length : Int)).toNat (Qb57.C.dflt Ty.entry)).name ((es.getD (pickV bs p (↑es.length : Int)).toNat (Qb57.C.dflt Ty.entry)).fields.set (pickV bs (p + (1 : Int)) (↑(es.getD (pickV bs p (↑es.length : Int)).toNat (Qb57.C.dflt Ty.entry)).fields.length : Int)).toNat (Fld.mk ((es.getD (pickV bs p (↑es.length : Int)).toNat (Qb57.C.dflt Ty.entry)).fields.getD (pickV bs (p + (1 : Int)) (↑(es.getD (pickV bs p (↑es.length : Int)).toNat (Qb57.C.dflt Ty.entry)).fields.length : Int)).toNat (Qb57.C.dflt Ty.fld)).what ((es.getD (pickV bs p (↑es.length : Int)).toNat (Qb57.C.dflt Ty.entry)).fields.getD (pickV bs (p + (1 : Int)) (↑(es.getD (pickV bs p (↑es.length : Int)).toNat (Qb57.C.dflt Ty.entry)).fields.length : Int)).toNat (Qb57.C.dflt Ty.fld)).number (ofV bs (p + (1 : Int) + (1 : Int) + (1 : Int)) bad12)))))]) [.box [.sl .u8 bs, .int .i64 (p + (1 : Int) + (1 : Int) + (1 : Int) + (1 : Int))]])) (none)) (none)) (none)) (ifb (pickV bs (p + (1 : Int) + (1 : Int)) (8 : Int) == (6 : Int)) (some (.go (Qu6t Qb57.fn 26) [.ptr 1 0, .ptr 2 0, .int .i64 (pickV bs p (↑es.length : Int))] [.box [.sl .u8 bs, .int .i64 (p + (1 : Int) + (1 : Int) + (1 : Int))], .box [.nils, .nils, .nils], .box [.own 3 [] 0, .own 4 [] 0, .own 5 [] 0], .row .kind ks 0 0 0 .no, .row .point ps 0 0 0 .no, .row .entry es 1 0 0 .no])) (ifb (posOk (p + (1 : Int) + (1 : Int) + (1 : Int))) (some (.go (Qu6t Qb57.fn 10) [.ptr 1 0, .ptr 2 0, .int .i64 (IntKind.i64.wrap ((12 : Int) + pickV bs (p + (1 : Int) + (1 : Int) + (1 : Int)) (2 : Int))), .int .i64 (0 : Int)] [.box [.sl .u8 bs, .int .i64 (p + (1 : Int) + (1 : Int) + (1 : Int) + (1 : Int))], .box [.nils, .nils, .nils], .box [.own 3 [] 0, .own 4 [] 0, .own 5 [] 0], .row .kind ks 0 0 0 .no, .row .point ps 0 0 0 .no, .row .entry es 1 0 0 .no])) (none))))))))) (none)) (none)) (none)) (none))) (none) := by kernel_rfl
theorem Qv3i (x0 : List (El .u8)) (x1 : Int) (x2 : List (El .kind)) (x3 : List (El .point)) (x4 : List (El .kind)) (x5 : List (El .point)) (x6 : List (El .entry)) : aRun Qb57 600 true (Qu6t Qb57.fn 3) (cutSt Qb57.fn (Q1m4 Qb57 (Qu6t Qb57.fn 3)) [.ptr 0 0, .ptr 1 0, .ptr 2 0] [.box [.sl .u8 x0, .int .i64 x1], .box [.sl .kind x2, .sl .point x3, .nils], .box [.sl .kind x4, .sl .point x5, .own 3 [] 0], .row .entry x6 1 0 0 .no]) =
 ifb (spK x0 x1 x4 x5) (some (.ret (.agg [.sl .kind ((dSp x0 x1 x4 x5).ks), .sl .point ((dSp x0 x1 x4 x5).ps), .sl .entry x6]) [.box [.sl .u8 x0, .int .i64 ((dSp x0 x1 x4 x5).p)]])) (none) := by kernel_rfl
theorem Qmd8 (x0 : List (El .u8)) (x1 : Int) (x2 : List (El .kind)) (x3 : List (El .point)) (x4 : List (El .kind)) (x5 : List (El .point)) (x6 : List (El .entry)) : aRun Qb57 600 true (Qu6t Qb57.fn 14) (cutSt Qb57.fn (Q1m4 Qb57 (Qu6t Qb57.fn 14)) [.ptr 0 0, .ptr 1 0, .ptr 2 0] [.box [.sl .u8 x0, .int .i64 x1], .box [.sl .kind x2, .sl .point x3, .nils], .box [.sl .kind x4, .sl .point x5, .own 3 [] 0], .row .entry x6 1 0 0 .no]) =
 ifb (spK x0 x1 x4 x5) (some (.ret (.agg [.sl .kind ((dSp x0 x1 x4 x5).ks), .sl .point ((dSp x0 x1 x4 x5).ps), .sl .entry x6]) [.box [.sl .u8 x0, .int .i64 ((dSp x0 x1 x4 x5).p)]])) (none) := by kernel_rfl
theorem Q57m (x0 : Int) (x1 : Int) (x2 : List (El .u8)) (x3 : Int) (x4 : List (El .kind)) (x5 : List (El .point)) (x6 : List (El .entry)) : aRun Qb57 600 true (Qu6t Qb57.fn 10) (cutSt Qb57.fn (Q1m4 Qb57 (Qu6t Qb57.fn 10)) [.ptr 1 0, .ptr 2 0, .int .i64 x0, .int .i64 x1] [.box [.sl .u8 x2, .int .i64 x3], .box [.nils, .nils, .nils], .box [.own 3 [] 0, .own 4 [] 0, .own 5 [] 0], .row .kind x4 0 0 0 .no, .row .point x5 0 0 0 .no, .row .entry x6 1 0 0 .no]) =
 ifb (decide ((↑x6.length : Int) < x0)) (ifb (decide ((0 : Int) ≤ IntKind.i64.wrap ((10 : Int) + x1)) && decide (IntKind.i64.wrap ((10 : Int) + x1) < (10 : Int) ^ ((4 : Nat) + (1 : Nat)))) (ifb (decide (#[(122 : UInt8)].toList.length + List.length (dDec (4 : Nat) (IntKind.i64.wrap ((10 : Int) + x1))) ≤ (9223372036854775807 : Nat))) (ifb (decide ((x6.length + [Entry.mk (#[(122 : UInt8)].toList ++ dDec (4 : Nat) (IntKind.i64.wrap ((10 : Int) + x1))) [Fld.mk (5 : Int) (1 : Int) #[(111 : UInt8), (112 : UInt8), (101 : UInt8), (110 : UInt8)].toList]].length) * Qbhn Qb57.P (92 : Nat) ≤ (140737488355328 : Nat))) (some (.go (Qu6t Qb57.fn 10) [.ptr 1 0, .ptr 2 0, .int .i64 x0, .int .i64 (IntKind.i64.wrap (x1 + (1 : Int)))] [.box [.sl .u8 x2, .int .i64 x3], .box [.nils, .nils, .nils], .box [.own 3 [] 0, .own 4 [] 0, .own 5 [] 0], .row .kind x4 0 0 0 .no, .row .point x5 0 0 0 .no, .row .entry (x6 ++ [Entry.mk (#[(122 : UInt8)].toList ++ dDec (4 : Nat) (IntKind.i64.wrap ((10 : Int) + x1))) [Fld.mk (5 : Int) (1 : Int) #[(111 : UInt8), (112 : UInt8), (101 : UInt8), (110 : UInt8)].toList]]) 1 0 0 .no])) (none)) (none)) (none)) (some (.ret (.agg [.sl .kind x4, .sl .point x5, .sl .entry x6]) [.box [.sl .u8 x2, .int .i64 x3]])) := by kernel_rfl
theorem Qamf (x0 : Int) (x1 : List (El .u8)) (x2 : Int) (x3 : List (El .kind)) (x4 : List (El .point)) (x5 : List (El .entry)) : aRun Qb57 600 true (Qu6t Qb57.fn 26) (cutSt Qb57.fn (Q1m4 Qb57 (Qu6t Qb57.fn 26)) [.ptr 1 0, .ptr 2 0, .int .i64 x0] [.box [.sl .u8 x1, .int .i64 x2], .box [.nils, .nils, .nils], .box [.own 3 [] 0, .own 4 [] 0, .own 5 [] 0], .row .kind x3 0 0 0 .no, .row .point x4 0 0 0 .no, .row .entry x5 0 0 0 .no]) =
 ifb (inb x0 x5.length) (ifb (decide ((x5.length + [x5.getD x0.toNat (Qb57.C.dflt Ty.entry)].length) * Qbhn Qb57.P (92 : Nat) ≤ (140737488355328 : Nat))) (some (.ret (.agg [.sl .kind x3, .sl .point x4, .sl .entry (x5 ++ [x5.getD x0.toNat (Qb57.C.dflt Ty.entry)])]) [.box [.sl .u8 x1, .int .i64 x2]])) (none)) (none) := by kernel_rfl
theorem Qn22 {bs : List Int} {p q : Int} {ks : List Kind} {ps : List Point} {es : List Entry} (h1 : goodS ks ps es = true) (h3 : p ≤ q) (h4 : q ≤ p + 100) : ∃ x : BookP, (AV.agg [.sl .kind ks, .sl .point ps, .sl .entry es] : AV Ty El) = (.agg [.sl .kind x.ks, .sl .point x.ps, .sl .entry x.es]) ∧ ([.box [.sl .u8 bs, .int .i64 q]] : List (AObj Ty El)) = [.box [.sl .u8 bs, .int .i64 x.p]] ∧ Qe4i p x := ⟨⟨ks, ps, es, q⟩, rfl, rfl, h1, h3, h4⟩
theorem Qtzz (bs : List Int) (hbs : Qf9o bs = true) (ks : List Kind) (ps : List Point) (es : List Entry) (k1 : 1 ≤ ks.length) (k2 : ks.length ≤ 10) (s1 : 1 ≤ ps.length) (s2 : ps.length ≤ 40) (h12 : es.length ≤ 12) (hs : ∀ x ∈ es, small x) (hn : Qeqt ps = true) (p q : Int) (h0 : 0 ≤ p) (h9 : p ≤ 870000) (h2 : p ≤ q) (h3 : q ≤ p + 10) :
  CutE Qb57 Qvef 3 [.ptr 0 0, .ptr 1 0, .ptr 2 0] [.box [.sl .u8 bs, .int .i64 q], .box [.sl .kind [], .sl .point [], .nils], .box [.sl .kind ks, .sl .point ps, .own 3 [] 0], .row .entry es 1 0 0 .no] (fun v h => ∃ x : BookP, v = (.agg [.sl .kind x.ks, .sl .point x.ps, .sl .entry x.es]) ∧ h = [.box [.sl .u8 bs, .int .i64 x.p]] ∧ Qe4i p x) := by
 refine CutE.of Qjmm rfl (Qv3i bs q [] [] ks ps es) ?_
 have hk : spK bs q ks ps = true := by simp only [spK, Bool.and_eq_true, decide_eq_true_eq]; exact ⟨hbs, by omega, by omega, k1, k2, s1, s2, hn⟩
 obtain ⟨a1, a2, a3, a4, a5⟩ := (Qtjp bs q ks ps hk).2
 exact SatE.need hk (SatE.ret (Qn22 (Qieu (by omega) (by omega) (by omega) hs a5) (by omega) (by omega)))
theorem Qv3y (bs : List Int) (hbs : Qf9o bs = true) (ks : List Kind) (ps : List Point) (es : List Entry) (k1 : 1 ≤ ks.length) (k2 : ks.length ≤ 10) (s1 : 1 ≤ ps.length) (s2 : ps.length ≤ 40) (h12 : es.length ≤ 12) (hs : ∀ x ∈ es, small x) (hn : Qeqt ps = true) (p q : Int) (h0 : 0 ≤ p) (h9 : p ≤ 870000) (h2 : p ≤ q) (h3 : q ≤ p + 10) :
  CutE Qb57 Qvef 14 [.ptr 0 0, .ptr 1 0, .ptr 2 0] [.box [.sl .u8 bs, .int .i64 q], .box [.sl .kind [], .sl .point [], .nils], .box [.sl .kind ks, .sl .point ps, .own 3 [] 0], .row .entry es 1 0 0 .no] (fun v h => ∃ x : BookP, v = (.agg [.sl .kind x.ks, .sl .point x.ps, .sl .entry x.es]) ∧ h = [.box [.sl .u8 bs, .int .i64 x.p]] ∧ Qe4i p x) := by
 refine CutE.of Qjmm rfl (Qmd8 bs q [] [] ks ps es) ?_
 have hk : spK bs q ks ps = true := by simp only [spK, Bool.and_eq_true, decide_eq_true_eq]; exact ⟨hbs, by omega, by omega, k1, k2, s1, s2, hn⟩
 obtain ⟨a1, a2, a3, a4, a5⟩ := (Qtjp bs q ks ps hk).2
 exact SatE.need hk (SatE.ret (Qn22 (Qieu (by omega) (by omega) (by omega) hs a5) (by omega) (by omega)))
theorem Q985 (bs : List Int) (ks : List Kind) (ps : List Point) (k2 : ks.length ≤ 10) (s2 : ps.length ≤ 40) (hnm : Qeqt ps = true) (p q n : Int) (hn : n ≤ 20) (h2 : p ≤ q) (h3 : q ≤ p + 10) : ∀ (d i : Nat) (es : List Entry), n ≤ es.length + d → i + d ≤ 50 → es.length ≤ 20 → (∀ x ∈ es, small x) →
  CutE Qb57 Qvef 10 [.ptr 1 0, .ptr 2 0, .int .i64 n, .int .i64 (i : Int)] [.box [.sl .u8 bs, .int .i64 q], .box [.nils, .nils, .nils], .box [.own 3 [] 0, .own 4 [] 0, .own 5 [] 0], .row .kind ks 0 0 0 .no, .row .point ps 0 0 0 .no, .row .entry es 1 0 0 .no] (fun v h => ∃ x : BookP, v = (.agg [.sl .kind x.ks, .sl .point x.ps, .sl .entry x.es]) ∧ h = [.box [.sl .u8 bs, .int .i64 x.p]] ∧ Qe4i p x) := by
 have hbb : Qbhn Qb57.P 92 ≤ 256 := of_decide_eq_true (by kernel_rfl)
 intro d
 induction d with
 | zero =>
  intro i es hl hi hm hs
  refine CutE.of Qjmm rfl (Q57m n i bs q ks ps es) ?_
  rw [show decide ((es.length : Int) < n) = false from decide_eq_false (by omega), Qk7y]
  exact SatE.ret (Qn22 (Qieu (by omega) (by omega) (by omega) hs hnm) (by omega) (by omega))
 | succ d ih =>
  intro i es hl hi hm hs
  refine CutE.of Qjmm rfl (Q57m n i bs q ks ps es) ?_
  have hw : IntKind.i64.wrap ((i : Int) + 1) = ((i + 1 : Nat) : Int) := by rw [Qbrg] <;> omega
  have hw2 : IntKind.i64.wrap (10 + (i : Int)) = 10 + (i : Int) := Qbrg (by omega) (by omega)
  obtain ⟨g1, l1⟩ := decs (n := 10 + (i : Int)) (by omega) (by omega)
  rw [hw, hw2]
  refine SatE.ifb (fun hlt => ?_) (fun _ => SatE.ret (Qn22 (Qieu (by omega) (by omega) (by omega) hs hnm) (by omega) (by omega)))
  have hlt := of_decide_eq_true hlt
  refine SatE.need g1 (SatE.need (decide_eq_true (by simp; omega)) (SatE.need (Q1mk hbb (by simp; omega)) (SatE.cut (ih (i + 1) _ (by simp; omega) (by omega) (by simp; omega) ?_))))
  intro x hx
  rcases List.mem_append.1 hx with hx | hx
  ·exact hs x hx
  ·simp only [List.mem_singleton] at hx
   subst hx
   exact ⟨by simp, fun f hf => by simp only [List.mem_singleton] at hf; subst hf; exact decide_eq_true (by simp)⟩
theorem Qzxv (bs : List Int) (p : Int) (ks : List Kind) (ps : List Point) (es : List Entry) (hg : slK bs p ks ps es = true) : Qewq Tryz.prog CP Qvef [.ptr 0 0, .agg [.sl .kind ks, .sl .point ps, .sl .entry es]] [.box [.sl .u8 bs, .int .i64 p]] (.agg [.sl .kind (Qkav bs p ks ps es).ks, .sl .point (Qkav bs p ks ps es).ps, .sl .entry (Qkav bs p ks ps es).es]) [.box [.sl .u8 bs, .int .i64 (Qkav bs p ks ps es).p]] ∧ Qe4i p (Qkav bs p ks ps es) := by
 simp only [slK, Bool.and_eq_true, decide_eq_true_eq] at hg
 obtain ⟨hbs, h0, h9, k1, s1, hge⟩ := hg
 have hge2 := hge
 simp only [goodE, goodB, Qn0o, Qib4, Bool.and_eq_true, decide_eq_true_eq] at hge2
 obtain ⟨⟨⟨k2, s2, _⟩, _⟩, _, ht⟩ := hge2
 obtain ⟨h12, hs⟩ := Qyyr hge
 have hnm : Qeqt ps = true := by
  have h := hge
  simp only [goodE, Qn0o, Bool.and_eq_true] at h
  exact (Qd1y h.1.1).2
 have hbb : Qbhn Qb57.P 92 ≤ 256 := of_decide_eq_true (by kernel_rfl)
 have ps0 : ∀ (q : Int), p ≤ q → q ≤ p + 10 → posOk q = true := fun q h2 h3 => Q8s4 (by omega) (by omega)
 have pk : ∀ (q n : Int), p ≤ q → q ≤ p + 10 → 1 ≤ n → 0 ≤ pickV bs q n ∧ pickV bs q n < n := fun q n h2 h3 h4 => Q5va hbs (ps0 q h2 h3) h4
 have rd0 : ∀ (q : Int), p ≤ q → q ≤ p + 10 → rdOk bs q = true := fun q h2 h3 => by rw [rdOk, hbs, ps0 q h2 h3]; rfl
 have rd : ∀ (q : Int) (l : List Str), p ≤ q → q ≤ p + 10 → 0 < l.length → (rdOk bs q && decide (0 < l.length)) = true := fun q l h2 h3 hl => by rw [rd0 q h2 h3, decide_eq_true hl]; rfl
 have hE : CallE Qb57.P Qb57.C Qvef [.ptr 0 0, .agg [.sl .kind ks, .sl .point ps, .sl .entry es]] [.box [.sl .u8 bs, .int .i64 p]] (fun v h => ∃ x : BookP, v = (.agg [.sl .kind x.ks, .sl .point x.ps, .sl .entry x.es]) ∧ h = [.box [.sl .u8 bs, .int .i64 x.p]] ∧ Qe4i p x) := by
  refine CallE.of Qjmm (by kernel_rfl) (Qocw bs p ks ps es) ?_
  refine SatE.need ht (SatE.ifb (fun _ => SatE.cut (Qtzz bs hbs ks ps es k1 (by omega) s1 (by omega) h12 hs hnm p p h0 h9 (by omega) (by omega))) (fun hne => ?_))
  have hl1 : 1 ≤ es.length := by
   have : ¬ ((es.length : Int) = 0) := by simpa using hne
   omega
  obtain ⟨i1, i2⟩ := pk p (es.length : Int) (by omega) (by omega) (by omega)
  have hi : inb (pickV bs p (es.length : Int)) es.length = true := inbL ⟨i1, i2⟩
  have hm := Q7q7 (es := es) (i := (pickV bs p (es.length : Int)).toNat) (by omega)
  have hsm := hs _ hm
  have hfp := Q23x hge _ hm
  refine SatE.need (ps0 _ (by omega) (by omega)) (SatE.need hi (SatE.need (ps0 _ (by omega) (by omega)) (SatE.need (ps0 _ (by omega) (by omega)) ?_)))
  have hf : inb (pickV bs (p + 1) ((es.getD (pickV bs p (es.length : Int)).toNat (dfltP .entry)).fields.length : Int)) (es.getD (pickV bs p (es.length : Int)).toNat (dfltP .entry)).fields.length = true := inbL (pk (p + 1) _ (by omega) (by omega) (by omega))
  obtain ⟨f1, f2⟩ := pk (p + 1) ((es.getD (pickV bs p (es.length : Int)).toNat (dfltP .entry)).fields.length : Int) (by omega) (by omega) (by omega)
  have hfm := Qfaa (l := (es.getD (pickV bs p (es.length : Int)).toNat (dfltP .entry)).fields) (i := (pickV bs (p + 1) ((es.getD (pickV bs p (es.length : Int)).toNat (dfltP .entry)).fields.length : Int)).toNat) (by omega)
  have hfz := hsm.2 _ hfm
  have fin : ∀ (es' : List Entry) (q : Int), es'.length ≤ 20 → (∀ x ∈ es', small x) → p ≤ q → q ≤ p + 10 → SatE Qb57 Qvef (fun v h => ∃ x : BookP, v = (.agg [.sl .kind x.ks, .sl .point x.ps, .sl .entry x.es]) ∧ h = [.box [.sl .u8 bs, .int .i64 x.p]] ∧ Qe4i p x) (some (.ret (.agg [.sl .kind ks, .sl .point ps, .sl .entry es']) [.box [.sl .u8 bs, .int .i64 q]])) := fun es' q h1 h2 h3 h4 => SatE.ret (Qn22 (Qieu (by omega) (by omega) (by omega) h2 hnm) (by omega) (by omega))
  have hsl : ∀ (k : Nat) (e : Entry), (es.set k e).length ≤ 20 := fun k e => by rw [List.length_set]; omega
  refine SatE.ifb (fun _ => ?_) (fun _ => SatE.ifb (fun _ => ?_) (fun _ => SatE.ifb (fun _ => ?_) (fun _ => SatE.ifb (fun _ => ?_) (fun _ => SatE.ifb (fun _ => ?_) (fun _ => SatE.ifb (fun _ => ?_) (fun _ => SatE.ifb (fun _ => ?_) (fun _ => ?_)))))))
  ·exact SatE.cut (Qv3y bs hbs ks ps es k1 (by omega) s1 (by omega) h12 hs hnm p _ h0 h9 (by omega) (by omega))
  ·exact SatE.need (rd _ _ (by omega) (by omega) (Nat.zero_lt_succ _)) (SatE.need hi (fin _ _ (hsl _ _) (Qt1v hs _ hsm) (by omega) (by omega)))
  ·exact SatE.need hi (fin _ _ (hsl _ _) (Qt1v hs _ ⟨Nat.zero_le _, fun f hf => by cases hf⟩) (by omega) (by omega))
  ·exact SatE.need hi (SatE.need (ps0 _ (by omega) (by omega)) (SatE.need hf (fin _ _ (hsl _ _) (Qt1v hs _ (Qsfv hsm _ hfz)) (by omega) (by omega))))
  ·exact SatE.need hi (SatE.need (ps0 _ (by omega) (by omega)) (SatE.need (inb3 (pk (p + 1 + 1 + 1) 3 (by omega) (by omega) (by omega))) (SatE.need hf (fin _ _ (hsl _ _) (Qt1v hs _ (Qsfv hsm _ hfz)) (by omega) (by omega)))))
  ·exact SatE.need hi (SatE.need (rd0 _ (by omega) (by omega)) (SatE.need hf (fin _ _ (hsl _ _) (Qt1v hs _ (Qsfv hsm _ (decide_eq_true (Nat.le_trans (Qgo3 (M := 100) (by rfl)) (by omega))))) (by omega) (by omega))))
  ·refine SatE.cut (CutE.frz (r := 5) (d := 1) (d' := 0) (T := .entry) (xs := es) CP_ok (by simp) rfl (by omega) ?_)
   refine CutE.of Qjmm rfl (Qamf _ bs _ ks ps es) ?_
   refine SatE.need hi (SatE.need (Q1mk hbb (by simp; omega)) (fin _ _ (by simp; omega) (fun x hx => ?_) (by omega) (by omega)))
   rcases List.mem_append.1 hx with hx | hx
   ·exact hs x hx
   ·simp only [List.mem_singleton] at hx
    subst hx
    exact hsm
  ·obtain ⟨n1, n2⟩ := pk (p + 1 + 1 + 1) 2 (by omega) (by omega) (by omega)
   have hw : IntKind.i64.wrap (12 + pickV bs (p + 1 + 1 + 1) 2) = 12 + pickV bs (p + 1 + 1 + 1) 2 := Qbrg (by omega) (by omega)
   rw [hw]
   exact SatE.need (ps0 _ (by omega) (by omega)) (SatE.cut (Q985 bs ks ps (by omega) (by omega) hnm p _ _ (by omega) (by omega) (by omega) 13 0 es (by omega) (by omega) (by omega) hs))
 obtain ⟨v, H', h, x, rfl, rfl, hx⟩ := hE
 exact Qk78 (p := fun x : BookP => Qewq Tryz.prog CP Qvef [.ptr 0 0, .agg [.sl .kind ks, .sl .point ps, .sl .entry es]] [.box [.sl .u8 bs, .int .i64 p]] (.agg [.sl .kind x.ks, .sl .point x.ps, .sl .entry x.es]) [.box [.sl .u8 bs, .int .i64 x.p]] ∧ Qe4i p x) ⟨x, h, hx⟩
theorem Qq5v (bs : List Int) (p : Int) (ks : List Kind) (ps : List Point) (es : List Entry) (hg : slK bs p ks ps es = true) : Qewq Tryz.prog CP Qvef [.ptr 0 0, .agg [.sl .kind ks, .sl .point ps, .sl .entry es]] [.box [.sl .u8 bs, .int .i64 p]] (.agg [.sl .kind (Qkav bs p ks ps es).ks, .sl .point (Qkav bs p ks ps es).ps, .sl .entry (Qkav bs p ks ps es).es]) [.box [.sl .u8 bs, .int .i64 (Qkav bs p ks ps es).p]] := by
 exact (Qzxv bs p ks ps es hg).1
theorem Qql7 : EntOK Tryz.prog CP Qvef Qsb4 := by
 refine ⟨⟨Tryz.f143, by kernel_rfl, by kernel_rfl, by kernel_rfl⟩, fun args H res H' h => ?_⟩
 simp only [Qsb4] at h
 split at h
 ·simp only [Option.some.injEq, Prod.mk.injEq] at h
  obtain ⟨hg, rfl, rfl⟩ := h
  exact Qq5v _ _ _ _ _ hg
 ·cases h
end Lx
/- Meanings: any book. -/
namespace Lx
open Go Go.Proofs
def Qjf2 (p : Int) (x : BookP) : Prop := goodS x.ks x.ps x.es = true ∧ p ≤ x.p ∧ x.p ≤ p + 2000
noncomputable def dAny (bs : List Int) (p : Int) : BookP := drawn (fun x => Qewq Tryz.prog CP Qzkm [.ptr 0 0] [.box [.sl .u8 bs, .int .i64 p]] (.agg [.sl .kind x.ks, .sl .point x.ps, .sl .entry x.es]) [.box [.sl .u8 bs, .int .i64 x.p]] ∧ Qjf2 p x)
def anyK (bs : List Int) (p : Int) : Bool := Qf9o bs && (decide (0 ≤ p) && decide (p ≤ 800000))
noncomputable def Qrra : Ent Ty El := ⟨[.io], 0, fun a h => match a, h with
 | [.ptr 0 0], [.box [.sl .u8 bs, .int .i64 p]] => some (anyK bs p, .agg [.sl .kind (dAny bs p).ks, .sl .point (dAny bs p).ps, .sl .entry (dAny bs p).es], [.box [.sl .u8 bs, .int .i64 (dAny bs p).p]])
 | _, _ => none⟩
end Lx
/- Any book. -/
namespace Lx
open Go Go.Proofs
noncomputable def Qsx2 : RE Ty El := ⟨Tryz.prog, CP, [(Qpxs, Q7v2), (Qwua, Qu46), (Q604, Qnfe), (Qvef, Qsb4)], Tryz.f81, 1, [.agg [.ro .kind, .ro .point, .ro .entry]], []⟩
theorem Q1ej : REOK Qsx2 Qzkm := ⟨CP_ok, (TabOK.cons Q0e7 (TabOK.cons Ql5k (TabOK.cons Qtpw (TabOK.cons Qql7 Qye1)))), by kernel_rfl, by kernel_rfl⟩
theorem Q4p4 (bs : List Int) (p : Int) : aRun Qsx2 600 false (body0 Qsx2.fn) (Q4gm Qsx2.fn [.ptr 0 0] [.box [.sl .u8 bs, .int .i64 p]]) =
 ifb (rdK bs p) (ifb (bkK bs (dBase bs p).p (dBase bs p).ks (dBase bs p).ps) (ifb (posOk (dBook bs (dBase bs p).p (dBase bs p).ks (dBase bs p).ps).p) (ifb (pickV bs (dBook bs (dBase bs p).p (dBase bs p).ks (dBase bs p).ps).p (16 : Int) == (0 : Int)) (ifb (slK bs ((dBook bs (dBase bs p).p (dBase bs p).ks (dBase bs p).ps).p + (1 : Int)) (dBase bs p).ks (dBase bs p).ps (dBook bs (dBase bs p).p (dBase bs p).ks (dBase bs p).ps).es) (some (.ret (.agg [.sl .kind ((Qkav bs ((dBook bs (dBase bs p).p (dBase bs p).ks (dBase bs p).ps).p + (1 : Int)) (dBase bs p).ks (dBase bs p).ps (dBook bs (dBase bs p).p (dBase bs p).ks (dBase bs p).ps).es).ks), .sl .point ((Qkav bs ((dBook bs (dBase bs p).p (dBase bs p).ks (dBase bs p).ps).p + (1 : Int)) (dBase bs p).ks (dBase bs p).ps (dBook bs (dBase bs p).p (dBase bs p).ks (dBase bs p).ps).es).ps), .sl .entry ((Qkav bs ((dBook bs (dBase bs p).p (dBase bs p).ks (dBase bs p).ps).p + (1 : Int)) (dBase bs p).ks (dBase bs p).ps (dBook bs (dBase bs p).p (dBase bs p).ks (dBase bs p).ps).es).es)]) [.box [.sl .u8 bs, .int .i64 ((Qkav bs ((dBook bs (dBase bs p).p (dBase bs p).ks (dBase bs p).ps).p + (1 : Int)) (dBase bs p).ks (dBase bs p).ps (dBook bs (dBase bs p).p (dBase bs p).ks (dBase bs p).ps).es).p)]])) (none)) (some (.ret (.agg [.sl .kind ((dBase bs p).ks), .sl .point ((dBase bs p).ps), .sl .entry ((dBook bs (dBase bs p).p (dBase bs p).ks (dBase bs p).ps).es)]) [.box [.sl .u8 bs, .int .i64 ((dBook bs (dBase bs p).p (dBase bs p).ks (dBase bs p).ps).p + (1 : Int))]]))) (none)) (none)) (none) := by kernel_rfl
theorem Qt2n {bs : List Int} {p q : Int} {ks : List Kind} {ps : List Point} {es : List Entry} (h1 : goodS ks ps es = true) (h3 : p ≤ q) (h4 : q ≤ p + 2000) : ∃ x : BookP, (AV.agg [.sl .kind ks, .sl .point ps, .sl .entry es] : AV Ty El) = (.agg [.sl .kind x.ks, .sl .point x.ps, .sl .entry x.es]) ∧ ([.box [.sl .u8 bs, .int .i64 q]] : List (AObj Ty El)) = [.box [.sl .u8 bs, .int .i64 x.p]] ∧ Qjf2 p x := ⟨⟨ks, ps, es, q⟩, rfl, rfl, h1, h3, h4⟩
theorem Qmag (bs : List Int) (p : Int) (hg : anyK bs p = true) : Qewq Tryz.prog CP Qzkm [.ptr 0 0] [.box [.sl .u8 bs, .int .i64 p]] (.agg [.sl .kind (dAny bs p).ks, .sl .point (dAny bs p).ps, .sl .entry (dAny bs p).es]) [.box [.sl .u8 bs, .int .i64 (dAny bs p).p]] ∧ Qjf2 p (dAny bs p) := by
 simp only [anyK, Bool.and_eq_true, decide_eq_true_eq] at hg
 obtain ⟨hbs, h0, h9⟩ := hg
 have hr : rdK bs p = true := by simp only [rdK, Bool.and_eq_true, decide_eq_true_eq]; exact ⟨hbs, h0, by omega⟩
 obtain ⟨b1, b2, b3, b4, b5⟩ := (Q46n bs p hr).2
 have hE : CallE Qsx2.P Qsx2.C Qzkm [.ptr 0 0] [.box [.sl .u8 bs, .int .i64 p]] (fun v h => ∃ x : BookP, v = (.agg [.sl .kind x.ks, .sl .point x.ps, .sl .entry x.es]) ∧ h = [.box [.sl .u8 bs, .int .i64 x.p]] ∧ Qjf2 p x) := by
  refine CallE.of Q1ej (by kernel_rfl) (Q4p4 bs p) ?_
  generalize dBase bs p = z at *
  have hk : bkK bs z.p z.ks z.ps = true := by simp only [bkK, Bool.and_eq_true, decide_eq_true_eq]; exact ⟨hbs, by omega, by omega, b1, b3⟩
  obtain ⟨c1, c2, c3⟩ := (Q4mo bs z.p z.ks z.ps hk).2
  generalize dBook bs z.p z.ks z.ps = y at *
  have hs : slK bs (y.p + 1) z.ks z.ps y.es = true := by simp only [slK, Bool.and_eq_true, decide_eq_true_eq]; exact ⟨hbs, by omega, by omega, b2, b3, c1⟩
  obtain ⟨d1, d2, d3⟩ := (Qzxv bs (y.p + 1) z.ks z.ps y.es hs).2
  have hgb := c1
  simp only [goodE, Bool.and_eq_true] at hgb
  exact SatE.need hr (SatE.need hk (SatE.need (Q8s4 (by omega) (by omega)) (SatE.ifb (fun _ => SatE.need hs (SatE.ret (Qt2n d1 (by omega) (by omega)))) (fun _ => SatE.ret (Qt2n (Qj7a c1) (by omega) (by omega))))))
 obtain ⟨v, H', h, x, rfl, rfl, hx⟩ := hE
 exact Qk78 (p := fun x : BookP => Qewq Tryz.prog CP Qzkm [.ptr 0 0] [.box [.sl .u8 bs, .int .i64 p]] (.agg [.sl .kind x.ks, .sl .point x.ps, .sl .entry x.es]) [.box [.sl .u8 bs, .int .i64 x.p]] ∧ Qjf2 p x) ⟨x, h, hx⟩
theorem Qqeh (bs : List Int) (p : Int) (hg : anyK bs p = true) : Qewq Tryz.prog CP Qzkm [.ptr 0 0] [.box [.sl .u8 bs, .int .i64 p]] (.agg [.sl .kind (dAny bs p).ks, .sl .point (dAny bs p).ps, .sl .entry (dAny bs p).es]) [.box [.sl .u8 bs, .int .i64 (dAny bs p).p]] := by
 exact (Qmag bs p hg).1
theorem Qs7a : EntOK Tryz.prog CP Qzkm Qrra := by
 refine ⟨⟨Tryz.f81, by kernel_rfl, by kernel_rfl, by kernel_rfl⟩, fun args H res H' h => ?_⟩
 simp only [Qrra] at h
 split at h
 ·simp only [Option.some.injEq, Prod.mk.injEq] at h
  obtain ⟨hg, rfl, rfl⟩ := h
  exact Qqeh _ _ hg
 ·cases h
end Lx
/- Meanings: what the laws draw. -/
namespace Lx
open Go Go.Proofs
structure OvP where
 ks : List Kind
 ps : List Point
 es : List Entry
 n : Str
 q : Str
 deriving Inhabited
structure FlP where
 ks : List Kind
 ps : List Point
 es : List Entry
 n : Str
 l : List Int
 deriving Inhabited
structure CeP where
 ks : List Kind
 ps : List Point
 l : List Str
 deriving Inhabited
theorem Qz2g {c : List Int} (h : Qf9o c = true) (n : Nat) : Qf9o (c.take n) = true := List.all_eq_true.2 fun b hb => List.all_eq_true.1 h b (List.mem_of_mem_take hb)
end Lx
/- What the laws draw. -/
namespace Lx
open Go Go.Proofs
end Lx
/- What the laws draw: cells. -/
namespace Lx
open Go Go.Proofs
end Lx
/- A contract that tells a row that stayed as a new one. -/
namespace Lx
open Go
section
variable {Ty : Type} {El : Ty → Type} {C : Cod Ty El} {P : Program}
def swC (k L : Nat) : AV Ty El → AV Ty El
 | .own r p v => .own (if r = k then L else r) p v
 | c => c
def swOk : AV Ty El → Bool
 | .own .. | .int .. | .bool .. | .str .. | .nils => true
 | _ => false
def swO (k L : Nat) : AObj Ty El → AObj Ty El
 | .box cs => .box (cs.map (swC k L))
 | o => o
def swBox : AObj Ty El → Bool
 | .box cs => cs.all swOk
 | .mp .. => false
 | _ => true
theorem Qwzt {H : List (AObj Ty El)} {r : Nat} (h : H.length ≤ r) : hpOf H r = .gone := by
 unfold hpOf; rw [List.getD_eq_getElem?_getD, List.getElem?_eq_none h]; rfl
theorem Qewq.moveAt (hC : CodOK P C) {g : FuncId} {args : List (AV Ty El)} {H : List (AObj Ty El)} {res : AV Ty El} {H' : List (AObj Ty El)} {T : Ty} {xs : List (El T)} {d : Nat} (h : Qewq P C g args H res H') (k : Nat) (hk : k < H'.length) (hlen : H.length ≤ H'.length)
  (hrow : hpOf H' k = .row T xs d 0 0 .no) (hres : noNm k 6 res = true) (hbox : H'.all swBox = true) : Qewq P C g args H res ((H'.map (swO k H'.length)).set k .out ++ [.row T xs d 0 0 .no]) := by
 intro w N vs hN hsz hrep
 refine (h w N vs hN hsz hrep).mono ?_
 rintro en w' ⟨v, N', rfl, hH, hv, hio, hroI, hroO, hfr, hF⟩
 have hL : hpOf H' H'.length = .gone := Qwzt (Nat.le_refl _)
 have noF : ∀ b, ¬ N'.F H'.length b := fun b hb => by
  have := hH.obj H'.length
  rw [hL] at this
  exact this b hb
 have noG : ∀ p v u, ¬ N'.G H'.length p v u := fun p v u hg => by
  have := hH.reg H'.length p v u hg
  rw [hL] at this
  exact this

 have ob : ∀ r, hpOf ((H'.map (swO k H'.length)).set k .out ++ [.row T xs d 0 0 .no]) r = if r = k then .out else if r = H'.length then .row T xs d 0 0 .no else swO k H'.length (hpOf H' r) := fun r => by
  unfold hpOf
  rw [List.getD_eq_getElem?_getD, List.getD_eq_getElem?_getD]
  by_cases h1 : r = k
  ·subst h1
   rw [List.getElem?_append_left (by simpa using hk), List.getElem?_set, if_pos rfl, if_pos (by simpa using hk), if_pos rfl]; rfl
  ·rw [if_neg h1]
   by_cases h2 : r = H'.length
   ·subst h2
    rw [if_pos rfl, List.getElem?_append_right (by simp)]
    simp
   ·rw [if_neg h2]
    by_cases h3 : r < H'.length
    ·rw [List.getElem?_append_left (by simpa using h3), List.getElem?_set, if_neg (fun e => h1 e.symm), List.getElem?_map, List.getElem?_eq_getElem h3]
     rfl
    ·have : H'.length < r := by omega
     rw [List.getElem?_append_right (by simp; omega), List.getElem?_eq_none (by simp; omega), List.getElem?_eq_none (by omega)]
     rfl
 let N2 : Nm := { ν := fun r => if r = H'.length then N'.ν k else N'.ν r, F := fun r b => (r ≠ k ∧ r ≠ H'.length ∧ N'.F r b) ∨ (r = H'.length ∧ N'.F k b), G := fun r p v u => (r ≠ k ∧ r ≠ H'.length ∧ N'.G r p v u) ∨ (r = H'.length ∧ N'.G k p v u), ro := N'.ro }
 have nek : k ≠ H'.length := by omega
 have rC : ∀ (v : Value) (c : AV Ty El), swOk c = true → RepA C N' w' v c → RepA C N2 w' v (swC k H'.length c) := fun v c hc hr => by
  cases hr with
  | own r p ver _ hx =>
   simp only [swC]
   by_cases e : r = k
   ·subst e; rw [if_pos rfl]; exact .own _ _ _ _ (.inr ⟨rfl, hx⟩)
   ·rw [if_neg e]
    exact .own _ _ _ _ (.inl ⟨e, fun e2 => noG p ver v (by rw [← e2]; exact hx), hx⟩)
  | int k n => exact .int k n
  | bool b => exact .bool b
  | str s l h => exact .str s l h
  | nils => exact .nils
  | _ => simp [swOk] at hc
 refine ⟨v, N2, rfl, ⟨fun r => ?_, fun r p v u hg => ?_, fun r => ?_, fun r p v u hg => ?_, fun r r' b h1 h2 => ?_, fun r b h1 h2 => ?_, hH.roLt⟩, ?_, fun r hr hst => ?_, hroI, hroO, hfr, fun r b hb => ?_⟩
 ·rw [ob]
  by_cases h1 : r = k
  ·rw [if_pos h1]
   rintro b (hb | hb)
   ·exact hb.1 h1
   ·exact nek (h1.symm.trans hb.1)
  ·rw [if_neg h1]
   by_cases h2 : r = H'.length
   ·rw [if_pos h2]
    have ho := hH.obj k
    rw [hrow] at ho
    have eν : N2.ν r = N'.ν k := if_pos h2
    refine ⟨by rw [eν]; exact ho.1, ?_⟩
    rw [eν]
    exact (Deep.cast (N := N') (N' := N2) hC (fun _ h => h) (fun _ _ => rfl) _ _ _ _ _ _ ho.2 (fun _ _ => rfl)).blkEq (fun b => ⟨fun hb => hb.elim (fun hb => absurd h2 hb.2.1) (fun hb => hb.2), fun hb => .inr ⟨h2, hb⟩⟩)
   ·rw [if_neg h2]
    have ho := hH.obj r
    have eν : N2.ν r = N'.ν r := if_neg h2
    have eF : ∀ b, N2.F r b ↔ N'.F r b := fun b => ⟨fun hb => hb.elim (fun hb => hb.2.2) (fun hb => absurd hb.1 h2), fun hb => .inl ⟨h1, h2, hb⟩⟩
    cases e : hpOf H' r with
    | box cs =>
     rw [e] at ho
     have hm := Q13r e (by simp)
     have hn : cs.all swOk = true := List.all_eq_true.1 hbox _ hm
     obtain ⟨b, arr, t, q1, q2, q3, q4, q5, q6⟩ := ho
     refine ⟨b, arr, t, eν.trans q1, q2, by rw [q3]; simp, q4, fun j v c hj hc => ?_, fun b' => (eF b').trans (q6 b')⟩
     rw [List.getElem?_map] at hc
     cases e2 : cs[j]? with
     | none => rw [e2] at hc; cases hc
     | some c0 =>
      rw [e2] at hc
      simp only [Option.map_some, Option.some.injEq] at hc
      subst hc
      exact rC v c0 (List.all_eq_true.1 hn c0 (List.mem_of_getElem? e2)) (q5 j v c0 hj e2)
    | row T' xs' d' vr vn m =>
     rw [e] at ho
     refine ⟨by rw [eν]; exact ho.1, ?_⟩
     rw [eν]
     exact (Deep.cast (N := N') (N' := N2) hC (fun _ h => h) (fun _ _ => rfl) _ _ _ _ _ _ ho.2 (fun _ _ => rfl)).blkEq eF
    | mp K V es =>
     have hm := Q13r e (by simp)
     have hn := List.all_eq_true.1 hbox _ hm
     simp [swBox] at hn
    | gone => rw [e] at ho; exact fun b hb => ho b ((eF b).1 hb)
    | out => rw [e] at ho; exact fun b hb => ho b ((eF b).1 hb)
 ·rw [ob]
  rcases hg with ⟨h1, h2, hg⟩ | ⟨rfl, hg⟩
  ·have eν : N2.ν r = N'.ν r := if_neg h2
   rw [if_neg h1, if_neg h2, eν]
   have := hH.reg r p v u hg
   cases e : hpOf H' r <;> rw [e] at this <;> exact this
  ·have eν : N2.ν H'.length = N'.ν k := if_pos rfl
   rw [if_neg nek.symm, if_pos rfl, eν]
   have := hH.reg k p v u hg
   rw [hrow] at this
   exact this
 ·rw [ob]
  by_cases h1 : r = k
  ·rw [if_pos h1]; trivial
  ·rw [if_neg h1]
   by_cases h2 : r = H'.length
   ·rw [if_pos h2]
    have hf := hH.full k
    rw [hrow] at hf
    have eν : N2.ν r = N'.ν k := if_pos h2
    refine ⟨.inr ⟨h2, by rw [eν]; exact hf.1⟩, fun p u q1 q2 q3 q4 => .inr ⟨h2, hf.2 p u q1 q2 q3 (by rw [← eν]; exact q4)⟩⟩
   ·rw [if_neg h2]
    have eν : N2.ν r = N'.ν r := if_neg h2
    have hf := hH.full r
    cases e : hpOf H' r with
    | box cs => rw [e] at hf; exact .inl ⟨h1, h2, by rw [eν]; exact hf⟩
    | mp K V es => rw [e] at hf; exact .inl ⟨h1, h2, by rw [eν]; exact hf⟩
    | row T' xs' d' vr vn m => rw [e] at hf; exact ⟨.inl ⟨h1, h2, by rw [eν]; exact hf.1⟩, fun p u q1 q2 q3 q4 => .inl ⟨h1, h2, hf.2 p u q1 q2 q3 (by rw [← eν]; exact q4)⟩⟩
    | gone => trivial
    | out => trivial
 ·rcases hg with ⟨_, _, hg⟩ | ⟨_, hg⟩
  ·exact hH.one _ _ _ _ hg
  ·exact hH.one _ _ _ _ hg
 ·rcases h1 with ⟨a1, a2, a3⟩ | ⟨a1, a3⟩ <;> rcases h2 with ⟨b1, b2, b3⟩ | ⟨b1, b3⟩
  ·exact hH.dist r r' b a3 b3
  ·exact absurd (hH.dist r k b a3 b3) a1
  ·exact absurd (hH.dist r' k b b3 a3) b1
  ·exact a1.trans b1.symm
 ·rcases h1 with ⟨_, _, a3⟩ | ⟨_, a3⟩
  ·exact hH.roNot _ _ a3 h2
  ·exact hH.roNot _ _ a3 h2
 ·exact hv.noNm hC (N' := N2) (fun r p v u hr hg => .inl ⟨hr, fun e => noG p v u (by rw [← e]; exact hg), hg⟩) (fun _ h => h) 6 hres
 ·have hrk : r ≠ k := fun e => by
   have : hpOf ((H'.map (swO k H'.length)).set k .out ++ [.row T xs d 0 0 .no]) r = .out := by rw [ob, if_pos e]
   simp [stays, this] at hst
  have hrL : r ≠ H'.length := by omega
  have eν : N2.ν r = N'.ν r := if_neg hrL
  rw [eν]
  refine hio r hr ?_
  have e1 : hpOf ((H'.map (swO k H'.length)).set k .out ++ [.row T xs d 0 0 .no]) r = swO k H'.length (hpOf H' r) := by rw [ob, if_neg hrk, if_neg hrL]
  simp only [stays, e1] at hst ⊢
  cases e : hpOf H' r <;> rw [e] at hst <;> exact hst
 ·rcases hb with ⟨_, _, hb⟩ | ⟨_, hb⟩
  ·exact hF _ _ hb
  ·exact hF _ _ hb
theorem Qewq.args {g : FuncId} {args args' : List (AV Ty El)} {H : List (AObj Ty El)} {res : AV Ty El} {H' : List (AObj Ty El)} (h : Qewq P C g args H res H') (hl : args'.length = args.length)
  (hw : ∀ (j : Nat) x x', args[j]? = some x → args'[j]? = some x' → ∀ (N : Nm) (w : World) (v : Value), RepA C N w v x' → RepA C N w v x) : Qewq P C g args' H res H' := by
 intro w N vs hN hsz hrep
 refine h w N vs hN (hsz.trans hl) (fun j v x hv hx => ?_)
 have hj : j < args'.length := by rw [hl]; exact (List.getElem?_eq_some_iff.1 hx).1
 exact hw j x _ hx (List.getElem?_eq_getElem hj) N w v (hrep j v _ hv (List.getElem?_eq_getElem hj))
theorem RepA.nilSl {N : Nm} {w : World} {v : Value} (T : Ty) (h : RepA C N w v .nils) : RepA C N w v (.sl T []) := by cases h; exact .sl0 T none 0
theorem RepA.aggMono {N : Nm} {w : World} {v : Value} {cs ds : List (AV Ty El)} (hl : ds.length = cs.length) (hm : ∀ (j : Nat) c d, cs[j]? = some c → ds[j]? = some d → ∀ u, RepA C N w u c → RepA C N w u d) (h : RepA C N w v (.agg cs)) : RepA C N w v (.agg ds) := by
 cases h with
 | agg vs cs hl' h =>
  refine .agg vs ds (hl'.trans hl.symm) (fun j u d hu hd => ?_)
  have hj : j < cs.length := by rw [← hl]; exact (List.getElem?_eq_some_iff.1 hd).1
  exact hm j _ d (List.getElem?_eq_getElem hj) hd u (h j u _ hu (List.getElem?_eq_getElem hj))
end
end Lx
/- The library's sorts and strings.Compare, laid at the program by the kit's tool, in plain words. -/
namespace Go.Proofs
open Go.Shelf
def Tryz.laysE_ren : Go.Shelf.Ren := ⟨fun | 6 => 177 | 15 => 232 | 14 => 231 | 28 => 268 | 29 => 269 | 20 => 260 | 21 => 261 | 22 => 262 | 23 => 263 | 24 => 264 | 25 => 265 | 26 => 266 | 27 => 267 | 46 => 317 | 47 => 318 | 48 => 319 | 49 => 320 | 50 => 321 | 57 => 342 | n => n, fun | 22 => 27 | 24 => 92 | 25 => 225 | 3 => 3 | 39 => 261 | 0 => 0 | 53 => 296 | 55 => 298 | 4 => 4 | 46 => 290 | 45 => 289 | 50 => 150 | 5 => 5 | 9 => 9 | 66 => 332 | 70 => 336 | 76 => 356 | 77 => 357 | n => n, fun | n => n⟩
theorem Tryz.laysE : Go.Proofs.SlLaysF0.n6 Tryz.prog Tryz.laysE_ren := {
 mixed := by kernel_rfl
 f6 := ⟨Tryz.f177.name, by decide, Tryz.func177.trans (congrArg some (by kernel_rfl))⟩
 f14 := ⟨Tryz.f231.name, by decide, Tryz.func231.trans (congrArg some (by kernel_rfl))⟩
 f15 := Tryz.func232.trans (congrArg some (by kernel_rfl))
 f20 := ⟨Tryz.f260.name, by decide, Tryz.func260.trans (congrArg some (by kernel_rfl))⟩
 f21 := ⟨Tryz.f261.name, by decide, Tryz.func261.trans (congrArg some (by kernel_rfl))⟩
 f22 := ⟨Tryz.f262.name, by decide, Tryz.func262.trans (congrArg some (by kernel_rfl))⟩
 f23 := ⟨Tryz.f263.name, by decide, Tryz.func263.trans (congrArg some (by kernel_rfl))⟩
 f24 := ⟨Tryz.f264.name, by decide, Tryz.func264.trans (congrArg some (by kernel_rfl))⟩
 f25 := ⟨Tryz.f265.name, by decide, Tryz.func265.trans (congrArg some (by kernel_rfl))⟩
 f26 := ⟨Tryz.f266.name, by decide, Tryz.func266.trans (congrArg some (by kernel_rfl))⟩
 f27 := ⟨Tryz.f267.name, by decide, Tryz.func267.trans (congrArg some (by kernel_rfl))⟩
 f28 := Tryz.func268.trans (congrArg some (by kernel_rfl))
 f29 := Tryz.func269.trans (congrArg some (by kernel_rfl))
 f46 := ⟨Tryz.f317.name, by decide, Tryz.func317.trans (congrArg some (by kernel_rfl))⟩
 f47 := Tryz.func318.trans (congrArg some (by kernel_rfl))
 f48 := Tryz.func319.trans (congrArg some (by kernel_rfl))
 f49 := ⟨Tryz.f320.name, by decide, Tryz.func320.trans (congrArg some (by kernel_rfl))⟩
 f50 := ⟨Tryz.f321.name, by decide, Tryz.func321.trans (congrArg some (by kernel_rfl))⟩
 f57 := ⟨Tryz.f342.name, by decide, Tryz.func342.trans (congrArg some (by kernel_rfl))⟩
 t0 := Tryz.underlying0
 a0 := Tryz.isAgg0
 z0 := Tryz.sizeOf0
 v0 := Tryz.zeroValue0
 t3 := Tryz.underlying3
 a3 := Tryz.isAgg3
 z3 := Tryz.sizeOf3
 v3 := Tryz.zeroValue3
 t4 := Tryz.underlying4
 a4 := Tryz.isAgg4
 z4 := Tryz.sizeOf4
 v4 := Tryz.zeroValue4
 t5 := Tryz.underlying5
 a5 := Tryz.isAgg5
 z5 := Tryz.sizeOf5
 v5 := Tryz.zeroValue5
 t9 := Tryz.underlying9
 a9 := Tryz.isAgg9
 z9 := Tryz.sizeOf9
 v9 := Tryz.zeroValue9
 t22 := Tryz.underlying27
 a22 := Tryz.isAgg27
 z22 := Tryz.sizeOf27
 v22 := Tryz.zeroValue27
 t25 := Tryz.underlying225
 a25 := Tryz.isAgg225
 z25 := Tryz.sizeOf225
 v25 := Tryz.zeroValue225
 t39 := Tryz.underlying261
 a39 := Tryz.isAgg261
 z39 := Tryz.sizeOf261
 v39 := Tryz.zeroValue261
 t45 := Tryz.underlying289
 a45 := Tryz.isAgg289
 z45 := Tryz.sizeOf289
 v45 := Tryz.zeroValue289
 t46 := Tryz.underlying290
 a46 := Tryz.isAgg290
 z46 := Tryz.sizeOf290
 v46 := Tryz.zeroValue290
 t50 := Tryz.underlying150
 a50 := Tryz.isAgg150
 z50 := Tryz.sizeOf150
 v50 := Tryz.zeroValue150
 t53 := Tryz.underlying296
 a53 := Tryz.isAgg296
 z53 := Tryz.sizeOf296
 v53 := Tryz.zeroValue296
 t55 := Tryz.underlying298
 a55 := Tryz.isAgg298
 z55 := Tryz.sizeOf298
 v55 := Tryz.zeroValue298
 t66 := Tryz.underlying332
 a66 := Tryz.isAgg332
 z66 := Tryz.sizeOf332
 v66 := Tryz.zeroValue332
 t70 := Tryz.underlying336
 a70 := Tryz.isAgg336
 z70 := Tryz.sizeOf336
 v70 := Tryz.zeroValue336
 t76 := Tryz.underlying356
 a76 := Tryz.isAgg356
 z76 := Tryz.sizeOf356
 v76 := Tryz.zeroValue356
 t77 := Tryz.underlying357
 a77 := Tryz.isAgg357
 z77 := Tryz.sizeOf357
 v77 := Tryz.zeroValue357 }
def Tryz.laysF_ren : Go.Shelf.Ren := ⟨fun | 6 => 180 | 15 => 232 | 14 => 234 | 28 => 268 | 29 => 269 | 20 => 271 | 21 => 272 | 22 => 273 | 23 => 274 | 24 => 275 | 25 => 276 | 26 => 277 | 27 => 278 | 46 => 322 | 47 => 318 | 48 => 319 | 49 => 323 | 50 => 324 | 57 => 343 | n => n, fun | 22 => 90 | 24 => 94 | 25 => 228 | 3 => 3 | 39 => 261 | 0 => 0 | 53 => 296 | 55 => 298 | 4 => 4 | 46 => 290 | 45 => 289 | 50 => 150 | 5 => 5 | 9 => 9 | 66 => 332 | 70 => 336 | 76 => 356 | 77 => 357 | n => n, fun | n => n⟩
theorem Tryz.laysF : Go.Proofs.SlLaysF0.n6 Tryz.prog Tryz.laysF_ren := {
 mixed := by kernel_rfl
 f6 := ⟨Tryz.f180.name, by decide, Tryz.func180.trans (congrArg some (by kernel_rfl))⟩
 f14 := ⟨Tryz.f234.name, by decide, Tryz.func234.trans (congrArg some (by kernel_rfl))⟩
 f15 := Tryz.func232.trans (congrArg some (by kernel_rfl))
 f20 := ⟨Tryz.f271.name, by decide, Tryz.func271.trans (congrArg some (by kernel_rfl))⟩
 f21 := ⟨Tryz.f272.name, by decide, Tryz.func272.trans (congrArg some (by kernel_rfl))⟩
 f22 := ⟨Tryz.f273.name, by decide, Tryz.func273.trans (congrArg some (by kernel_rfl))⟩
 f23 := ⟨Tryz.f274.name, by decide, Tryz.func274.trans (congrArg some (by kernel_rfl))⟩
 f24 := ⟨Tryz.f275.name, by decide, Tryz.func275.trans (congrArg some (by kernel_rfl))⟩
 f25 := ⟨Tryz.f276.name, by decide, Tryz.func276.trans (congrArg some (by kernel_rfl))⟩
 f26 := ⟨Tryz.f277.name, by decide, Tryz.func277.trans (congrArg some (by kernel_rfl))⟩
 f27 := ⟨Tryz.f278.name, by decide, Tryz.func278.trans (congrArg some (by kernel_rfl))⟩
 f28 := Tryz.func268.trans (congrArg some (by kernel_rfl))
 f29 := Tryz.func269.trans (congrArg some (by kernel_rfl))
 f46 := ⟨Tryz.f322.name, by decide, Tryz.func322.trans (congrArg some (by kernel_rfl))⟩
 f47 := Tryz.func318.trans (congrArg some (by kernel_rfl))
 f48 := Tryz.func319.trans (congrArg some (by kernel_rfl))
 f49 := ⟨Tryz.f323.name, by decide, Tryz.func323.trans (congrArg some (by kernel_rfl))⟩
 f50 := ⟨Tryz.f324.name, by decide, Tryz.func324.trans (congrArg some (by kernel_rfl))⟩
 f57 := ⟨Tryz.f343.name, by decide, Tryz.func343.trans (congrArg some (by kernel_rfl))⟩
 t0 := Tryz.underlying0
 a0 := Tryz.isAgg0
 z0 := Tryz.sizeOf0
 v0 := Tryz.zeroValue0
 t3 := Tryz.underlying3
 a3 := Tryz.isAgg3
 z3 := Tryz.sizeOf3
 v3 := Tryz.zeroValue3
 t4 := Tryz.underlying4
 a4 := Tryz.isAgg4
 z4 := Tryz.sizeOf4
 v4 := Tryz.zeroValue4
 t5 := Tryz.underlying5
 a5 := Tryz.isAgg5
 z5 := Tryz.sizeOf5
 v5 := Tryz.zeroValue5
 t9 := Tryz.underlying9
 a9 := Tryz.isAgg9
 z9 := Tryz.sizeOf9
 v9 := Tryz.zeroValue9
 t22 := Tryz.underlying90
 a22 := Tryz.isAgg90
 z22 := Tryz.sizeOf90
 v22 := Tryz.zeroValue90
 t25 := Tryz.underlying228
 a25 := Tryz.isAgg228
 z25 := Tryz.sizeOf228
 v25 := Tryz.zeroValue228
 t39 := Tryz.underlying261
 a39 := Tryz.isAgg261
 z39 := Tryz.sizeOf261
 v39 := Tryz.zeroValue261
 t45 := Tryz.underlying289
 a45 := Tryz.isAgg289
 z45 := Tryz.sizeOf289
 v45 := Tryz.zeroValue289
 t46 := Tryz.underlying290
 a46 := Tryz.isAgg290
 z46 := Tryz.sizeOf290
 v46 := Tryz.zeroValue290
 t50 := Tryz.underlying150
 a50 := Tryz.isAgg150
 z50 := Tryz.sizeOf150
 v50 := Tryz.zeroValue150
 t53 := Tryz.underlying296
 a53 := Tryz.isAgg296
 z53 := Tryz.sizeOf296
 v53 := Tryz.zeroValue296
 t55 := Tryz.underlying298
 a55 := Tryz.isAgg298
 z55 := Tryz.sizeOf298
 v55 := Tryz.zeroValue298
 t66 := Tryz.underlying332
 a66 := Tryz.isAgg332
 z66 := Tryz.sizeOf332
 v66 := Tryz.zeroValue332
 t70 := Tryz.underlying336
 a70 := Tryz.isAgg336
 z70 := Tryz.sizeOf336
 v70 := Tryz.zeroValue336
 t76 := Tryz.underlying356
 a76 := Tryz.isAgg356
 z76 := Tryz.sizeOf356
 v76 := Tryz.zeroValue356
 t77 := Tryz.underlying357
 a77 := Tryz.isAgg357
 z77 := Tryz.sizeOf357
 v77 := Tryz.zeroValue357 }
def Tryz.lays106_ren : Go.Shelf.Ren := ⟨fun | 106 => 179 | 213 => 233 | 265 => 270 | n => n, fun | 9 => 9 | 3 => 3 | n => n, fun | n => n⟩
theorem Tryz.lays106 : Go.Proofs.Lays.n106 Tryz.prog Tryz.lays106_ren := {
 mixed := by kernel_rfl
 f106 := Tryz.func179.trans (congrArg some (by kernel_rfl))
 f213 := Tryz.func233.trans (congrArg some (by kernel_rfl))
 f265 := Tryz.func270.trans (congrArg some (by kernel_rfl))
 t3 := Tryz.underlying3
 a3 := Tryz.isAgg3
 z3 := Tryz.sizeOf3
 v3 := Tryz.zeroValue3
 t9 := Tryz.underlying9
 a9 := Tryz.isAgg9
 z9 := Tryz.sizeOf9
 v9 := Tryz.zeroValue9 }
end Go.Proofs
/- Plain facts: what is appended and sorted stands where the reference puts it. -/
namespace Lx
open Go Go.Proofs
theorem Q9yw : ∀ a b : Str, Lib.compareBytes a b < 0 ↔ Q7zj a b = true
 | [], [] => by simp [Lib.compareBytes, Q7zj]
 | [], b :: y => by simp [Lib.compareBytes, Q7zj]
 | a :: x, [] => by simp [Lib.compareBytes, Q7zj]
 | a :: x, b :: y => by
  have ih := Q9yw x y
  simp only [Lib.compareBytes, Q7zj, Bool.or_eq_true, Bool.and_eq_true, decide_eq_true_eq, beq_iff_eq]
  by_cases h1 : a < b
  ·simp [h1]
  ·rw [if_neg h1]
   by_cases h2 : b < a
   ·rw [if_pos h2]
    have : a ≠ b := fun e => by subst e; exact h1 h2
    simp [h1, this]
   ·rw [if_neg h2, ih]
    have : a = b := by
     rw [UInt8.lt_iff_toNat_lt] at h1 h2
     exact UInt8.toNat_inj.1 (by omega)
    simp [h1, this]
theorem Qqw5 : ∀ a : Str, Q7zj a a = false
 | [] => rfl
 | a :: x => by simp [Q7zj, Qqw5 x]
theorem Qi83 {a b : Str} (h : Q7zj a b = true) : Q7zj b a = false := by
 have := le_lt a b
 rw [h, Bool.true_or] at this
 simpa using this.symm
theorem lt_trans : ∀ {a b c : Str}, Q7zj a b = true → Q7zj b c = true → Q7zj a c = true
 | a, [], c, h1, h2 => by cases a <;> simp [Q7zj] at h1
 | a, b :: y, [], h1, h2 => by simp [Q7zj] at h2
 | [], b :: y, c :: z, h1, h2 => rfl
 | a :: x, b :: y, c :: z, h1, h2 => by
  simp only [Q7zj, Bool.or_eq_true, Bool.and_eq_true, decide_eq_true_eq, beq_iff_eq] at h1 h2 ⊢
  rcases h1 with h1 | ⟨rfl, h1⟩ <;> rcases h2 with h2 | ⟨rfl, h2⟩
  ·left; rw [UInt8.lt_iff_toNat_lt] at *; omega
  ·exact .inl h1
  ·exact .inl h2
  ·exact .inr ⟨rfl, lt_trans h1 h2⟩
theorem Qj9t (a b : Str) (h1 : Q7zj a b = false) (h2 : Q7zj b a = false) : a = b := by
 have := le_lt a b
 rw [h1, h2] at this
 simpa using this
theorem Qgb6 {α : Type} [Inhabited α] (key : α → Str) : Go.Sort.SWO (fun x y : α => Q7zj (key x) (key y)) :=
 ⟨fun x => Qqw5 _, fun x y z => lt_trans, fun x y z h1 h2 => by
  by_cases h3 : Q7zj (key y) (key x) = true
  ·by_cases h4 : Q7zj (key z) (key y) = true
   ·exact Qi83 (lt_trans h4 h3)
   ·have e := Qj9t (key y) (key z) h2 (by simpa using h4)
    rw [← e]; exact h1
  ·have e := Qj9t (key x) (key y) h1 (by simpa using h3)
   rw [e]; exact h2⟩
theorem Qy04 {α : Type} [Inhabited α] (key : α → Int) : Go.Sort.SWO (fun x y : α => decide (key x < key y)) :=
 ⟨fun x => by simp, fun x y z h1 h2 => by simp only [decide_eq_true_eq] at *; omega, fun x y z h1 h2 => by simp only [decide_eq_false_iff_not] at *; omega⟩
theorem Qrj0 {α β : Type} (key : α → β) : ∀ {l : List α}, l.Pairwise (fun a b => key a ≠ key b) → ∀ {a b : α}, a ∈ l → b ∈ l → key a = key b → a = b
 | [], _, a, b, ha, _, _ => by cases ha
 | x :: l, h, a, b, ha, hb, he => by
  rw [List.pairwise_cons] at h
  rcases List.mem_cons.1 ha with h1 | h1
  ·rcases List.mem_cons.1 hb with h2 | h2
   ·rw [h1, h2]
   ·exact absurd (by rw [← h1]; exact he) (h.1 b h2)
  ·rcases List.mem_cons.1 hb with h2 | h2
   ·exact absurd (by rw [← h2]; exact he.symm) (h.1 a h1)
   ·exact Qrj0 key h.2 h1 h2 he
theorem Qhss {α : Type} (key : α → Str) {zs ms : List α} (hm : ms.Pairwise fun a b => Q7zj (key a) (key b) = true) (hp : zs.Perm ms) (hz : zs.Pairwise fun a b => ¬ Lib.compareBytes (key b) (key a) < 0) : zs = ms := by
 have ne : ms.Pairwise fun a b => key a ≠ key b := hm.imp (fun {a b} h e => by rw [e, Qqw5] at h; cases h)
 refine hp.eq_of_pairwise (le := fun a b => ¬ Lib.compareBytes (key b) (key a) < 0) (fun a b ha hb h1 h2 => ?_) hz (hm.imp fun {a b} h h2 => ?_)
 ·rw [Q9yw] at h1 h2
  exact Qrj0 key ne (hp.mem_iff.1 ha) hb (Qj9t _ _ (by simpa using h2) (by simpa using h1))
 ·rw [Q9yw] at h2
  rw [Qi83 h] at h2; cases h2
theorem Qush {α : Type} (key : α → Int) {zs ms : List α} (hm : ms.Pairwise fun a b => key a < key b) (hp : zs.Perm ms) (hz : zs.Pairwise fun a b => ¬ key b < key a) : zs = ms := by
 have ne : ms.Pairwise fun a b => key a ≠ key b := hm.imp (fun {a b} h e => by omega)
 refine hp.eq_of_pairwise (le := fun a b => ¬ key b < key a) (fun a b ha hb h1 h2 => ?_) hz (hm.imp fun {a b} h h2 => ?_)
 ·exact Qrj0 key ne (hp.mem_iff.1 ha) hb (by omega)
 ·omega
theorem Q2xh (n : Str) (f : Fld) : ∀ es : List Entry, (insE es n f).Perm (es ++ [⟨n, [f]⟩])
 | [] => .refl _
 | e :: r => by
  unfold insE
  split
  ·exact (Q2xh n f r).cons e
  ·exact (List.perm_append_comm (l₁ := [⟨n, [f]⟩]) (l₂ := e :: r))
theorem Q4rf {ks : List Kind} {ps : List Point} : ∀ {es : List Entry} {m : Str}, Qgea ks ps (some m) es = true → ∀ e ∈ es, Q7zj m e.name = true
 | [], m, _, e, he => by cases he
 | a :: r, m, h, e, he => by
  simp only [Qgea, Bool.and_eq_true] at h
  rcases List.mem_cons.1 he with rfl | he
  ·exact h.2.1
  ·exact lt_trans h.2.1 (Q4rf h.2.2 e he)
theorem Q90k {ks : List Kind} {ps : List Point} : ∀ {es : List Entry} {q : Option Str}, Qgea ks ps q es = true → es.Pairwise fun a b => Q7zj a.name b.name = true
 | [], _, _ => .nil
 | a :: r, q, h => by
  simp only [Qgea, Bool.and_eq_true] at h
  exact List.pairwise_cons.2 ⟨Q4rf h.2.2, Q90k h.2.2⟩
theorem Qncy (n : Str) (f : Fld) : ∀ {es : List Entry}, (es.Pairwise fun a b => Q7zj a.name b.name = true) → (∀ e ∈ es, e.name ≠ n) → (insE es n f).Pairwise fun a b => Q7zj a.name b.name = true
 | [], _, _ => by simp [insE]
 | e :: r, h, hn => by
  rw [List.pairwise_cons] at h
  unfold insE
  split
  ·rename_i hlt
   refine List.pairwise_cons.2 ⟨fun x hx => ?_, Qncy n f h.2 (fun e' he' => hn e' (List.mem_cons_of_mem _ he'))⟩
   rcases Qwpl _ _ _ _ hx with rfl | hx
   ·exact hlt
   ·exact h.1 x hx
  ·rename_i hlt
   have h1 : Q7zj n e.name = true := by
    cases h2 : Q7zj n e.name with
    | true => rfl
    | false => exact absurd (Qj9t _ _ (by simpa using hlt) h2) (hn e (List.mem_cons_self ..))
   refine List.pairwise_cons.2 ⟨fun x hx => ?_, List.pairwise_cons.2 h⟩
   rcases List.mem_cons.1 hx with rfl | hx
   ·exact h1
   ·exact lt_trans h1 (h.1 x hx)
theorem Qbw4 {es : List Entry} {n : Str} {f : Fld} (hs : es.Pairwise fun a b => Q7zj a.name b.name = true) (hn : ∀ e ∈ es, e.name ≠ n) {zs : List Entry} (hp : zs.Perm (es ++ [⟨n, [f]⟩])) (hz : zs.Pairwise fun a b => ¬ Lib.compareBytes b.name a.name < 0) : zs = insE es n f :=
 Qhss Entry.name (Qncy n f hs hn) (hp.trans (Q2xh n f es).symm) hz
def Qvhg (l : List Fld) : Prop := l.Pairwise fun a b => a.what < b.what
theorem Qc5h {ks : List Kind} {ps : List Point} {n : Str} : ∀ {l : List Fld} {q : Int}, Qt03 ks ps n (some q) l = true → ∀ f ∈ l, q < f.what
 | [], q, _, f, hf => by cases hf
 | a :: r, q, h, f, hf => by
  simp only [Qg5r, Qtv6, Bool.and_eq_true, decide_eq_true_eq] at h
  rcases List.mem_cons.1 hf with rfl | hf
  ·exact h.2.1
  ·have := Qc5h h.2.2 f hf; omega
theorem Qh2w {ks : List Kind} {ps : List Point} {n : Str} : ∀ {l : List Fld} {q : Option Int}, Qt03 ks ps n q l = true → Qvhg l
 | [], _, _ => .nil
 | a :: r, q, h => by
  simp only [Qg5r, Bool.and_eq_true] at h
  exact List.pairwise_cons.2 ⟨Qc5h h.2.2, Qh2w h.2.2⟩
theorem Qk3m (f : Fld) : ∀ {l : List Fld}, (∀ g ∈ l, g.what ≠ f.what) → (Qul0 l f).Perm (l ++ [f])
 | [], _ => .refl _
 | g :: r, h => by
  unfold Qul0
  split
  ·exact (Qk3m f (fun g hg => h g (List.mem_cons_of_mem _ hg))).cons g
  ·rw [if_neg (h g (List.mem_cons_self ..))]
   exact (List.perm_append_comm (l₁ := [f]) (l₂ := g :: r))
theorem Q0fd (f : Fld) : ∀ {l : List Fld}, Qvhg l → Qvhg (Qul0 l f)
 | [], _ => by simp [Qul0, Qvhg]
 | g :: r, h => by
  have h0 := h
  unfold Qvhg at h
  rw [List.pairwise_cons] at h
  unfold Qul0
  split
  ·rename_i hlt
   refine List.pairwise_cons.2 ⟨fun x hx => ?_, Q0fd f h.2⟩
   rcases Q0pd _ _ _ hx with rfl | hx
   ·exact hlt
   ·exact h.1 x hx
  ·split
   ·rename_i he
    split
    ·exact List.pairwise_cons.2 ⟨fun x hx => by rw [← he]; exact h.1 x hx, h.2⟩
    ·exact h0
   ·refine List.pairwise_cons.2 ⟨fun x hx => ?_, h0⟩
    rcases List.mem_cons.1 hx with rfl | hx
    ·omega
    ·have := h.1 x hx; omega
theorem Qbxf {l : List Fld} {f : Fld} (hs : Qvhg l) (hn : ∀ g ∈ l, g.what ≠ f.what) {zs : List Fld} (hp : zs.Perm (l ++ [f])) (hz : zs.Pairwise fun a b => ¬ b.what < a.what) : zs = Qul0 l f :=
 Qush Fld.what (Q0fd f hs) (hp.trans (Qk3m f hn).symm) hz
theorem Qlnx {f : Fld} : ∀ {l : List Fld} {k : Nat} (hk : k < l.length), Qvhg l → l[k].what = f.what → Qul0 l f = if Fld.later f l[k] = true then l.set k f else l
 | g :: r, 0, hk, hs, he => by
  simp only [List.getElem_cons_zero] at he ⊢
  rw [Qul0, if_neg (by omega), if_pos he]
  split <;> rfl
 | g :: r, k + 1, hk, hs, he => by
  unfold Qvhg at hs
  rw [List.pairwise_cons] at hs
  simp only [List.getElem_cons_succ] at he ⊢
  have hk' : k < r.length := by simpa using hk
  have hlt : g.what < f.what := by rw [← he]; exact hs.1 _ (List.getElem_mem hk')
  rw [Qp68 hlt, Qlnx hk' hs.2 he]
  split <;> rfl
end Lx
/- Plain facts: a book is what it says of each flight's things; what is put is the latest. -/
namespace Lx
open Go Go.Proofs
def putS : List Entry → Str → Fld → List Entry
 | [], n, f => [⟨n, [f]⟩]
 | e :: r, n, f => if e.name = n then ⟨e.name, Qul0 e.fields f⟩ :: r else if Q7zj e.name n = true then e :: putS r n f else ⟨n, [f]⟩ :: e :: r
def Qurt (es : List Entry) : Prop := es.Pairwise fun a b => Q7zj a.name b.name = true
theorem Q6v6 (e : Entry) (r : List Entry) (n : Str) : entIx (e :: r) n = if e.name = n then 0 else if 0 ≤ entIx r n then entIx r n + 1 else -1 := by
 unfold entIx idxF
 rw [List.findIdx?_cons]
 by_cases h : e.name = n
 ·simp [h]
 ·have h2 : (e.name == n) = false := by simpa using h
  rw [h2, if_neg h]
  cases r.findIdx? (fun e => e.name == n) <;> simp
theorem Qsz7 : ∀ {es : List Entry} (n : Str) (f : Fld), Qurt es → putF es n f = putS es n f
 | [], n, f, _ => rfl
 | e :: r, n, f, hs => by
  unfold Qurt at hs
  rw [List.pairwise_cons] at hs
  have ih := Qsz7 (es := r) n f hs.2
  unfold putS
  by_cases h : e.name = n
  ·have : entIx (e :: r) n = 0 := by rw [Q6v6, if_pos h]
   rw [if_pos h, Q5v6 (by omega), this]; rfl
  ·rw [if_neg h]
   by_cases h0 : 0 ≤ entIx r n
   ·have hix : entIx (e :: r) n = entIx r n + 1 := by rw [Q6v6, if_neg h, if_pos h0]
    have hm := Qhwx h0
    have hlt : (entIx r n).toNat < r.length := by have h2 : entIx r n < (r.length : Int) := Q1mf; omega
    have hnm := Qn0g h0 (r.getD (entIx r n).toNat (dfltP .entry)) (by rw [List.getD_eq_getElem?_getD, List.getElem?_eq_getElem hlt]; rfl)
    have hl := hs.1 _ hm
    rw [hnm] at hl
    rw [if_pos hl, Q5v6 (by omega), hix, ← ih, Q5v6 h0, show (entIx r n + 1).toNat = (entIx r n).toNat + 1 by omega]
    rfl
   ·have hix : ¬ 0 ≤ entIx (e :: r) n := by rw [Q6v6, if_neg h, if_neg h0]; omega
    rw [Qk9v hix]
    unfold insE
    rw [← ih, Qk9v h0]
def lk (es : List Entry) (n : Str) (w : Int) : Option Fld := (es.find? fun e => e.name == n).bind fun e => e.fields.find? fun f => f.what == w
def mx (o : Option Fld) (f : Fld) : Fld := match o with
 | none => f
 | some g => if Fld.later f g = true then f else g
theorem Qqae (f : Fld) (w : Int) : ∀ {l : List Fld}, Qvhg l → (Qul0 l f).find? (fun g => g.what == w) = if w = f.what then some (mx (l.find? fun g => g.what == w) f) else l.find? fun g => g.what == w
 | [], _ => by
  by_cases h : w = f.what
  ·subst h; simp [Qul0, mx]
  ·have : (f.what == w) = false := by simp; omega
   simp [Qul0, this, h]
 | g :: r, hs => by
  have hs' := hs
  unfold Qvhg at hs'
  rw [List.pairwise_cons] at hs'
  have ih := Qqae f w (l := r) hs'.2
  unfold Qul0
  by_cases h1 : g.what < f.what
  ·rw [if_pos h1, List.find?_cons, List.find?_cons, ih]
   by_cases h2 : g.what = w
   ·have : (g.what == w) = true := by simpa using h2
    rw [this]
    simp only
    rw [if_neg (by omega)]
   ·have : (g.what == w) = false := by simpa using h2
    rw [this]
  ·rw [if_neg h1]
   by_cases h3 : g.what = f.what
   ·rw [if_pos h3]
    by_cases h2 : w = f.what
    ·subst h2
     have e1 : (g.what == f.what) = true := by simpa using h3
     rw [if_pos rfl, List.find?_cons (a := g), e1]
     simp only [mx]
     split <;> simp [e1]
    ·have e1 : (g.what == w) = false := by simp; omega
     have e2 : (f.what == w) = false := by simp; omega
     rw [if_neg h2, List.find?_cons (a := g), e1]
     split <;> simp [e1, e2]
   ·rw [if_neg h3]
    by_cases h2 : w = f.what
    ·subst h2
     have : (g :: r).find? (fun g => g.what == f.what) = none := by
      rw [List.find?_eq_none]
      intro x hx
      rcases List.mem_cons.1 hx with rfl | hx
      ·simpa using h3
      ·have := hs'.1 x hx
       simp; omega
     rw [if_pos rfl, this]
     simp [mx]
    ·have e2 : (f.what == w) = false := by simp; omega
     rw [if_neg h2, List.find?_cons, e2]
def Q1re (es : List Entry) : Prop := Qurt es ∧ ∀ e ∈ es, Qvhg e.fields ∧ e.fields ≠ []
theorem Qrkx (n : Str) (f : Fld) : ∀ (es : List Entry) (x : Entry), x ∈ putS es n f → x.name = n ∨ x ∈ es
 | [], x, h => by simp [putS] at h; subst h; exact .inl rfl
 | e :: r, x, h => by
  unfold putS at h
  split at h
  ·rename_i he
   rcases List.mem_cons.1 h with rfl | h
   ·exact .inl he
   ·exact .inr (List.mem_cons_of_mem _ h)
  ·split at h
   ·rcases List.mem_cons.1 h with rfl | h
    ·exact .inr (List.mem_cons_self ..)
    ·exact (Qrkx n f r x h).imp id (List.mem_cons_of_mem _)
   ·rcases List.mem_cons.1 h with rfl | h
    ·exact .inl rfl
    ·exact .inr h
theorem Qjuq (f : Fld) (l : List Fld) : Qul0 l f ≠ [] := by
 cases l with
 | nil => simp [Qul0]
 | cons g r => unfold Qul0; split <;> (try split) <;> (try split) <;> simp
theorem Qujd (n : Str) (f : Fld) : ∀ {es : List Entry}, Q1re es → Q1re (putS es n f)
 | [], _ => ⟨by simp [putS, Qurt], fun e he => by simp [putS] at he; subst he; simp [Qvhg]⟩
 | e :: r, h => by
  obtain ⟨h1, h2⟩ := h
  have h1' := h1
  unfold Qurt at h1'
  rw [List.pairwise_cons] at h1'
  have ih := Qujd n f (es := r) ⟨h1'.2, fun x hx => h2 x (List.mem_cons_of_mem _ hx)⟩
  have he := h2 e (List.mem_cons_self ..)
  unfold putS
  by_cases hn : e.name = n
  ·rw [if_pos hn]
   refine ⟨List.pairwise_cons.2 ⟨h1'.1, h1'.2⟩, fun x hx => ?_⟩
   rcases List.mem_cons.1 hx with rfl | hx
   ·exact ⟨Q0fd f he.1, Qjuq _ _⟩
   ·exact h2 x (List.mem_cons_of_mem _ hx)
  ·rw [if_neg hn]
   by_cases hl : Q7zj e.name n = true
   ·rw [if_pos hl]
    refine ⟨List.pairwise_cons.2 ⟨fun x hx => ?_, ih.1⟩, fun x hx => ?_⟩
    ·rcases Qrkx _ _ _ _ hx with hx | hx
     ·rw [hx]; exact hl
     ·exact h1'.1 x hx
    ·rcases List.mem_cons.1 hx with rfl | hx
     ·exact he
     ·exact ih.2 x hx
   ·rw [if_neg hl]
    have hlt : Q7zj n e.name = true := by
     cases h3 : Q7zj n e.name with
     | true => rfl
     | false => exact absurd (Qj9t _ _ (by simpa using hl) h3) hn
    refine ⟨List.pairwise_cons.2 ⟨fun x hx => ?_, h1⟩, fun x hx => ?_⟩
    ·rcases List.mem_cons.1 hx with rfl | hx
     ·exact hlt
     ·exact lt_trans hlt (h1'.1 x hx)
    ·rcases List.mem_cons.1 hx with rfl | hx
     ·simp [Qvhg]
     ·exact h2 x hx
theorem Q9h5 (e : Entry) (r : List Entry) (n : Str) (w : Int) : lk (e :: r) n w = if e.name = n then e.fields.find? (fun f => f.what == w) else lk r n w := by
 unfold lk
 rw [List.find?_cons]
 by_cases h : e.name = n
 ·have : (e.name == n) = true := by simpa using h
  rw [this, if_pos h]; rfl
 ·have : (e.name == n) = false := by simpa using h
  rw [this, if_neg h]
theorem Q8ex {es : List Entry} {n : Str} (h : ∀ e ∈ es, e.name ≠ n) (w : Int) : lk es n w = none := by
 unfold lk
 rw [List.find?_eq_none.2 (fun e he => by simpa using h e he)]; rfl
theorem Qqy6 (n : Str) (f : Fld) (m : Str) (w : Int) : ∀ {es : List Entry}, Q1re es → lk (putS es n f) m w = if m = n ∧ w = f.what then some (mx (lk es n w) f) else lk es m w
 | [], _ => by
  rw [putS, Q9h5]
  by_cases h : n = m
  ·subst h
   by_cases hw : w = f.what
   ·subst hw; simp [lk, mx]
   ·have : (f.what == w) = false := by simp; omega
    simp [lk, hw, this]
  ·rw [if_neg h, if_neg (fun h2 => h h2.1.symm)]
 | e :: r, hb => by
  obtain ⟨h1, h2⟩ := hb
  have h1' := h1
  unfold Qurt at h1'
  rw [List.pairwise_cons] at h1'
  have ih := Qqy6 n f m w (es := r) ⟨h1'.2, fun x hx => h2 x (List.mem_cons_of_mem _ hx)⟩
  have he := h2 e (List.mem_cons_self ..)
  unfold putS
  by_cases hn : e.name = n
  ·rw [if_pos hn, Q9h5, Q9h5, Q9h5]
   simp only
   rw [Qqae f w he.1]
   by_cases hm : e.name = m
   ·rw [if_pos hm, if_pos hm, if_pos hn]
    have : m = n := hm.symm.trans hn
    by_cases hw : w = f.what <;> simp [hw, this]
   ·rw [if_neg hm, if_neg hm, if_neg (fun h => hm (hn.trans h.1.symm))]
  ·rw [if_neg hn]
   by_cases hl : Q7zj e.name n = true
   ·rw [if_pos hl, Q9h5, Q9h5, Q9h5, ih, if_neg hn]
    by_cases hm : e.name = m
    ·rw [if_pos hm, if_pos hm, if_neg (fun h => hn (hm.trans h.1))]
    ·rw [if_neg hm, if_neg hm]
   ·rw [if_neg hl, Q9h5]
    simp only
    have hlt : Q7zj n e.name = true := by
     cases h3 : Q7zj n e.name with
     | true => rfl
     | false => exact absurd (Qj9t _ _ (by simpa using hl) h3) hn
    have no : lk (e :: r) n w = none := Q8ex (fun x hx => by
     rcases List.mem_cons.1 hx with rfl | hx
     ·exact hn
     ·intro e2
      have := lt_trans hlt (h1'.1 x hx)
      rw [e2, Qqw5] at this; cases this) w
    by_cases hm : n = m
    ·subst hm
     rw [if_pos rfl, no]
     by_cases hw : w = f.what
     ·subst hw; simp [mx]
     ·have : (f.what == w) = false := by simp; omega
      simp [hw, this]
    ·rw [if_neg hm, if_neg (fun h => hm h.1.symm)]
theorem Qw35 {l : List Fld} (h : Qvhg l) (f : Fld) : f ∈ l ↔ l.find? (fun g => g.what == f.what) = some f := by
 constructor
 ·intro hf
  induction l with
  | nil => cases hf
  | cons g r ih =>
   unfold Qvhg at h
   rw [List.pairwise_cons] at h
   rw [List.find?_cons]
   rcases List.mem_cons.1 hf with rfl | hf
   ·simp
   ·have := h.1 f hf
    have e : (g.what == f.what) = false := by simp; omega
    rw [e]; exact ih h.2 hf
 ·exact fun hf => List.mem_of_find?_eq_some hf
theorem Q8nk {l m : List Fld} (hl : Qvhg l) (hm : Qvhg m) (h : ∀ w, l.find? (fun g => g.what == w) = m.find? (fun g => g.what == w)) : l = m := by
 have nd : ∀ {l : List Fld}, Qvhg l → l.Nodup := fun h => h.imp (fun {a b} h e => by subst e; omega)
 refine Qush Fld.what hm ((List.perm_ext_iff_of_nodup (nd hl) (nd hm)).2 fun f => by rw [Qw35 hl, Qw35 hm, h]) (hl.imp fun {a b} h => by omega)
theorem Qe8a {es : List Entry} (h : Qurt es) {e : Entry} (he : e ∈ es) : es.find? (fun x => x.name == e.name) = some e := by
 induction es with
 | nil => cases he
 | cons g r ih =>
  unfold Qurt at h
  rw [List.pairwise_cons] at h
  rw [List.find?_cons]
  rcases List.mem_cons.1 he with rfl | he
  ·simp
  ·have := h.1 e he
   have e' : (g.name == e.name) = false := by simp; intro e2; rw [e2, Qqw5] at this; cases this
   rw [e']; exact ih h.2 he
theorem Qn50 {a b : List Entry} (ha : Q1re a) (hb : Q1re b) (h : ∀ n w, lk a n w = lk b n w) : a = b := by
 have sub : ∀ {a b : List Entry}, Q1re a → Q1re b → (∀ n w, lk a n w = lk b n w) → ∀ e ∈ a, e ∈ b := fun {a b} ha hb h e he => by
  obtain ⟨hs, hne⟩ := ha.2 e he
  have la : ∀ w, lk a e.name w = e.fields.find? (fun f => f.what == w) := fun w => by rw [lk, Qe8a ha.1 he]; rfl
  obtain ⟨f, r, hf⟩ := List.exists_cons_of_ne_nil hne
  have h1 : lk b e.name f.what ≠ none := by rw [← h, la, hf]; simp
  have : ∃ e', b.find? (fun x => x.name == e.name) = some e' := by
   unfold lk at h1
   cases hx : b.find? (fun x => x.name == e.name) with
   | none => rw [hx] at h1; exact absurd rfl h1
   | some x => exact ⟨x, rfl⟩
  obtain ⟨e', he'⟩ := this
  have hm := List.mem_of_find?_eq_some he'
  have hn : e'.name = e.name := by simpa using List.find?_some he'
  have hfe : e.fields = e'.fields := Q8nk hs (hb.2 e' hm).1 (fun w => by rw [← la, h, lk, he']; rfl)
  have : e = e' := by
   obtain ⟨n1, f1⟩ := e
   obtain ⟨n2, f2⟩ := e'
   simp only at hn hfe
   rw [hn, hfe]
  rw [this]; exact hm
 have nd : ∀ {l : List Entry}, Qurt l → l.Nodup := fun h => h.imp (fun {a b} h e => by subst e; rw [Qqw5] at h; cases h)
 refine Qhss Entry.name hb.1 ((List.perm_ext_iff_of_nodup (nd ha.1) (nd hb.1)).2 fun e => ⟨sub ha hb h e, sub hb ha (fun n w => (h n w).symm) e⟩) (ha.1.imp fun {a b} h h2 => ?_)
 rw [Q9yw, Qi83 h] at h2; cases h2
theorem Qwk3 {ks : List Kind} {ps : List Point} {es : List Entry} (h : Qn0o ks ps es = true) : Q1re es := by
 simp only [Qn0o, Bool.and_eq_true] at h
 refine ⟨Q90k h.2.2, fun e he => ?_⟩
 have ho := Qmra es _ h.2.2 e he
 simp only [Q7i7, Bool.and_eq_true, Bool.not_eq_true', decide_eq_false_iff_not] at ho
 exact ⟨Qh2w ho.2.2, fun e2 => ho.2.1 (by rw [e2]; rfl)⟩
theorem Qyfa (f : Fld) : Fld.later f f = false := by simp [Fld.later, Qqw5]
theorem Qba1 {g f : Fld} (h : Fld.later f g = true) : mx (some g) f = f := if_pos h
theorem Qqr0 {g f : Fld} (h : ¬ Fld.later f g = true) : mx (some g) f = g := if_neg h
theorem Qg2a (o : Option Fld) (f : Fld) : mx (some (mx o f)) f = mx o f := by
 have self : mx (some f) f = f := Qqr0 (by rw [Qyfa]; simp)
 cases o with
 | none => exact self
 | some g =>
  by_cases h : Fld.later f g = true
  ·rw [Qba1 h, self]
  ·rw [Qqr0 h, Qqr0 h]
theorem Qsi3 {es : List Entry} (hb : Q1re es) (n : Str) (f : Fld) : putS (putS es n f) n f = putS es n f := by
 refine Qn50 (Qujd _ _ (Qujd _ _ hb)) (Qujd _ _ hb) fun k w => ?_
 rw [Qqy6 _ _ _ _ (Qujd _ _ hb), Qqy6 _ _ _ _ hb, Qqy6 _ _ _ _ hb]
 by_cases h : k = n ∧ w = f.what
 ·obtain ⟨rfl, rfl⟩ := h
  simp only [and_self, if_true, Qg2a]
 ·simp [h]
end Lx
/- A sort of a row of the call's own: what the library says of its sorts, as a contract of the evaluator's. -/
namespace Lx
open Go Go.Sort Go.Proofs
section
variable {Ty : Type} {El : Ty → Type} {C : Cod Ty El} {P : Program}
def shal : AV Ty El → Value → Prop
 | .int k n, u => u = .int k n
 | .bool b, u => u = .bool b
 | .str l, u => ∃ s : ByteArray, u = .string s ∧ s.data.toList = l
 | .sl .., _ => True
 | _, _ => False
structure SEl (C : Cod Ty El) (T : Ty) (p : El T → Bool) where
 i : Nat
 x : El T
 hp : p x = true
 vs : List Value
 len : vs.length = C.sz T
 one : ∀ v ∈ vs, v.oneCell' = true
 sh : ∀ (j : Nat) c u, (C.row T x)[j]? = some c → vs[j]? = some u → shal c u
def mkV : AV Ty El → Value
 | .int k n => .int k n
 | .bool b => .bool b
 | .str l => .string ⟨⟨l⟩⟩
 | _ => .slice none 0 0
def SEl.dflt (hC : CodOK P C) (T : Ty) {p : El T → Bool} (h : p (C.dflt T) = true) : SEl C T p where
 i := 0
 x := C.dflt T
 hp := h
 vs := (C.row T (C.dflt T)).map mkV
 len := by simp [hC.len]
 one := fun v hv => by
  obtain ⟨c, _, rfl⟩ := List.mem_map.1 hv
  cases c <;> rfl
 sh := fun j c u hc hu => by
  rw [List.getElem?_map, hc] at hu
  simp only [Option.map_some, Option.some.injEq] at hu
  subst hu
  have := hC.cell T _ c (List.mem_of_getElem? hc)
  cases c <;> first | rfl | trivial | exact ⟨_, rfl, rfl⟩ | (simp [Qvgi] at this)

theorem RowI.resort (hC : CodOK P C) {w w' : World} {K K' : Nat → Nat → Value → AV Ty El → (Nat → Prop) → Prop} {B : Nat → Prop} {v : Value} {S : Ty} {xs : List (El S)} {p : El S → Bool} [Inhabited (SEl C S p)] {e : TypeId} {cells : List Value} {Fs : Nat → Nat → Nat → Prop}
  (h : RowI C w K B v S xs e cells Fs) {g cap : Nat} {cur : Array Value} (hv : v = .slice (some ⟨g, 0, none⟩) xs.length cap) (hcap : xs.length ≤ cap) (hml : cap ≤ maxLen) (hsz : cur.size = cap * C.sz S)
  (D D' : Array (SEl C S p)) (hD : D.size = xs.length) (hDi : ∀ i, i < xs.length → D[i]!.i = i ∧ D[i]!.x = xs.getD i (C.dflt S) ∧ D[i]!.vs = (cells.drop (i * C.sz S)).take (C.sz S)) (hp : D'.toList.Perm D.toList)
  (hg' : w'.heap[g]? = some (.cells (putCells id 0 (Go.Sort.flatK SEl.vs (C.sz S) D') cur) e (0, 0)))
  (hK : ∀ i i' j u c F, Qvgi c = true → (∀ b, F b → B b ∧ b ≠ g) → K i j u c F → K' i' j u c F) : RowD C w' K' B v S (D'.toList.map SEl.x) := by
 have pos := hC.pos S
 have hs' : D'.size = xs.length := by rw [← hD]; simpa using hp.length_eq
 have hcl : cells.length = xs.length * C.sz S := h.own.1
 have el : ∀ (A : Array (SEl C S p)) (i : Nat) (hi : i < A.size), A[i]! = A[i] := fun A i hi => getElem!_pos A i hi

 have mem : ∀ i, i < xs.length → D'[i]!.i < xs.length ∧ D'[i]! = D[D'[i]!.i]! := fun i hi => by
  have h1 : D'[i]! ∈ D'.toList := by rw [el D' i (by omega)]; simp
  obtain ⟨k, hk, hk2⟩ := List.mem_iff_getElem.1 (hp.mem_iff.1 h1)
  have hk' : k < xs.length := by rw [← hD]; simpa using hk
  have e1 : D[k]! = D'[i]! := by rw [el D k (by omega)]; simpa using hk2
  have e2 := (hDi k hk').1
  rw [e1] at e2
  rw [e2]; exact ⟨hk', e1.symm⟩
 have lmap : D.toList.map SEl.i = List.range xs.length := by
  apply List.ext_getElem
  ·simp [hD]
  ·intro i h1 h2
   simp only [List.length_range] at h2
   have := (hDi i h2).1
   rw [el D i (by omega)] at this
   simpa using this
 have nd : (D'.toList.map SEl.i).Nodup := (hp.map SEl.i).nodup_iff.2 (by rw [lmap]; exact List.nodup_range)
 have gi : ∀ i, i < xs.length → (D'.toList.map SEl.i)[i]? = some D'[i]!.i := fun i hi => by
  rw [List.getElem?_map, el D' i (by omega)]
  simp [hs', hi]
 have inj : ∀ i i', i < xs.length → i' < xs.length → D'[i]!.i = D'[i']!.i → i = i' := fun i i' hi hi' he => by
  refine (List.getElem?_inj (by simp [hs']; exact hi) nd).1 ?_
  rw [gi i hi, gi i' hi', he]
 have surj : ∀ k, k < xs.length → ∃ i, i < xs.length ∧ D'[i]!.i = k := fun k hk => by
  have : k ∈ D'.toList.map SEl.i := (hp.map SEl.i).mem_iff.2 (by rw [lmap]; simpa using hk)
  obtain ⟨i, hi, hi2⟩ := List.mem_iff_getElem.1 this
  have hi' : i < xs.length := by simpa [hs'] using hi
  refine ⟨i, hi', ?_⟩
  have := gi i hi'
  rw [List.getElem?_eq_getElem hi] at this
  simp only [Option.some.injEq] at this
  rw [← this]; exact hi2
 have yl : (D'.toList.map SEl.x).length = xs.length := by simp [hs']
 have yg : ∀ i, i < xs.length → (D'.toList.map SEl.x).getD i (C.dflt S) = xs.getD D'[i]!.i (C.dflt S) := fun i hi => by
  obtain ⟨h1, h2⟩ := mem i hi
  rw [← (hDi _ h1).2.1, ← h2, el D' i (by omega)]
  simp [hs', hi]
 have fs : (Go.Sort.flatK SEl.vs (C.sz S) D').size = xs.length * C.sz S := by rw [Go.Sort.size_flatK, hs']
 have lt : ∀ i j, i < xs.length → j < C.sz S → i * C.sz S + j < xs.length * C.sz S := fun i j hi hj => by
  have : (i + 1) * C.sz S ≤ xs.length * C.sz S := Nat.mul_le_mul_right _ hi
  rw [Nat.succ_mul] at this; omega
 have fg : ∀ i j, i < xs.length → j < C.sz S → (Go.Sort.flatK SEl.vs (C.sz S) D')[i * C.sz S + j]! = D'[i]!.vs[j]! := fun i j hi hj => by
  rw [Go.Sort.get_flatK _ _ _ _ (by rw [hs']; exact lt i j hi hj)]
  have e1 : (i * C.sz S + j) / C.sz S = i := (Go.Sort.blk_iff _ _ _ pos).1 ⟨by omega, by omega⟩
  have e2 : (i * C.sz S + j) % C.sz S = j := by
   rw [Nat.add_comm, Nat.add_mul_mod_self_right]; exact Nat.mod_eq_of_lt hj
  rw [e1, e2]
 have vg : ∀ i j, i < xs.length → j < C.sz S → cells[D'[i]!.i * C.sz S + j]? = some (D'[i]!.vs[j]!) := fun i j hi hj => by
  obtain ⟨h1, h2⟩ := mem i hi
  have h3 := (hDi _ h1).2.2
  rw [← h2] at h3
  have hlt := lt _ j h1 hj
  rw [h3, List.getElem!_eq_getElem?_getD, List.getElem?_take_of_lt hj, List.getElem?_drop, List.getElem?_eq_getElem (by omega)]
  rfl
 refine ⟨e, (Go.Sort.flatK SEl.vs (C.sz S) D').toList, fun i j => Fs D'[i]!.i j, h.ty, ⟨?_, .inr ⟨g, cap, _, ?_, Nat.zero_le _, hg', ?_, hml, ?_, ?_⟩⟩, fun u hu => ?_, fun b => ?_, fun i j b hi hj => ?_, fun i j i' j' b hi hj hi' hj' h1 h2 => ?_, fun i j c hi hc => ?_⟩
 ·rw [yl]; simpa using fs
 ·rw [yl]; exact hv
 ·rw [yl]; exact hcap
 ·simp only [putCells, Array.size_mapIdx]; exact hsz
 ·rw [yl]
  have hle : xs.length * C.sz S ≤ cur.size := by rw [hsz]; exact Nat.mul_le_mul_right _ hcap
  apply List.ext_getElem
  ·simp only [putCells, List.length_take, Array.length_toList, Array.size_mapIdx, fs]; omega
  ·intro t h1 h2
   simp only [Array.length_toList, fs] at h2
   simp only [putCells, List.getElem_take, Array.getElem_toList, Array.getElem_mapIdx, Nat.zero_le, Nat.zero_add, fs, h2, and_self, if_true, Nat.sub_zero, id]
   exact getElem!_pos _ _ (by rw [fs]; exact h2)
 ·obtain ⟨t, ht, rfl⟩ := List.mem_iff_getElem.1 hu
  simp only [Array.length_toList, fs] at ht
  have hq : t / C.sz S < xs.length := Nat.div_lt_of_lt_mul (by rw [Nat.mul_comm]; exact ht)
  have e1 : (Go.Sort.flatK SEl.vs (C.sz S) D')[t]! = D'[t / C.sz S]!.vs[t % C.sz S]! := Go.Sort.get_flatK _ _ _ _ (by rw [hs']; exact ht)
  rw [getElem!_pos _ _ (by rw [fs]; exact ht)] at e1
  rw [Array.getElem_toList, e1]
  refine D'[t / C.sz S]!.one _ ?_
  have hm : t % C.sz S < D'[t / C.sz S]!.vs.length := by rw [D'[t / C.sz S]!.len]; exact Nat.mod_lt _ pos
  rw [getElem!_pos D'[t / C.sz S]!.vs (t % C.sz S) hm]; exact List.getElem_mem _
 ·rw [h.blk b, yl]
  constructor
  ·rintro (hb | ⟨i, j, hi, hj, hb⟩)
   ·exact .inl hb
   ·obtain ⟨i', h1, h2⟩ := surj i hi
    exact .inr ⟨i', j, h1, hj, by rw [h2]; exact hb⟩
  ·rintro (hb | ⟨i, j, hi, hj, hb⟩)
   ·exact .inl hb
   ·exact .inr ⟨_, j, (mem i hi).1, hj, hb⟩
 ·rw [yl] at hi
  exact h.sep0 _ j b (mem i hi).1 hj
 ·rw [yl] at hi hi'
  have := h.sep _ j _ j' b (mem i hi).1 hj (mem i' hi').1 hj' h1 h2
  exact ⟨inj i i' hi hi' this.1, this.2⟩
 ·rw [yl] at hi
  rw [yg i hi] at hc
  have hj := RowI.sz hC hc
  obtain ⟨u, hu, hk⟩ := h.cell _ j c (mem i hi).1 hc
  have hu2 := vg i j hi hj
  rw [hu] at hu2
  refine ⟨u, ?_, hK _ i j u c _ (hC.cell _ _ c (List.mem_of_getElem? hc)) (fun b hb => ⟨(h.blk b).2 (.inr ⟨_, j, (mem i hi).1, hj, hb⟩), fun e => ?_⟩) hk⟩
  ·have hl := lt i j hi hj
   rw [hu2, ← fg i j hi hj, getElem!_pos _ _ (by rw [fs]; exact hl), ← Array.getElem_toList, List.getElem?_eq_getElem (by rw [Array.length_toList, fs]; exact hl)]
  ·subst e
   exact h.sep0 _ j b (mem i hi).1 hj hb (by rw [hv]; rfl)
end
end Lx
/- A sort of a row of the call's own: the contract. -/
namespace Lx
open Go Go.Sort Go.Proofs
section
variable {Ty : Type} {El : Ty → Type} {C : Cod Ty El} {P : Program}
def Qja8 (P : Program) (C : Cod Ty El) (T : Ty) (p : El T → Bool) [Inhabited (SEl C T p)] (cmp : El T → El T → Int) (f g : FuncId) : Prop :=
 ∀ (blk cap : Nat) (D : Array (SEl C T p)) (w : World), HoldsK SEl.vs (C.sz T) w blk 0 D → blk < w.heap.size → D.size < 4611686018427387904 →
  Calls P f #[.slice (some ⟨blk, 0, none⟩) D.size cap, .func (.func g) #[] #[]] w fun e w' => e = .returned (.tuple #[]) ∧ ∃ d' n os, PermIn 0 D.size D d' ∧ SortedIn (ltOf fun x y : SEl C T p => cmp x.x y.x) 0 D.size d' ∧ w' = sortWorldK SEl.vs (C.sz T) w blk 0 n d' os

theorem Qjqt (hC : CodOK P C) {T : Ty} {p : El T → Bool} [Inhabited (SEl C T p)] {cmp : El T → El T → Int} {f g : FuncId} (hs : Qja8 P C T p cmp f g) {w : World} {K : Nat → Nat → Value → AV Ty El → (Nat → Prop) → Prop} (hKs : ∀ i j u c F, K i j u c F → Qvgi c = true → shal c u) {B : Nat → Prop} {v : Value} {xs ys : List (El T)}
  (h : RowD C w K B v T xs) (hall : ∀ x ∈ xs, p x = true) (h0 : 1 ≤ xs.length) (hbig : xs.length < 4611686018427387904) (hu : ∀ zs : List (El T), zs.Perm xs → zs.Pairwise (fun a b => ¬ cmp b a < 0) → zs = ys) :
  Calls P f #[v, .func (.func g) #[] #[]] w fun en w' => en = .returned (.tuple #[]) ∧ (w'.os = w.os ∧ w'.tape = w.tape ∧ w'.output = w.output ∧ w.heap.size ≤ w'.heap.size) ∧ (∀ b, b < w.heap.size → v.ownBlock ≠ some b → w'.heap[b]? = w.heap[b]?) ∧
   ∀ K' : Nat → Nat → Value → AV Ty El → (Nat → Prop) → Prop, (∀ i i' j u c F, Qvgi c = true → (∀ b, F b → B b ∧ v.ownBlock ≠ some b) → K i j u c F → K' i' j u c F) → RowD C w' K' B v T ys := by
 obtain ⟨e, cells, Fs, h⟩ := h
 have pos := hC.pos T
 rcases h.own.2 with ⟨_, hn⟩ | ⟨blk, cap, cur, hv, _, hh, hcap, hml, hsz, htk⟩
 ·omega
 have hcl : cells.length = xs.length * C.sz T := h.own.1
 have lt : ∀ i, i < xs.length → i * C.sz T + C.sz T ≤ xs.length * C.sz T := fun i hi => by
  have : (i + 1) * C.sz T ≤ xs.length * C.sz T := Nat.mul_le_mul_right _ hi
  rw [Nat.succ_mul] at this; omega
 have mk : ∀ i : Fin xs.length, ∃ z : SEl C T p, z.i = i.1 ∧ z.x = xs.getD i.1 (C.dflt T) ∧ z.vs = (cells.drop (i.1 * C.sz T)).take (C.sz T) := fun ⟨i, hi⟩ => by
  have hl := lt i hi
  refine ⟨⟨i, xs.getD i (C.dflt T), hall _ (by rw [List.getD_eq_getElem?_getD, List.getElem?_eq_getElem hi]; exact List.getElem_mem hi), (cells.drop (i * C.sz T)).take (C.sz T), by rw [List.length_take, List.length_drop, hcl]; omega, fun u hu => h.one u (List.mem_of_mem_drop (List.mem_of_mem_take hu)), fun j c u hc hju => ?_⟩, rfl, rfl, rfl⟩
  have hj := RowI.sz hC hc
  obtain ⟨u', hu', hk⟩ := h.cell i j c hi hc
  rw [List.getElem?_take_of_lt hj, List.getElem?_drop, hu'] at hju
  simp only [Option.some.injEq] at hju
  subst hju
  exact hKs _ _ _ _ _ hk (hC.cell _ _ c (List.mem_of_getElem? hc))
 let D : Array (SEl C T p) := Array.ofFn fun i => (mk i).choose
 have hD : D.size = xs.length := by simp [D]
 have hDi : ∀ i, i < xs.length → D[i]!.i = i ∧ D[i]!.x = xs.getD i (C.dflt T) ∧ D[i]!.vs = (cells.drop (i * C.sz T)).take (C.sz T) := fun i hi => by
  rw [getElem!_pos D i (by rw [hD]; exact hi)]
  have := (mk ⟨i, hi⟩).choose_spec
  simp only [D, Array.getElem_ofFn]
  exact this
 have hmap : D.toList.map SEl.x = xs := by
  apply List.ext_getElem
  ·simp [hD]
  ·intro i h1 h2
   have := (hDi i h2).2.1
   rw [getElem!_pos D i (by rw [hD]; exact h2)] at this
   simpa [h2] using this
 have hflat : Go.Sort.flatK SEl.vs (C.sz T) D = cells.toArray := by
  refine ext_get! (by rw [Go.Sort.size_flatK, hD]; simpa using hcl.symm) fun t ht => ?_
  rw [Go.Sort.size_flatK] at ht
  rw [Go.Sort.get_flatK _ _ _ _ ht]
  rw [hD] at ht
  have hq : t / C.sz T < xs.length := Nat.div_lt_of_lt_mul (by rw [Nat.mul_comm]; exact ht)
  have hm : t % C.sz T < C.sz T := Nat.mod_lt _ pos
  have e1 : t / C.sz T * C.sz T + t % C.sz T = t := by rw [Nat.mul_comm]; exact Nat.div_add_mod _ _
  rw [(hDi _ hq).2.2, List.getElem!_eq_getElem?_getD, List.getElem?_take_of_lt hm, List.getElem?_drop, e1]
  simp [hcl, ht]
 have hblk : blk < w.heap.size := (Array.getElem?_eq_some_iff.1 hh).1
 have hH : HoldsK SEl.vs (C.sz T) w blk 0 D := fun j hj => by
  rw [hflat] at hj ⊢
  have hj' : j < cells.length := by simpa using hj
  have hjc : j < cur.size := by
   rw [hsz]
   exact Nat.lt_of_lt_of_le (by rw [← hcl]; exact hj') (Nat.mul_le_mul_right _ hcap)
  have ec : cells[j]? = cur.toList[j]? := by rw [← htk, List.getElem?_take_of_lt (by rw [← hcl]; exact hj')]
  constructor
  ·simp only [World.cell?, Nat.zero_add, hh, id]
   rw [getElem!_pos cells.toArray j hj]
   rw [List.getElem?_eq_getElem hj'] at ec
   simp only [Array.getElem?_toList] at ec
   simpa using ec.symm
  ·simp [World.frozen?, hh]
 rw [show (v : Value) = .slice (some ⟨blk, 0, none⟩) D.size cap by rw [hD]; exact hv]
 refine (hs blk cap D w hH hblk (by rw [hD]; exact hbig)).mono ?_
 rintro en w' ⟨he, D', n, os, hperm, hsort, hw⟩
 rw [hD] at hperm hsort
 have hsz' : D'.size = xs.length := by rw [hperm.1, hD]
 have ex : ∀ A : Array (SEl C T p), A.size = xs.length → A.extract 0 xs.length = A := fun A hA => by rw [← hA]; simp
 have hp : D'.toList.Perm D.toList := by
  have := hperm.2.2
  rwa [ex D hD, ex D' hsz'] at this
 have hblks : w'.heap[blk]? = some (.cells (putCells id 0 (Go.Sort.flatK SEl.vs (C.sz T) D') cur) e (0, 0)) := by
  subst hw
  unfold sortWorldK grow putRowK putRow mapBlock
  simp only
  rw [Array.getElem?_append_left (by simp [Sort.ahead]; exact hblk), Array.getElem?_modify]
  simp [Sort.ahead, hh, onCells]
 have hys : D'.toList.map SEl.x = ys := by
  refine hu _ (by rw [← hmap]; exact hp.map SEl.x) ?_
  rw [List.pairwise_map]
  rw [List.pairwise_iff_getElem]
  intro i j hi hj hij
  have := hsort i j (Nat.zero_le _) hij (by rw [← hsz']; simpa using hj)
  rw [getElem!_pos D' i (by simpa using hi), getElem!_pos D' j (by simpa using hj)] at this
  simpa [ltOf] using this
 refine ⟨he, ?_, fun b hb hne => ?_, fun K' hK' => ?_⟩
 ·subst hw
  refine ⟨rfl, rfl, rfl, ?_⟩
  unfold sortWorldK
  rw [size_grow]
  unfold putRowK
  rw [Go.Sort.size_putRow]
  exact Nat.le_add_right _ _
 ·have hne' : blk ≠ b := fun e => hne (by rw [e]; rfl)
  subst hw
  unfold sortWorldK grow putRowK putRow mapBlock
  simp only
  rw [Array.getElem?_append_left (by simp [Sort.ahead]; exact hb), Array.getElem?_modify, if_neg hne']
  rfl
 ·rw [← hys]
  have hv' : Value.slice (some ⟨blk, 0, none⟩) D.size cap = v := by rw [hD]; exact hv.symm
  rw [hv'] at hK' ⊢
  refine RowI.resort hC h hv hcap hml hsz D D' hD hDi hp hblks (fun i i' j u c F hc hF hk => hK' i i' j u c F hc (fun b hb => ⟨(hF b hb).1, fun e => (hF b hb).2 ?_⟩) hk)
  rw [hv] at e
  simp only [Value.ownBlock, Option.some.injEq] at e
  exact e.symm

theorem Qp5u {N : Nm} {w : World} {u : Value} {c : AV Ty El} (h : RepA C N w u c) (hc : Qvgi c = true) : shal c u := by
 cases h <;> first | rfl | trivial | (rename_i h; exact ⟨_, rfl, h⟩) | (simp [Qvgi] at hc)

theorem Qewq.sortFunc (hC : CodOK P C) {T : Ty} {p : El T → Bool} [Inhabited (SEl C T p)] {cmp : El T → El T → Int} {f g : FuncId} (hs : Qja8 P C T p cmp f g) {xs ys : List (El T)} {d : Nat}
  (hall : ∀ x ∈ xs, p x = true) (h0 : 1 ≤ xs.length) (hbig : xs.length < 4611686018427387904) (hu : ∀ zs : List (El T), zs.Perm xs → zs.Pairwise (fun a b => ¬ cmp b a < 0) → zs = ys) :
  Qewq P C f [.own 0 [] 0, .fn (.func g) []] [.row T xs d 0 0 .no] (.tup []) [.row T ys d 0 0 .no] := by
 intro w N vs hN hsz hrep
 have ho := hN.obj 0
 have hh0 : hpOf ([.row T xs d 0 0 .no] : List (AObj Ty El)) 0 = .row T xs d 0 0 .no := rfl
 have hh0' : hpOf ([.row T ys d 0 0 .no] : List (AObj Ty El)) 0 = .row T ys d 0 0 .no := rfl
 have hhs : ∀ (zs : List (El T)) r, hpOf ([.row T zs d 0 0 .no] : List (AObj Ty El)) (r + 1) = .gone := fun zs r => by simp [hpOf]
 rw [hh0] at ho
 obtain ⟨hone, hdeep⟩ := ho
 have hl0 : 0 < vs.size := by rw [hsz]; simp
 have hl1 : 1 < vs.size := by rw [hsz]; simp
 have r0 := (hrep 0 _ _ (Array.getElem?_eq_getElem hl0) rfl).inv_own
 have r1 := hrep 1 _ _ (Array.getElem?_eq_getElem hl1) rfl
 have e0 : vs[0] = N.ν 0 := by
  have := hN.reg 0 _ _ _ r0
  rw [hh0] at this
  exact this.2 rfl
 have e1 : vs[1] = .func (.func g) #[] #[] := by
  generalize vs[1] = u at r1
  cases r1 with
  | fn f vs cs hl h =>
   have : vs = #[] := Array.size_eq_zero_iff.1 (by simpa using hl)
   rw [this]
 have ev : vs = #[N.ν 0, .func (.func g) #[] #[]] := arr2 (by rw [hsz]; rfl) (by rw [Array.getElem?_eq_getElem hl0, e0]) (by rw [Array.getElem?_eq_getElem hl1, e1])
 rw [ev]
 have hlt : ∀ b, N.F 0 b → b < w.heap.size := fun b hb => Deep.lt hC _ _ _ _ _ _ hdeep b hb

 have main : Calls P f #[N.ν 0, .func (.func g) #[] #[]] w fun en w' => en = .returned (.tuple #[]) ∧ (w'.os = w.os ∧ w'.tape = w.tape ∧ w'.output = w.output ∧ w.heap.size ≤ w'.heap.size) ∧ (∀ b, b < w.heap.size → (N.ν 0).ownBlock ≠ some b → w'.heap[b]? = w.heap[b]?) ∧
   ((∀ b, N.ro b → w'.heap[b]? = w.heap[b]?) → ∀ N' : Nm, (∀ b, N.ro b → N'.ro b) → Deep C N' w' d mskNo (N.F 0) (N.ν 0) T ys) := by
  cases d with
  | zero =>
   refine (Qjqt hC hs (K := fun _ _ u c F => flatK C N w u c F) (fun i j u c F hk hc => Qp5u hk.1 hc) hdeep hall h0 hbig hu).mono ?_
   rintro en w' ⟨h1, h2, h3, h4⟩
   refine ⟨h1, h2, h3, fun hro N' hN' => h4 (fun _ _ u c F => flatK C N' w' u c F) (fun i i' j u c F hc hF hk => ⟨hk.1.rfm hC hN' hro 1 (Qo9s hc 0), hk.2⟩)⟩
  | succ d =>
   refine (Qjqt hC hs (K := fun i j u c F => deepK C N w (Deep C N w d) (mskP .no) i j u c F) (fun i j u c F hk hc => ?_) hdeep hall h0 hbig hu).mono ?_
   ·cases c <;> first | trivial | exact Qp5u hk.1 hc
   rintro en w' ⟨h1, h2, h3, h4⟩
   refine ⟨h1, h2, h3, fun hro N' hN' => h4 (fun i j u c F => deepK C N' w' (Deep C N' w' d) mskNo i j u c F) (fun i i' j u c F hc hF hk => ?_)⟩
   cases c with
   | sl U zs =>
    rcases hk with hk | hk
    ·exact hk.1.elim
    ·refine .inr ⟨fun h => h, ?_⟩
     exact Deep.cast hC hN' hro d _ F u U zs hk.2 (fun b hb => h3 b (hlt b (hF b hb).1) (hF b hb).2)
   | _ => exact ⟨hk.1.rfm hC hN' hro 1 (Qo9s hc 0), hk.2⟩
 refine main.mono ?_
 rintro en w' ⟨rfl, ⟨hos, htp, hout, hsize⟩, hblk, hdp⟩
 have hown : ∀ b, (N.ν 0).ownBlock = some b → N.F 0 b := fun b hb => by
  cases d with
  | zero => obtain ⟨e, cells, Fs, h⟩ := hdeep; exact (h.blk b).2 (.inl hb)
  | succ d => obtain ⟨e, cells, Fs, h⟩ := hdeep; exact (h.blk b).2 (.inl hb)
 have hro : ∀ b, N.ro b → w'.heap[b]? = w.heap[b]? := fun b hb => hblk b (hN.roLt b hb) (fun e => hN.roNot 0 b (hown b e) hb)
 let N2 : Nm := { ν := N.ν, F := N.F, G := fun r p v u => r = 0 ∧ rowG C w' T ys (N.ν 0) d 0 0 .no p v u, ro := N.ro }
 have hd2 : Deep C N2 w' d mskNo (N.F 0) (N.ν 0) T ys := hdp hro N2 (fun _ h => h)
 refine ⟨.tuple #[], N2, rfl, ⟨fun r => ?_, fun r p v u hg => ?_, fun r => ?_, fun r p v u hg => ?_, fun r r' b h1 h2 => hN.dist r r' b h1 h2, fun r b h1 h2 => hN.roNot r b h1 h2, fun b hb => Nat.lt_of_lt_of_le (hN.roLt b hb) hsize⟩, .tup _ _ rfl (fun j v c hv => by simp at hv), fun r hr hst => rfl, fun b hb => hb, fun b hb => .inl hb, ⟨hos, htp, hout, hsize, fun b hb hn => hblk b hb (fun e => hn ⟨0, hown b e⟩)⟩, fun k b hb => .inr ⟨k, hb⟩⟩
 ·match r with
  | 0 => rw [hh0']; exact ⟨hone, hd2⟩
  | r + 1 =>
   rw [hhs]
   have := hN.obj (r + 1)
   rw [hhs] at this
   exact this
 ·obtain ⟨rfl, hg⟩ := hg
  rw [hh0']
  rcases hg with ⟨rfl, rfl, rfl⟩ | ⟨hp, hpd, _, rfl, hh⟩
  ·exact ⟨Nat.le_refl _, fun _ => rfl⟩
  ·cases p with
   | nil => exact absurd rfl hp
   | cons q p => exact ⟨Nat.le_refl _, fun _ _ _ => hh⟩
 ·match r with
  | 0 =>
   rw [hh0']
   exact ⟨⟨rfl, .inl ⟨rfl, rfl, rfl⟩⟩, fun p u h1 h2 h3 h4 => ⟨rfl, .inr ⟨h1, h2, rfl, rfl, h4⟩⟩⟩
  | r + 1 => rw [hhs]; trivial
 ·obtain ⟨rfl, hg⟩ := hg
  rcases hg with ⟨_, _, rfl⟩ | ⟨hp, hpd, _, _, hh⟩
  ·exact hone
  ·exact Qgbe p d _ _ _ _ _ u hd2 (fun _ h => h) hone hpd hh
end
end Lx
/- Meanings: a field laid into a book, as the program does it. -/
namespace Lx
open Go Go.Proofs
def Qvr6 : Ent Ty El := Qf5p
def Q2gg : Ent Ty El := Qc1o
def sortE (l : List Entry) : List Entry := l.mergeSort fun a b => !Q7zj b.name a.name
def sortF (l : List Fld) : List Fld := l.mergeSort fun a b => !decide (b.what < a.what)
def srtEK (xs : List Entry) : Bool := decide (1 ≤ xs.length) && (decide (xs.length ≤ 1000000) && decide ((xs.map Entry.name).Nodup))
def srtFK (xs : List Fld) : Bool := decide (1 ≤ xs.length) && (decide (xs.length ≤ 1000000) && (decide ((xs.map Fld.what).Nodup) && xs.all fun f => inR f.what (-1000) 1000))
def Qlpg : Ent Ty El := ⟨[.io, .ro], 0, fun a h => match a, h with
 | [.own 0 [] 0, .fn (.func g) []], [.row .entry xs 1 0 0 .no] => some (decide (g = Qs8v) && srtEK xs, .tup [], [.row .entry (sortE xs) 1 0 0 .no])
 | _, _ => none⟩
def Qpic : Ent Ty El := ⟨[.io, .ro], 0, fun a h => match a, h with
 | [.own 0 [] 0, .fn (.func g) []], [.row .fld xs 0 0 0 .no] => some (decide (g = Qy91) && srtFK xs, .tup [], [.row .fld (sortF xs) 0 0 0 .no])
 | _, _ => none⟩
def layB (es : List Entry) (n : Str) : Bool := !(decide (entIx es n < 0) && decide (12 ≤ es.length))
def layF (es : List Entry) (n : Str) (f : Fld) : List Entry := if layB es n = true then putF es n f else es
def layK (ks : List Kind) (ps : List Point) (es : List Entry) (w : Int) : Bool := Qn0o ks ps es && (goodB ks ps es && inR w (-1000) 1000)
def Q7p0 : Ent Ty El := ⟨[.io, .ro, .ro], 1, fun a h => match a, h with
 | [.ptr 0 0, .str n, .agg [.int .i64 w, .int .i64 m, .str v]], [.box [.own 1 [] 0, .own 2 [] 0, .own 3 [] 0], .row .kind ks 0 0 0 .no, .row .point ps 0 0 0 .no, .row .entry es 1 0 0 .no] =>
  some (layK ks ps es w, .bool (layB es n), [.box [.own 1 [] 0, .own 2 [] 0, .own 4 [] 0], .row .kind ks 0 0 0 .no, .row .point ps 0 0 0 .no, .out, .row .entry (layF es n ⟨w, m, v⟩) 1 0 0 .no])
 | _, _ => none⟩
theorem Q2ne (l : List Entry) : (sortE l).Perm l ∧ (sortE l).Pairwise (fun a b => ¬ Lib.compareBytes b.name a.name < 0) := by
 refine ⟨List.mergeSort_perm _ _, (List.pairwise_mergeSort (le := fun a b : Entry => !Q7zj b.name a.name) (fun a b c h1 h2 => ?_) (fun a b => ?_) l).imp fun {a b} h => ?_⟩
 ·simp only [Bool.not_eq_true'] at *
  exact (Qgb6 Entry.name).ntrans c b a h2 h1
 ·simp only [Bool.or_eq_true, Bool.not_eq_true']
  cases h : Q7zj b.name a.name with
  | false => exact .inl rfl
  | true => exact .inr (Qi83 h)
 ·rw [Q9yw]; simpa using h
theorem Qcsw (l : List Fld) : (sortF l).Perm l ∧ (sortF l).Pairwise (fun a b => ¬ b.what < a.what) := by
 refine ⟨List.mergeSort_perm _ _, (List.pairwise_mergeSort (le := fun a b : Fld => !decide (b.what < a.what)) (fun a b c h1 h2 => ?_) (fun a b => ?_) l).imp fun {a b} h => ?_⟩
 ·simp only [Bool.not_eq_true', decide_eq_false_iff_not] at *; omega
 ·simp only [Bool.or_eq_true, Bool.not_eq_true', decide_eq_false_iff_not]; omega
 ·simpa using h
end Lx
/- What the sorts' comparisons answer. -/
namespace Lx
open Go Go.Proofs Go.Sort Go.RowKit
theorem Qzus (a b : ByteArray) (w : World) : Calls Tryz.prog 179 #[.string a, .string b] w fun e w' => e = .returned (.int .i64 (Lib.compareBytes a.data.toList b.data.toList)) ∧ w' = w := Any.strings_Compare Tryz.lays106 a b w
theorem grow2 (w : World) (o o' : Obj) : (w.alloc o).alloc o' = grow (w.drewN 0) #[o, o'] := by
 rw [alloc_eq_grow, alloc_eq_grow, grow_grow]; rfl
set_option maxRecDepth 100000 in
theorem Qgyc (a b : ByteArray) (u v : Value) (w : World) (hu : u.oneCell' = true) (hv : v.oneCell' = true) :
  Calls Tryz.prog 178 #[.agg #[.string a, u], .agg #[.string b, v]] w fun e w' => e = .returned (.int .i64 (Lib.compareBytes a.data.toList b.data.toList)) ∧ ∃ q os', w' = grow (w.drewN q) os' := by
 go_enter Tryz.func178, Tryz.ntmps178
 go_wp2_with (go_at_call 179; refine (Qzus _ _ _).mono ?_; rintro e w' ⟨rfl, rfl⟩)
 go_ret
 exact ⟨rfl, 0, _, grow2 _ _ _⟩
set_option maxRecDepth 100000 in
theorem Qjsb (a b c d : Int) (s t : ByteArray) (w : World) (h1 : -1000 ≤ a) (h2 : a ≤ 1000) (h3 : -1000 ≤ c) (h4 : c ≤ 1000) :
  Calls Tryz.prog 181 #[.agg #[.int .i64 a, .int .i64 b, .string s], .agg #[.int .i64 c, .int .i64 d, .string t]] w fun e w' => e = .returned (.int .i64 (a - c)) ∧ ∃ q os', w' = grow (w.drewN q) os' := by
 go_enter Tryz.func181, Tryz.ntmps181
 go_wp2
 go_ret
 exact ⟨by first | rfl | (rw [Qbrg (by omega) (by omega)]), 0, _, grow2 _ _ _⟩
instance : Inhabited (SEl CP .entry (fun _ => true)) := ⟨SEl.dflt CP_ok .entry rfl⟩
def okW (f : Fld) : Bool := inR f.what (-1000) 1000
instance : Inhabited (SEl CP .fld okW) := ⟨SEl.dflt CP_ok .fld rfl⟩
theorem list2 {α : Type} {l : List α} (h : l.length = 2) : ∃ a b, l = [a, b] := by
 match l, h with
 | [a, b], _ => exact ⟨a, b, rfl⟩
theorem list3 {α : Type} {l : List α} (h : l.length = 3) : ∃ a b c, l = [a, b, c] := by
 match l, h with
 | [a, b, c], _ => exact ⟨a, b, c, rfl⟩
theorem Q488 {p : Entry → Bool} (x : SEl CP .entry p) : ∃ s u, x.vs = [.string s, u] ∧ s.data.toList = x.x.name ∧ u.oneCell' = true := by
 obtain ⟨a, b, e⟩ := list2 (show x.vs.length = 2 from x.len)
 obtain ⟨s, rfl, hs⟩ := x.sh 0 (.str x.x.name) a rfl (by rw [e]; rfl)
 exact ⟨s, b, e, hs, x.one b (by rw [e]; simp)⟩
theorem Qcbp {p : Fld → Bool} (x : SEl CP .fld p) : ∃ n s, x.vs = [.int .i64 x.x.what, .int .i64 n, .string s] := by
 obtain ⟨a, b, c, e⟩ := list3 (show x.vs.length = 3 from x.len)
 have h0 : a = .int .i64 x.x.what := x.sh 0 (.int .i64 x.x.what) a rfl (by rw [e]; rfl)
 have h1 : b = .int .i64 x.x.number := x.sh 1 (.int .i64 x.x.number) b rfl (by rw [e]; rfl)
 obtain ⟨s, h2, _⟩ := x.sh 2 (.str x.x.value) c rfl (by rw [e]; rfl)
 exact ⟨_, s, by rw [e, h0, h1, h2]⟩
theorem Qnjx : Qja8 Tryz.prog CP .entry (fun _ => true) (fun a b : Entry => Lib.compareBytes a.name b.name) Qq3g Qs8v := by
 intro blk cap D w hH hblk hsz
 have hlt : (ltOf fun x y : SEl CP .entry (fun _ => true) => Lib.compareBytes x.x.name y.x.name) = fun x y => Q7zj x.x.name y.x.name := by
  funext x y
  unfold ltOf
  have := Q9yw x.x.name y.x.name
  cases h : Q7zj x.x.name y.x.name with
  | true => exact decide_eq_true (this.2 h)
  | false => exact decide_eq_false (fun h2 => by rw [this.1 h2] at h; cases h)
 refine AnyQ.slices_SortFunc Tryz.laysE 2 Tryz.isAgg92 Tryz.sizeOf92 SEl.vs (fun x : SEl CP .entry (fun _ => true) => x.len) (fun x => x.one) (fun x y => Lib.compareBytes x.x.name y.x.name) (by rw [hlt]; exact Qgb6 fun x : SEl CP .entry (fun _ => true) => x.x.name) 178 #[] blk 0 cap D w (enters_of Tryz.func178 (by kernel_rfl) rfl) ?_ hH hblk hsz
 intro m os dk hs x y
 obtain ⟨s, u, e1, e2, e3⟩ := Q488 x
 obtain ⟨s', u', f1, f2, f3⟩ := Q488 y
 have hw := Qgyc s s' u u' (sortWorldK SEl.vs 2 w blk 0 m dk os) e3 f3
 rw [e2, f2] at hw
 rw [e1, f1]
 exact hw
theorem Qmd2 : Qja8 Tryz.prog CP .fld okW (fun a b : Fld => a.what - b.what) Qbq3 Qy91 := by
 intro blk cap D w hH hblk hsz
 have hlt : (ltOf fun x y : SEl CP .fld okW => x.x.what - y.x.what) = fun x y => decide (x.x.what < y.x.what) := by
  funext x y
  unfold ltOf
  rw [decide_eq_decide]; show x.x.what - y.x.what < 0 ↔ _; omega
 refine AnyQ.slices_SortFunc Tryz.laysF 3 Tryz.isAgg94 Tryz.sizeOf94 SEl.vs (fun x : SEl CP .fld okW => x.len) (fun x => x.one) (fun x y => x.x.what - y.x.what) (by rw [hlt]; exact Qy04 fun x : SEl CP .fld okW => x.x.what) 181 #[] blk 0 cap D w (enters_of Tryz.func181 (by kernel_rfl) rfl) ?_ hH hblk hsz
 intro m os dk hs x y
 obtain ⟨n, s, e⟩ := Qcbp x
 obtain ⟨n', s', e'⟩ := Qcbp y
 have hx := x.hp
 have hy := y.hp
 simp only [okW, inR, Bool.and_eq_true, decide_eq_true_eq] at hx hy
 rw [e, e']
 exact Qjsb _ _ _ _ _ _ _ hx.1 hx.2 hy.1 hy.2
theorem Qudc {α β : Type} (key : α → β) {l : List α} (h : (l.map key).Nodup) : l.Pairwise fun a b => key a ≠ key b := List.pairwise_map.1 h
theorem Qct0 (xs : List Entry) (hg : srtEK xs = true) : Qewq Tryz.prog CP Qq3g [.own 0 [] 0, .fn (.func Qs8v) []] [.row .entry xs 1 0 0 .no] (.tup []) [.row .entry (sortE xs) 1 0 0 .no] := by
 simp only [srtEK, Bool.and_eq_true, decide_eq_true_eq] at hg
 obtain ⟨h1, h2, h3⟩ := hg
 have ne := Qudc Entry.name h3
 refine Qewq.sortFunc CP_ok Qnjx (fun _ _ => rfl) h1 (Nat.lt_of_le_of_lt h2 (by decide)) (fun zs hp hz => ?_)
 obtain ⟨hp2, hs2⟩ := Q2ne xs
 refine (hp.trans hp2.symm).eq_of_pairwise (le := fun a b : Entry => ¬ Lib.compareBytes b.name a.name < 0) (fun a b ha hb q1 q2 => ?_) hz hs2
 rw [Q9yw] at q1 q2
 exact Qrj0 Entry.name ne (hp.mem_iff.1 ha) (hp2.mem_iff.1 hb) (Qj9t _ _ (by simpa using q2) (by simpa using q1))
theorem Q15v (xs : List Fld) (hg : srtFK xs = true) : Qewq Tryz.prog CP Qbq3 [.own 0 [] 0, .fn (.func Qy91) []] [.row .fld xs 0 0 0 .no] (.tup []) [.row .fld (sortF xs) 0 0 0 .no] := by
 simp only [srtFK, Bool.and_eq_true, decide_eq_true_eq] at hg
 obtain ⟨h1, h2, h3, h4⟩ := hg
 have ne := Qudc Fld.what h3
 refine Qewq.sortFunc CP_ok Qmd2 (fun x hx => List.all_eq_true.1 h4 x hx) h1 (Nat.lt_of_le_of_lt h2 (by decide)) (fun zs hp hz => ?_)
 obtain ⟨hp2, hs2⟩ := Qcsw xs
 refine (hp.trans hp2.symm).eq_of_pairwise (le := fun a b : Fld => ¬ b.what < a.what) (fun a b ha hb q1 q2 => ?_) (hz.imp fun {a b} h => by omega) hs2
 exact Qrj0 Fld.what ne (hp.mem_iff.1 ha) (hp2.mem_iff.1 hb) (by omega)
theorem Q9pe : EntOK Tryz.prog CP Qq3g Qlpg := by
 refine ⟨⟨Tryz.f177, by kernel_rfl, by kernel_rfl, by kernel_rfl⟩, fun args H res H' h => ?_⟩
 simp only [Qlpg] at h
 split at h
 ·simp only [Option.some.injEq, Prod.mk.injEq, Bool.and_eq_true, decide_eq_true_eq] at h
  obtain ⟨⟨rfl, hg⟩, rfl, rfl⟩ := h
  exact Qct0 _ hg
 ·cases h
theorem Qp8x : EntOK Tryz.prog CP Qbq3 Qpic := by
 refine ⟨⟨Tryz.f180, by kernel_rfl, by kernel_rfl, by kernel_rfl⟩, fun args H res H' h => ?_⟩
 simp only [Qpic] at h
 split at h
 ·simp only [Option.some.injEq, Prod.mk.injEq, Bool.and_eq_true, decide_eq_true_eq] at h
  obtain ⟨⟨rfl, hg⟩, rfl, rfl⟩ := h
  exact Q15v _ hg
 ·cases h
end Lx
/- A field laid into a book, as the program does it. -/
namespace Lx
open Go Go.Proofs
noncomputable def Qmyl : RE Ty El := ⟨Tryz.prog, CP, [], Tryz.f148, 0, [], []⟩
theorem Qzd8 : REOK Qmyl Qcg7 := ⟨CP_ok, Qye1, by kernel_rfl, by kernel_rfl⟩
theorem Qizp (a b c d : Int) (s t : Str) : aRun Qmyl 600 false (body0 Qmyl.fn) (Q4gm Qmyl.fn [.agg [.int .i64 a, .int .i64 b, .str s], .agg [.int .i64 c, .int .i64 d, .str t]] []) =
 ifb (decide (b > d)) (some (.ret (.bool true) [])) (ifb (b == d) (some (.ret (.bool (!(Q7zj s t || s == t))) [])) (some (.ret (.bool false) []))) := by kernel_rfl
theorem Qfh4 (a b c d : Int) (s t : Str) : Qewq Tryz.prog CP Qcg7 [.agg [.int .i64 a, .int .i64 b, .str s], .agg [.int .i64 c, .int .i64 d, .str t]] [] (.bool (Fld.later ⟨a, b, s⟩ ⟨c, d, t⟩)) [] := by
 refine Qewq.of Qzd8 (by kernel_rfl) (Qizp a b c d s t) ?_
 rw [le_lt, Bool.not_not]
 by_cases h : b = d
 ·subst h
  rw [show decide (b > b) = false by simp, show (b == b) = true by simp, show Fld.later ⟨a, b, s⟩ ⟨c, b, t⟩ = Q7zj t s from if_pos rfl]
  exact Sat.ret rfl rfl
 ·rw [show (b == d) = false by simp [h], show Fld.later ⟨a, b, s⟩ ⟨c, d, t⟩ = decide (b > d) from if_neg h]
  cases decide (b > d) <;> exact Sat.ret rfl rfl
theorem Q2xi : EntOK Tryz.prog CP Qcg7 Qdx1 := by
 refine ⟨⟨Tryz.f148, by kernel_rfl, by kernel_rfl, by kernel_rfl⟩, fun args H res H' h => ?_⟩
 simp only [Qdx1, Q7bn] at h
 split at h
 ·simp only [Option.some.injEq, Prod.mk.injEq] at h
  obtain ⟨hg, rfl, rfl⟩ := h
  exact Qfh4 _ _ _ _ _ _
 ·cases h

noncomputable def Q75r : RE Ty El := ⟨Tryz.prog, CP, [], Tryz.f175, 0, [.agg [.own .kind, .own .point]], []⟩
theorem Qqki : REOK Q75r Qr5h := ⟨CP_ok, Qye1, by kernel_rfl, by kernel_rfl⟩
theorem Qcd3 (ks : List Kind) (ps : List Point) : aRun Q75r 600 false (body0 Q75r.fn) (Q4gm Q75r.fn [.agg [.sl .kind ks, .sl .point ps]] []) =
 ifb (decide (ks.length * Qbhn Q75r.P (40 : Nat) ≤ (140737488355328 : Nat))) (ifb (decide (ps.length * Qbhn Q75r.P (160 : Nat) ≤ (140737488355328 : Nat))) (some (.ret (.agg [.own 0 [] 0, .own 1 [] 0]) [.row .kind ks 0 0 0 .no, .row .point ps 0 0 0 .no])) (none)) (none) := by kernel_rfl
theorem Qqpn (ks : List Kind) (ps : List Point) (hg : Qzta ks ps = true) : Qewq Tryz.prog CP Qr5h [.agg [.sl .kind ks, .sl .point ps]] [] (.agg [.own 0 [] 0, .own 1 [] 0]) [.row .kind ks 0 0 0 .no, .row .point ps 0 0 0 .no] := by
 refine Qewq.of Qqki (by kernel_rfl) (Qcd3 ks ps) ?_
 simp only [Qzta, Q6lz, Qjyp, Bool.and_eq_true, decide_eq_true_eq] at hg
 obtain ⟨⟨g0, _⟩, ⟨g1, _⟩, _⟩ := hg
 have hb40 : Qbhn Q75r.P 40 ≤ 256 := of_decide_eq_true (by kernel_rfl)
 have hb160 : Qbhn Q75r.P 160 ≤ 256 := of_decide_eq_true (by kernel_rfl)
 rw [Q1mk hb40 (by first | omega | (simp; omega)), Q1mk hb160 (by first | omega | (simp; omega))]
 exact Sat.ret rfl rfl
theorem Qwwc : EntOK Tryz.prog CP Qr5h Qvr6 := by
 refine ⟨⟨Tryz.f175, by kernel_rfl, by kernel_rfl, by kernel_rfl⟩, fun args H res H' h => ?_⟩
 simp only [Qvr6, Qf5p] at h
 split at h
 ·simp only [Option.some.injEq, Prod.mk.injEq] at h
  obtain ⟨hg, rfl, rfl⟩ := h
  exact Qqpn _ _ hg
 ·cases h

noncomputable def Q6c7 : RE Ty El := ⟨Tryz.prog, CP, [(Qr5h, Qvr6)], Tryz.f97, 0, [.agg [.own .kind, .own .point, .own .entry]], [(3, [(2, .any), (3, .any), (11, .any), (12, .any), (13, .any)])]⟩
theorem Qzme : REOK Q6c7 Qlpu := ⟨CP_ok, (TabOK.cons Qwwc Qye1), by kernel_rfl, by kernel_rfl⟩
theorem Qcot (ks : List Kind) (ps : List Point) (es : List Entry) : aRun Q6c7 600 false (body0 Q6c7.fn) (Q4gm Q6c7.fn [.agg [.sl .kind ks, .sl .point ps, .sl .entry es]] []) =
 ifb (Qzta ks ps) (some (.go (Qu6t Q6c7.fn 3) [.ptr 0 0, .ptr 1 0, .sl .entry es, .int .i64 (↑es.length : Int), .int .i64 (0 : Int)] [.box [.nils, .nils, .nils], .box [.own 2 [] 0, .own 3 [] 0, .nils], .row .kind ks 0 0 0 .no, .row .point ps 0 0 0 .no])) (none) := by kernel_rfl
theorem Q4dj (x0 : List (El .entry)) (x1 : Int) (x2 : Int) (x3 : List (El .kind)) (x4 : List (El .point)) : aRun Q6c7 600 true (Qu6t Q6c7.fn 3) (cutSt Q6c7.fn (Q1m4 Q6c7 (Qu6t Q6c7.fn 3)) [.ptr 0 0, .ptr 1 0, .sl .entry x0, .int .i64 x1, .int .i64 x2] [.box [.nils, .nils, .nils], .box [.own 2 [] 0, .own 3 [] 0, .nils], .row .kind x3 0 0 0 .no, .row .point x4 0 0 0 .no]) =
 ifb (decide (x2 < x1)) (ifb (inb x2 x0.length) (ifb (decide ((x0.getD x2.toNat (Q6c7.C.dflt Ty.entry)).fields.length * Qbhn Q6c7.P (94 : Nat) ≤ (140737488355328 : Nat))) (some (.go (Qu6t Q6c7.fn 3) [.ptr 0 0, .ptr 1 0, .sl .entry x0, .int .i64 x1, .int .i64 (IntKind.i64.wrap (x2 + (1 : Int)))] [.box [.nils, .nils, .nils], .box [.own 2 [] 0, .own 3 [] 0, .own 4 [] 0], .row .kind x3 0 0 0 .no, .row .point x4 0 0 0 .no, .row .entry [x0.getD x2.toNat (Q6c7.C.dflt Ty.entry)] 1 0 0 .no])) (none)) (none)) (some (.ret (.agg [.own 0 [] 0, .own 1 [] 0, .own 2 [] 0]) [.row .kind x3 0 0 0 .no, .row .point x4 0 0 0 .no, .row .entry [] 1 0 0 .no])) := by kernel_rfl
theorem Qksv (x0 : List (El .entry)) (x1 : Int) (x2 : Int) (x3 : List (El .kind)) (x4 : List (El .point)) (x5 : List (El .entry)) : aRun Q6c7 600 true (Qu6t Q6c7.fn 3) (cutSt Q6c7.fn (Q1m4 Q6c7 (Qu6t Q6c7.fn 3)) [.ptr 0 0, .ptr 1 0, .sl .entry x0, .int .i64 x1, .int .i64 x2] [.box [.nils, .nils, .nils], .box [.own 2 [] 0, .own 3 [] 0, .own 4 [] 0], .row .kind x3 0 0 0 .no, .row .point x4 0 0 0 .no, .row .entry x5 1 0 0 .no]) =
 ifb (decide (x2 < x1)) (ifb (inb x2 x0.length) (ifb (decide ((x0.getD x2.toNat (Q6c7.C.dflt Ty.entry)).fields.length * Qbhn Q6c7.P (94 : Nat) ≤ (140737488355328 : Nat))) (ifb (decide ((x5.length + [x0.getD x2.toNat (Q6c7.C.dflt Ty.entry)].length) * Qbhn Q6c7.P (92 : Nat) ≤ (140737488355328 : Nat))) (some (.go (Qu6t Q6c7.fn 3) [.ptr 0 0, .ptr 1 0, .sl .entry x0, .int .i64 x1, .int .i64 (IntKind.i64.wrap (x2 + (1 : Int)))] [.box [.nils, .nils, .nils], .box [.own 2 [] 0, .own 3 [] 0, .own 4 [] 0], .row .kind x3 0 0 0 .no, .row .point x4 0 0 0 .no, .row .entry (x5 ++ [x0.getD x2.toNat (Q6c7.C.dflt Ty.entry)]) 1 0 0 .no])) (none)) (none)) (none)) (some (.ret (.agg [.own 0 [] 0, .own 1 [] 0, .own 2 [] 0]) [.row .kind x3 0 0 0 .no, .row .point x4 0 0 0 .no, .row .entry x5 1 0 0 .no])) := by kernel_rfl
theorem Qzou (ks : List Kind) (ps : List Point) (es : List Entry) (g0 : es.length ≤ 1000000000) (g1 : es.all (fun z : Entry => Qytc z.name z.fields) = true) : ∀ (d i : Nat), i + d = es.length →
  Cut Q6c7 Qlpu 3 [.ptr 0 0, .ptr 1 0, .sl .entry es, .int .i64 (es.length : Int), .int .i64 (i : Int)] [.box [.nils, .nils, .nils], .box [.own 2 [] 0, .own 3 [] 0, .own 4 [] 0], .row .kind ks 0 0 0 .no, .row .point ps 0 0 0 .no, .row .entry (es.take i) 1 0 0 .no] (.agg [.own 0 [] 0, .own 1 [] 0, .own 2 [] 0]) [.row .kind ks 0 0 0 .no, .row .point ps 0 0 0 .no, .row .entry es 1 0 0 .no] := by
 have hb92 : Qbhn Q6c7.P 92 ≤ 256 := of_decide_eq_true (by kernel_rfl)
 have hb94 : Qbhn Q6c7.P 94 ≤ 256 := of_decide_eq_true (by kernel_rfl)
 intro d
 induction d with
 | zero =>
  intro i hi
  refine Cut.of Qzme rfl (Qksv es es.length i ks ps _) ?_
  rw [show decide ((i : Int) < (es.length : Int)) = false from decide_eq_false (by omega), List.take_of_length_le (by omega)]
  exact Sat.ret rfl rfl
 | succ d ih =>
  intro i hi
  refine Cut.of Qzme rfl (Qksv es es.length i ks ps _) ?_
  have hlt : i < es.length := by omega
  have hw : IntKind.wrap .i64 ((i : Int) + 1) = ((i + 1 : Nat) : Int) := by rw [Qbrg] <;> omega
  have hw1 : IntKind.wrap .i64 ((i : Int) - 1) = (i : Int) - 1 := by rw [Qbrg] <;> omega
  have hd : es.drop i = es[i] :: es.drop (i + 1) := List.drop_eq_getElem_cons hlt
  have hx : es.getD (i : Int).toNat (Q6c7.C.dflt .entry) = es[i] := by simp [hlt]
  have hin : inb (i : Int) es.length = true := by simp only [inb, Bool.and_eq_true, decide_eq_true_eq]; omega
  have hlo : decide ((i : Int) < (es.length : Int)) = true := decide_eq_true (by omega)
  have htk := List.take_succ_eq_append_getElem hlt
  have hl : (es.take (i + 1)).getLast? = some es[i] := by rw [List.take_succ_eq_append_getElem hlt, List.getLast?_concat]
  have hz := List.all_eq_true.1 g1 es[i] (List.getElem_mem hlt)
  simp only [Qytc, Qckx, Bool.and_eq_true, decide_eq_true_eq] at hz
  rw [hlo, hin, hx, hw, Q1mk hb94 (by first | omega | (simp; omega)), Q1mk hb92 (by first | omega | (simp; omega))]
  simp only [Qd8q, List.nil_append]
  have nx := ih (i + 1) (by omega)
  rw [htk] at nx
  exact Sat.cut nx
theorem Ql8o (ks : List Kind) (ps : List Point) (es : List Entry) (g0 : es.length ≤ 1000000000) (g1 : es.all (fun z : Entry => Qytc z.name z.fields) = true) :
  Cut Q6c7 Qlpu 3 [.ptr 0 0, .ptr 1 0, .sl .entry es, .int .i64 (es.length : Int), .int .i64 (0 : Int)] [.box [.nils, .nils, .nils], .box [.own 2 [] 0, .own 3 [] 0, .nils], .row .kind ks 0 0 0 .no, .row .point ps 0 0 0 .no] (.agg [.own 0 [] 0, .own 1 [] 0, .own 2 [] 0]) [.row .kind ks 0 0 0 .no, .row .point ps 0 0 0 .no, .row .entry es 1 0 0 .no] := by
 have hb92 : Qbhn Q6c7.P 92 ≤ 256 := of_decide_eq_true (by kernel_rfl)
 have hb94 : Qbhn Q6c7.P 94 ≤ 256 := of_decide_eq_true (by kernel_rfl)
 refine Cut.of Qzme rfl (Q4dj es es.length 0 ks ps) ?_
 cases es with
 | nil => exact Sat.ret rfl rfl
 | cons e es =>
  have hz := g1
  rw [List.all_cons, Bool.and_eq_true] at hz
  replace hz := hz.1
  simp only [Qytc, Qckx, Bool.and_eq_true, decide_eq_true_eq] at hz
  have hi0 : inb (0 : Int) (e :: es).length = true := by simp only [inb, Bool.and_eq_true, decide_eq_true_eq, List.length_cons]; omega
  have hx0 : (e :: es).getD (Int.toNat 0) (Q6c7.C.dflt .entry) = e := rfl
  rw [show decide ((0 : Int) < ((e :: es).length : Int)) = true from decide_eq_true (by simp only [List.length_cons]; omega), hi0, hx0, Q1mk hb94 (by first | omega | (simp; omega))]
  simp only [Qd8q, List.nil_append]
  exact Sat.cut (Qzou ks ps (e :: es) g0 g1 es.length 1 (by simp only [List.length_cons]; omega))
theorem Qe6m (ks : List Kind) (ps : List Point) (es : List Entry) (hg : Q8cx ks ps es = true) : Qewq Tryz.prog CP Qlpu [.agg [.sl .kind ks, .sl .point ps, .sl .entry es]] [] (.agg [.own 0 [] 0, .own 1 [] 0, .own 2 [] 0]) [.row .kind ks 0 0 0 .no, .row .point ps 0 0 0 .no, .row .entry es 1 0 0 .no] := by
 refine Qewq.of Qzme (by kernel_rfl) (Qcot ks ps es) ?_
 simp only [Q8cx, Bool.and_eq_true] at hg
 obtain ⟨g0, g1, g2, _⟩ := hg
 rw [show Qzta ks ps = true by simp only [Qzta, g0, g1, Bool.and_true]]
 simp only [Qnwa, Bool.and_eq_true, decide_eq_true_eq] at g2
 exact Sat.cut (Ql8o ks ps es g2.1 g2.2)
theorem Qusr : EntOK Tryz.prog CP Qlpu Q2gg := by
 refine ⟨⟨Tryz.f97, by kernel_rfl, by kernel_rfl, by kernel_rfl⟩, fun args H res H' h => ?_⟩
 simp only [Q2gg, Qc1o] at h
 split at h
 ·simp only [Option.some.injEq, Prod.mk.injEq] at h
  obtain ⟨hg, rfl, rfl⟩ := h
  exact Qe6m _ _ _ hg
 ·cases h

noncomputable def Qnpa : RE Ty El := ⟨Tryz.prog, CP, [(Q659, Qb5f), (Qcg7, Qdx1), (Qq3g, Qlpg), (Qbq3, Qpic)], Tryz.f98, 4, [], [(10, [(5, .any), (8, .any), (51, .any), (52, .any)])]⟩
theorem Q9op : REOK Qnpa Qg00 := ⟨CP_ok, (TabOK.cons Q4vp (TabOK.cons Q2xi (TabOK.cons Q9pe (TabOK.cons Qp8x Qye1)))), by kernel_rfl, by kernel_rfl⟩
theorem Qqqo (ks : List Kind) (ps : List Point) (es : List Entry) (n : Str) (w m : Int) (v : Str) : aRun Qnpa 600 false (body0 Qnpa.fn) (Q4gm Qnpa.fn [.ptr 0 0, .str n, .agg [.int .i64 w, .int .i64 m, .str v]] [.box [.own 1 [] 0, .own 2 [] 0, .own 3 [] 0], .row .kind ks 0 0 0 .no, .row .point ps 0 0 0 .no, .row .entry es 1 0 0 .no]) =
 ifb (decide (es.length < (1000000000 : Nat))) (ifb (decide (idxF (fun p => p.name == n) es < (0 : Int))) (ifb (decide ((↑es.length : Int) ≥ (12 : Int))) (some (.ret (.bool false) [.box [.own 1 [] 0, .own 2 [] 0, .own 3 [] 0], .row .kind ks 0 0 0 .no, .row .point ps 0 0 0 .no, .row .entry es 1 0 0 .no])) (ifb (decide ((es.length + [Entry.mk n [Fld.mk w m v]].length) * Qbhn Qnpa.P (92 : Nat) ≤ (140737488355328 : Nat))) (ifb (decide ((178 : Nat) = Qs8v) && srtEK (es ++ [Entry.mk n [Fld.mk w m v]])) (some (.ret (.bool true) [.box [.own 1 [] 0, .own 2 [] 0, .own 4 [] 0], .row .kind ks 0 0 0 .no, .row .point ps 0 0 0 .no, .out, .row .entry (sortE (es ++ [Entry.mk n [Fld.mk w m v]])) 1 0 0 .no])) (none)) (none))) (ifb (inb (idxF (fun p => p.name == n) es) es.length) (some (.go (Qu6t Qnpa.fn 10) [.ptr 4 0, .eptr 3 [] 0 2 (Int.toNat (idxF (fun p => p.name == n) es)) 0, .int .i64 ((↑(es.getD (idxF (fun p => p.name == n) es).toNat (Qnpa.C.dflt Ty.entry)).fields.length : Int)), .int .i64 (0 : Int)] [.box [.own 1 [] 0, .own 2 [] 0, .own 3 [] 0], .row .kind ks 0 0 0 .no, .row .point ps 0 0 0 .no, .row .entry es 1 0 0 .no, .box [.int .i64 w, .int .i64 m, .str v]])) (none))) (none) := by kernel_rfl
theorem Qv3c (x0 : Nat) (x1 : Int) (x2 : Int) (x3 : List (El .kind)) (x4 : List (El .point)) (x5 : List (El .entry)) (x6 : Int) (x7 : Int) (x8 : Str) : aRun Qnpa 600 true (Qu6t Qnpa.fn 10) (cutSt Qnpa.fn (Q1m4 Qnpa (Qu6t Qnpa.fn 10)) [.ptr 4 0, .eptr 3 [] 0 2 x0 0, .int .i64 x1, .int .i64 x2] [.box [.own 1 [] 0, .own 2 [] 0, .own 3 [] 0], .row .kind x3 0 0 0 .no, .row .point x4 0 0 0 .no, .row .entry x5 1 0 0 .no, .box [.int .i64 x6, .int .i64 x7, .str x8]]) =
 ifb (decide (x2 < x1)) (ifb (inb x2 (x5.getD x0 (Qnpa.C.dflt Ty.entry)).fields.length) (ifb (((x5.getD x0 (Qnpa.C.dflt Ty.entry)).fields.getD x2.toNat (Qnpa.C.dflt Ty.fld)).what == x6) (ifb (inb x2 (x5.getD x0 (Qnpa.C.dflt Ty.entry)).fields.length) (ifb ((Fld.mk x6 x7 x8).later ((x5.getD x0 (Qnpa.C.dflt Ty.entry)).fields.getD x2.toNat (Qnpa.C.dflt Ty.fld))) (ifb (inb x2 (x5.getD x0 (Qnpa.C.dflt Ty.entry)).fields.length) (some (.ret (.bool true) [.box [.own 1 [] 0, .own 2 [] 0, .own 3 [] 0], .row .kind x3 0 0 0 .no, .row .point x4 0 0 0 .no, .row .entry (x5.set x0 (Entry.mk (x5.getD x0 (Qnpa.C.dflt Ty.entry)).name ((x5.getD x0 (Qnpa.C.dflt Ty.entry)).fields.set x2.toNat (Fld.mk x6 x7 x8)))) 1 0 0 .no])) (none)) (some (.ret (.bool true) [.box [.own 1 [] 0, .own 2 [] 0, .own 3 [] 0], .row .kind x3 0 0 0 .no, .row .point x4 0 0 0 .no, .row .entry x5 1 0 0 .no]))) (none)) (some (.go (Qu6t Qnpa.fn 10) [.ptr 4 0, .eptr 3 [] 0 2 x0 0, .int .i64 x1, .int .i64 (IntKind.i64.wrap (x2 + (1 : Int)))] [.box [.own 1 [] 0, .own 2 [] 0, .own 3 [] 0], .row .kind x3 0 0 0 .no, .row .point x4 0 0 0 .no, .row .entry x5 1 0 0 .no, .box [.int .i64 x6, .int .i64 x7, .str x8]]))) (none)) (ifb (decide (((x5.getD x0 (Qnpa.C.dflt Ty.entry)).fields.length + [Fld.mk x6 x7 x8].length) * Qbhn Qnpa.P (94 : Nat) ≤ (140737488355328 : Nat))) (ifb (decide (x0 = x0)) (ifb (decide ((181 : Nat) = Qy91) && srtFK (((x5.set x0 (Entry.mk (x5.getD x0 (Qnpa.C.dflt Ty.entry)).name [])).set x0 (Entry.mk ((x5.set x0 (Entry.mk (x5.getD x0 (Qnpa.C.dflt Ty.entry)).name [])).getD x0 (Qnpa.C.dflt Ty.entry)).name ((x5.getD x0 (Qnpa.C.dflt Ty.entry)).fields ++ [Fld.mk x6 x7 x8]))).getD x0 (Qnpa.C.dflt Ty.entry)).fields) (some (.ret (.bool true) [.box [.own 1 [] 0, .own 2 [] 0, .own 3 [] 0], .row .kind x3 0 0 0 .no, .row .point x4 0 0 0 .no, .row .entry (((x5.set x0 (Entry.mk (x5.getD x0 (Qnpa.C.dflt Ty.entry)).name [])).set x0 (Entry.mk ((x5.set x0 (Entry.mk (x5.getD x0 (Qnpa.C.dflt Ty.entry)).name [])).getD x0 (Qnpa.C.dflt Ty.entry)).name ((x5.getD x0 (Qnpa.C.dflt Ty.entry)).fields ++ [Fld.mk x6 x7 x8]))).set x0 (Entry.mk (((x5.set x0 (Entry.mk (x5.getD x0 (Qnpa.C.dflt Ty.entry)).name [])).set x0 (Entry.mk ((x5.set x0 (Entry.mk (x5.getD x0 (Qnpa.C.dflt Ty.entry)).name [])).getD x0 (Qnpa.C.dflt Ty.entry)).name ((x5.getD x0 (Qnpa.C.dflt Ty.entry)).fields ++ [Fld.mk x6 x7 x8]))).getD x0 (Qnpa.C.dflt Ty.entry)).name (sortF (((x5.set x0 (Entry.mk (x5.getD x0 (Qnpa.C.dflt Ty.entry)).name [])).set x0 (Entry.mk ((x5.set x0 (Entry.mk (x5.getD x0 (Qnpa.C.dflt Ty.entry)).name [])).getD x0 (Qnpa.C.dflt Ty.entry)).name ((x5.getD x0 (Qnpa.C.dflt Ty.entry)).fields ++ [Fld.mk x6 x7 x8]))).getD x0 (Qnpa.C.dflt Ty.entry)).fields))) 1 0 0 .no])) (none)) (none)) (none)) := by kernel_rfl
theorem Qm9i (ks : List Kind) (ps : List Point) (es : List Entry) (n : Str) (w m : Int) (v : Str) (i : Nat) (hi : i < es.length) (hs : Qvhg (es.getD i (dfltP .entry)).fields) (h5 : (es.getD i (dfltP .entry)).fields.length ≤ 5) (hw1 : ∀ g ∈ (es.getD i (dfltP .entry)).fields, 1 ≤ g.what ∧ g.what ≤ 5) (hw : -1000 ≤ w ∧ w ≤ 1000) : ∀ (d k : Nat), k + d = (es.getD i (dfltP .entry)).fields.length → (∀ g ∈ (es.getD i (dfltP .entry)).fields.take k, g.what ≠ w) →
  Cut Qnpa Qg00 10 [.ptr 4 0, .eptr 3 [] 0 2 i 0, .int .i64 ((es.getD i (dfltP .entry)).fields.length : Int), .int .i64 (k : Int)] [.box [.own 1 [] 0, .own 2 [] 0, .own 3 [] 0], .row .kind ks 0 0 0 .no, .row .point ps 0 0 0 .no, .row .entry es 1 0 0 .no, .box [.int .i64 w, .int .i64 m, .str v]] (.bool true) [.box [.own 1 [] 0, .own 2 [] 0, .own 3 [] 0], .row .kind ks 0 0 0 .no, .row .point ps 0 0 0 .no, .row .entry (es.set i ⟨(es.getD i (dfltP .entry)).name, Qul0 (es.getD i (dfltP .entry)).fields ⟨w, m, v⟩⟩) 1 0 0 .no] := by
 have hb92 : Qbhn Qnpa.P 92 ≤ 256 := of_decide_eq_true (by kernel_rfl)
 have hb94 : Qbhn Qnpa.P 94 ≤ 256 := of_decide_eq_true (by kernel_rfl)
 have hdd : Qnpa.C.dflt Ty.entry = dfltP .entry := rfl
 intro d
 induction d with
 | zero =>
  intro k hk hno
  refine Cut.of Q9op rfl (Qv3c i _ k ks ps es w m v) ?_
  rw [hdd]
  have g1 : ∀ y : Entry, (es.set i y).getD i (dfltP .entry) = y := fun y => by rw [List.getD_eq_getElem?_getD, List.getElem?_set_self hi]; rfl
  simp only [List.set_set, g1]
  generalize es.getD i (dfltP .entry) = e at *
  rw [List.take_of_length_le (by omega)] at hno
  have hK : srtFK (e.fields ++ [⟨w, m, v⟩]) = true := by
   simp only [srtFK, Bool.and_eq_true, decide_eq_true_eq]
   refine ⟨by simp, by simp; omega, ?_, List.all_eq_true.2 fun g hg => ?_⟩
   ·rw [List.map_append, List.nodup_append]
    refine ⟨List.pairwise_map.2 (hs.imp fun {a b} h => by omega), by simp, fun a ha b hb => ?_⟩
    obtain ⟨g, hg, rfl⟩ := List.mem_map.1 ha
    simp only [List.map_cons, List.map_nil, List.mem_singleton] at hb
    subst hb
    exact hno g hg
   ·simp only [inR, Bool.and_eq_true, decide_eq_true_eq]
    rcases List.mem_append.1 hg with hg | hg
    ·have := hw1 g hg; omega
    ·simp only [List.mem_singleton] at hg; subst hg; exact hw
  rw [show decide ((k : Int) < (e.fields.length : Int)) = false from decide_eq_false (by omega), Q1mk hb94 (by first | omega | (simp; omega)), hK]
  simp only [Qd8q, Qk7y, decide_true, Bool.and_true]
  obtain ⟨p1, p2⟩ := Qcsw (e.fields ++ [⟨w, m, v⟩])
  have hf : sortF (e.fields ++ [⟨w, m, v⟩]) = Qul0 e.fields ⟨w, m, v⟩ := Qbxf hs hno p1 p2
  rw [hf]
  exact Sat.ret rfl rfl
 | succ d ih =>
  intro k hk hno
  refine Cut.of Q9op rfl (Qv3c i _ k ks ps es w m v) ?_
  rw [hdd]
  have nx := ih (k + 1) (by omega)
  generalize he : es.getD i (dfltP .entry) = e at *
  generalize hef : e.fields = l at *
  have hlt : k < l.length := by omega
  have hw : IntKind.wrap .i64 ((k : Int) + 1) = ((k + 1 : Nat) : Int) := by rw [Qbrg] <;> omega
  have hw1 : IntKind.wrap .i64 ((k : Int) - 1) = (k : Int) - 1 := by rw [Qbrg] <;> omega
  have hd : l.drop k = l[k] :: l.drop (k + 1) := List.drop_eq_getElem_cons hlt
  have hx : l.getD (k : Int).toNat (Qnpa.C.dflt .fld) = l[k] := by simp [hlt]
  have hin : inb (k : Int) l.length = true := by simp only [inb, Bool.and_eq_true, decide_eq_true_eq]; omega
  have hlo : decide ((k : Int) < (l.length : Int)) = true := decide_eq_true (by omega)
  have htk := List.take_succ_eq_append_getElem hlt
  have hl : (l.take (k + 1)).getLast? = some l[k] := by rw [List.take_succ_eq_append_getElem hlt, List.getLast?_concat]
  rw [hlo, hin, hx, hw]
  simp only [Qd8q]
  by_cases h1 : l[k].what = w
  ·rw [show (l[k].what == w) = true by simp [h1]]
   simp only [Qd8q]
   have hh := Qlnx (f := ⟨w, m, v⟩) hlt hs h1
   cases h3 : Fld.later ⟨w, m, v⟩ l[k] with
   | true =>
    rw [h3, if_pos rfl] at hh
    rw [hh]
    exact Sat.ret rfl rfl
   | false =>
    rw [h3, if_neg (by simp)] at hh
    rw [hh]
    refine Sat.ret rfl ?_
    have : (Entry.mk e.name l) = es.getD i (dfltP .entry) := by rw [he, ← hef]
    rw [this]
    have e2 : es.set i (es.getD i (dfltP .entry)) = es := by
     rw [List.getD_eq_getElem?_getD, List.getElem?_eq_getElem hi]; exact List.set_getElem_self hi
    rw [e2]
  ·rw [show (l[k].what == w) = false by simp [h1]]
   refine Sat.cut (nx (fun g hg => ?_))
   rw [htk] at hg
   rcases List.mem_append.1 hg with hg | hg
   ·exact hno g hg
   ·simp only [List.mem_singleton] at hg; subst hg; exact h1
theorem Qafw (ks : List Kind) (ps : List Point) (es : List Entry) (n : Str) (w m : Int) (v : Str) (hg : layK ks ps es w = true) : Qewq Tryz.prog CP Qg00 [.ptr 0 0, .str n, .agg [.int .i64 w, .int .i64 m, .str v]] [.box [.own 1 [] 0, .own 2 [] 0, .own 3 [] 0], .row .kind ks 0 0 0 .no, .row .point ps 0 0 0 .no, .row .entry es 1 0 0 .no] (.bool (layB es n)) [.box [.own 1 [] 0, .own 2 [] 0, .own 4 [] 0], .row .kind ks 0 0 0 .no, .row .point ps 0 0 0 .no, .out, .row .entry (layF es n ⟨w, m, v⟩) 1 0 0 .no] := by
 simp only [layK, Bool.and_eq_true] at hg
 obtain ⟨hb, hgd, hw⟩ := hg
 simp only [inR, Bool.and_eq_true, decide_eq_true_eq] at hw
 have hb92 : Qbhn Qnpa.P 92 ≤ 256 := of_decide_eq_true (by kernel_rfl)
 have hb94 : Qbhn Qnpa.P 94 ≤ 256 := of_decide_eq_true (by kernel_rfl)
 obtain ⟨h12, hf5⟩ := Qm34 hb
 obtain ⟨hes, hfs⟩ := Qwk3 hb
 have mv : ∀ (b : Bool) (zs : List Entry), Qewq Tryz.prog CP Qg00 [.ptr 0 0, .str n, .agg [.int .i64 w, .int .i64 m, .str v]] [.box [.own 1 [] 0, .own 2 [] 0, .own 3 [] 0], .row .kind ks 0 0 0 .no, .row .point ps 0 0 0 .no, .row .entry es 1 0 0 .no] (.bool b) [.box [.own 1 [] 0, .own 2 [] 0, .own 3 [] 0], .row .kind ks 0 0 0 .no, .row .point ps 0 0 0 .no, .row .entry zs 1 0 0 .no] → Qewq Tryz.prog CP Qg00 [.ptr 0 0, .str n, .agg [.int .i64 w, .int .i64 m, .str v]] [.box [.own 1 [] 0, .own 2 [] 0, .own 3 [] 0], .row .kind ks 0 0 0 .no, .row .point ps 0 0 0 .no, .row .entry es 1 0 0 .no] (.bool b) [.box [.own 1 [] 0, .own 2 [] 0, .own 4 [] 0], .row .kind ks 0 0 0 .no, .row .point ps 0 0 0 .no, .out, .row .entry zs 1 0 0 .no] := fun b zs h => Qewq.moveAt CP_ok h 3 (by simp) (by simp) rfl rfl rfl
 have hlen : decide (es.length < 1000000000) = true := decide_eq_true (by omega)
 by_cases h0 : entIx es n < 0
 ·have hix : decide (idxF (fun p => p.name == n) es < (0 : Int)) = true := decide_eq_true h0
  by_cases h1 : 12 ≤ es.length
  ·have hB : layB es n = false := by simp only [layB, decide_eq_true h0, decide_eq_true h1]; rfl
   have hF : layF es n ⟨w, m, v⟩ = es := by rw [layF, hB]; rfl
   rw [hB, hF]
   refine mv false es (Qewq.of Q9op (by kernel_rfl) (Qqqo ks ps es n w m v) ?_)
   rw [hlen, hix, show decide ((es.length : Int) ≥ 12) = true from decide_eq_true (by omega)]
   exact Sat.ret rfl rfl
  ·have hB : layB es n = true := by simp only [layB, decide_eq_true h0, decide_eq_false h1]; rfl
   have hno := Q853 h0
   have hK : srtEK (es ++ [Entry.mk n [Fld.mk w m v]]) = true := by
    simp only [srtEK, Bool.and_eq_true, decide_eq_true_eq]
    refine ⟨by simp, by simp; omega, ?_⟩
    rw [List.map_append, List.nodup_append]
    refine ⟨List.pairwise_map.2 (hes.imp fun {a b} h e => by rw [e, Qqw5] at h; cases h), by simp, fun a ha b hb => ?_⟩
    obtain ⟨g, hg, rfl⟩ := List.mem_map.1 ha
    simp only [List.map_cons, List.map_nil, List.mem_singleton] at hb
    subst hb
    exact hno g hg
   obtain ⟨p1, p2⟩ := Q2ne (es ++ [Entry.mk n [Fld.mk w m v]])
   have hS : sortE (es ++ [Entry.mk n [Fld.mk w m v]]) = insE es n ⟨w, m, v⟩ := Qbw4 hes hno p1 p2
   have hF : layF es n ⟨w, m, v⟩ = insE es n ⟨w, m, v⟩ := by rw [layF, hB, if_pos rfl, Qk9v (by omega)]
   rw [hB, hF]
   refine Qewq.of Q9op (by kernel_rfl) (Qqqo ks ps es n w m v) ?_
   rw [hlen, hix, show decide ((es.length : Int) ≥ 12) = false from decide_eq_false (by omega), Q1mk hb92 (by first | omega | (simp; omega)), hK, hS]
   exact Sat.ret rfl rfl
 ·have h0' : 0 ≤ entIx es n := by omega
  have hB : layB es n = true := by simp only [layB, decide_eq_false h0]; rfl
  have hF : layF es n ⟨w, m, v⟩ = putF es n ⟨w, m, v⟩ := by rw [layF, hB, if_pos rfl]
  rw [hB, hF, Q5v6 h0']
  refine mv true _ (Qewq.of Q9op (by kernel_rfl) (Qqqo ks ps es n w m v) ?_)
  have hi := Qohw h0'
  have hlt : (entIx es n).toNat < es.length := by have h2 : entIx es n < (es.length : Int) := Q1mf; omega
  have hm := Qhwx h0'
  have hok : ∀ g ∈ (es.getD (entIx es n).toNat (dfltP .entry)).fields, 1 ≤ g.what ∧ g.what ≤ 5 := fun g hg => by
   simp only [Qn0o, Bool.and_eq_true] at hb
   have ho := Qmra es _ hb.2.2 _ hm
   simp only [Q7i7, Bool.and_eq_true] at ho
   exact Q3ut (Qx66 ho.2.2 g hg)
  rw [hlen, show decide (idxF (fun p => p.name == n) es < (0 : Int)) = false from decide_eq_false h0]
  simp only [Qd8q, Qk7y]
  refine Sat.ifb (fun _ => ?_) (fun e => absurd (hi.symm.trans e) (by simp))
  exact Sat.cut (Qm9i ks ps es n w m v _ hlt (hfs _ hm).1 (hf5 _ hm) hok hw (es.getD (entIx es n).toNat (dfltP .entry)).fields.length 0 (by omega) (by simp))
theorem Qtc1 : EntOK Tryz.prog CP Qg00 Q7p0 := by
 refine ⟨⟨Tryz.f98, by kernel_rfl, by kernel_rfl, by kernel_rfl⟩, fun args H res H' h => ?_⟩
 simp only [Q7p0] at h
 split at h
 ·simp only [Option.some.injEq, Prod.mk.injEq] at h
  obtain ⟨hg, rfl, rfl⟩ := h
  exact Qafw _ _ _ _ _ _ _ hg
 ·cases h
end Lx
/- Meanings: a change taken, as the program does it; the answer in memory of its own. -/
namespace Lx
open Go Go.Proofs
def Qy84 : Ent Ty El := ⟨[.ro, .ro], 3, fun a h => match a, h with
 | [.agg [.sl .kind ks, .sl .point ps, .sl .entry es], .agg [.str fl, .int .i64 w, .int .i64 m, .str v]], [] =>
  some (goodB ks ps es && szV v, .tup [.agg [.own 0 [] 0, .own 1 [] 0, .own 2 [] 0], .int .i64 (takeF ks ps es ⟨fl, w, m, v⟩).code], [.row .kind (takeF ks ps es ⟨fl, w, m, v⟩).ks 0 0 0 .no, .row .point (takeF ks ps es ⟨fl, w, m, v⟩).ps 0 0 0 .no, .row .entry (takeF ks ps es ⟨fl, w, m, v⟩).es 1 0 0 .no])
 | _, _ => none⟩
end Lx
/- A change taken, as the program does it. -/
namespace Lx
open Go Go.Proofs
noncomputable def Qch5 : RE Ty El := ⟨Tryz.prog, CP, [(Qaev, Qjv4), (Qlpu, Q2gg), (Q4bs, Qna9), (Qg00, Q7p0)], Tryz.f25, 0, [.agg [.own .kind, .own .point, .own .entry], .any], []⟩
theorem Q8tr : REOK Qch5 Q64l := ⟨CP_ok, (TabOK.cons Qwza (TabOK.cons Qusr (TabOK.cons Q0ms (TabOK.cons Qtc1 Qye1)))), by kernel_rfl, by kernel_rfl⟩
theorem Q004 (ks : List Kind) (ps : List Point) (es : List Entry) (fl : Str) (w m : Int) (v : Str) : aRun Qch5 600 false (body0 Qch5.fn) (Q4gm Qch5.fn [.agg [.sl .kind ks, .sl .point ps, .sl .entry es], .agg [.str fl, .int .i64 w, .int .i64 m, .str v]] []) =
 ifb (szB es) (ifb (!Qn0o ks ps es) (some (.ret (.tup [.agg [.own 0 [] 0, .own 1 [] 0, .own 2 [] 0], .int .i64 (1 : Int)]) [.row .kind [] 0 0 0 .no, .row .point [] 0 0 0 .no, .row .entry [] 1 0 0 .no])) (ifb (Q8cx ks ps es) (ifb (szV v && (decide (ks.length < (1000000000 : Nat)) && decide (ps.length < (1000000000 : Nat)))) (ifb (!Qh2h ks ps fl w m v) (some (.ret (.tup [.agg [.own 0 [] 0, .own 1 [] 0, .own 2 [] 0], .int .i64 (2 : Int)]) [.row .kind ks 0 0 0 .no, .row .point ps 0 0 0 .no, .row .entry es 1 0 0 .no])) (ifb (layK ks ps es w) (ifb (!layB es fl) (some (.ret (.tup [.agg [.own 0 [] 0, .own 1 [] 0, .own 2 [] 0], .int .i64 (3 : Int)]) [.row .kind ks 0 0 0 .no, .row .point ps 0 0 0 .no, .row .entry (layF es fl (Fld.mk w m v)) 1 0 0 .no])) (some (.ret (.tup [.agg [.own 0 [] 0, .own 1 [] 0, .own 2 [] 0], .int .i64 (0 : Int)]) [.row .kind ks 0 0 0 .no, .row .point ps 0 0 0 .no, .row .entry (layF es fl (Fld.mk w m v)) 1 0 0 .no]))) (none))) (none)) (none))) (none) := by kernel_rfl
theorem Qzoi (ks : List Kind) (ps : List Point) (es : List Entry) (fl : Str) (w m : Int) (v : Str) (hg : (goodB ks ps es && szV v) = true) : Qewq Tryz.prog CP Q64l [.agg [.sl .kind ks, .sl .point ps, .sl .entry es], .agg [.str fl, .int .i64 w, .int .i64 m, .str v]] [] (.tup [.agg [.own 0 [] 0, .own 1 [] 0, .own 2 [] 0], .int .i64 (takeF ks ps es ⟨fl, w, m, v⟩).code]) [.row .kind (takeF ks ps es ⟨fl, w, m, v⟩).ks 0 0 0 .no, .row .point (takeF ks ps es ⟨fl, w, m, v⟩).ps 0 0 0 .no, .row .entry (takeF ks ps es ⟨fl, w, m, v⟩).es 1 0 0 .no] := by
 refine Qewq.of Q8tr (by kernel_rfl) (Q004 ks ps es fl w m v) ?_
 simp only [Bool.and_eq_true] at hg
 obtain ⟨g0, g1⟩ := hg
 have g2 := g0
 simp only [goodB, Bool.and_eq_true] at g2
 rw [g2.1, g2.2, g1]
 simp only [Qd8q]
 cases hb : Qn0o ks ps es with
 | false =>
  simp only [Bool.not_false, Qd8q]
  rw [takeF, if_neg (by simp [hb])]
  exact Sat.ret rfl rfl
 | true =>
  simp only [Bool.not_true, Qk7y]
  have hbase : Qib4 ks ps = true := (Qg6k hb).1
  have hlen := hbase
  simp only [Qib4, Bool.and_eq_true, decide_eq_true_eq] at hlen
  rw [takeF, if_pos hb, decide_eq_true (show ks.length < 1000000000 by omega), decide_eq_true (show ps.length < 1000000000 by omega)]
  simp only [Bool.and_self, Qd8q]
  have hcc : Qs7k ks ps ⟨fl, w, m, v⟩ = Qh2h ks ps fl w m v := by simp only [Qs7k, Qh2h, hbase, Bool.true_and]
  cases hc : Qh2h ks ps fl w m v with
  | false =>
   rw [if_neg (by rw [hcc, hc]; simp)]
   exact Sat.ret rfl rfl
  | true =>
   rw [if_pos (hcc.trans hc)]
   have hw : layK ks ps es w = true := by
    simp only [Qh2h, Bool.and_eq_true] at hc
    have := Q3ut hc.2.2
    simp only [layK, hb, g0, inR, Bool.true_and, Bool.and_eq_true, decide_eq_true_eq]; omega
   rw [hw]
   simp only [Bool.not_true, Qd8q, Qk7y]
   by_cases h2 : entIx es fl < 0 ∧ 12 ≤ es.length
   ·have hB : layB es fl = false := by simp only [layB, decide_eq_true h2.1, decide_eq_true h2.2]; rfl
    rw [if_pos h2, layF, hB]
    exact Sat.ret rfl rfl
   ·have hB : layB es fl = true := by
     simp only [layB, Bool.not_eq_true', Bool.and_eq_false_iff, decide_eq_false_iff_not]
     by_cases h3 : entIx es fl < 0
     ·exact .inr (fun h4 => h2 ⟨h3, h4⟩)
     ·exact .inl h3
    rw [if_neg h2, layF, hB]
    exact Sat.ret rfl rfl
theorem Q7d1 : EntOK Tryz.prog CP Q64l Qy84 := by
 refine ⟨⟨Tryz.f25, by kernel_rfl, by kernel_rfl, by kernel_rfl⟩, fun args H res H' h => ?_⟩
 simp only [Qy84] at h
 split at h
 ·simp only [Option.some.injEq, Prod.mk.injEq] at h
  obtain ⟨hg, rfl, rfl⟩ := h
  exact Qzoi _ _ _ _ _ _ _ hg
 ·cases h
end Lx
/- Plain facts: what was said later stays. -/
namespace Lx
open Go Go.Proofs
def wnF : List Entry → Str → Int → Option Fld
 | [], _, _ => none
 | e :: r, n, w => match (if e.name = n then e.fields.find? (fun f => f.what == w) else none) with
  | some f => some f
  | none => wnF r n w
theorem Qxon {n : Str} {w : Int} : ∀ {es : List Entry}, (∀ e ∈ es, e.name ≠ n) → wnF es n w = none
 | [], _ => rfl
 | e :: r, h => by
  rw [wnF, if_neg (h e (List.mem_cons_self ..))]
  exact Qxon (fun x hx => h x (List.mem_cons_of_mem _ hx))
theorem Q9my {n : Str} {w : Int} : ∀ {es : List Entry}, Qurt es → wnF es n w = lk es n w
 | [], _ => rfl
 | e :: r, h => by
  have h' := h
  unfold Qurt at h'
  rw [List.pairwise_cons] at h'
  rw [wnF, Q9h5]
  by_cases hn : e.name = n
  ·rw [if_pos hn, if_pos hn]
   cases hf : e.fields.find? (fun f => f.what == w) with
   | some f => rfl
   | none =>
    exact Qxon (fun x hx e2 => by
     have := h'.1 x hx
     rw [e2, hn, Qqw5] at this; cases this)
  ·rw [if_neg hn, if_neg hn]
   exact Q9my h'.2
theorem Q4l8 {es : List Entry} (hb : Q1re es) {e : Entry} (he : e ∈ es) {f : Fld} (hf : f ∈ e.fields) : lk es e.name f.what = some f := by
 rw [lk, Qe8a hb.1 he]
 exact (Qw35 (hb.2 e he).1 f).1 hf
theorem take_zero {ks : List Kind} {ps : List Point} {es : List Entry} {c : Chg} (h : (takeF ks ps es c).code = 0) : Qn0o ks ps es = true ∧ Qs7k ks ps c = true ∧ ¬ (entIx es c.flight < 0 ∧ 12 ≤ es.length) ∧ takeF ks ps es c = ⟨ks, ps, putF es c.flight ⟨c.what, c.number, c.value⟩, 0⟩ := by
 unfold takeF at h ⊢
 by_cases h1 : Qn0o ks ps es = true
 ·rw [if_pos h1] at h ⊢
  by_cases h2 : Qs7k ks ps c = true
  ·rw [if_pos h2] at h ⊢
   by_cases h3 : entIx es c.flight < 0 ∧ 12 ≤ es.length
   ·rw [if_pos h3] at h; cases h
   ·rw [if_neg h3]; exact ⟨h1, h2, h3, rfl⟩
  ·rw [if_neg h2] at h; cases h
 ·rw [if_neg h1] at h; cases h
theorem Q5s9 {es : List Entry} {n : Str} {w : Int} (h : lk es n w ≠ none) : ¬ entIx es n < 0 := fun h0 => h (Q8ex (Q853 h0) w)
theorem Qs5r {ks : List Kind} {ps : List Point} {es : List Entry} {c : Chg} (h : (takeF ks ps es c).code = 0) : takeF ks ps (takeF ks ps es c).es c = takeF ks ps es c := by
 obtain ⟨h1, h2, h3, e⟩ := take_zero h
 have hs := Qwk3 h1
 have hx := (Qdgy (c := c) h1).2.2
 rw [e] at hx ⊢
 simp only at hx ⊢
 rw [Qsz7 _ _ hs.1] at hx ⊢
 have hs2 := Qujd c.flight ⟨c.what, c.number, c.value⟩ hs
 have hix : ¬ (entIx (putS es c.flight ⟨c.what, c.number, c.value⟩) c.flight < 0 ∧ 12 ≤ (putS es c.flight ⟨c.what, c.number, c.value⟩).length) := fun hh => by
  refine Q5s9 (w := c.what) ?_ hh.1
  rw [Qqy6 _ _ _ _ hs, if_pos ⟨rfl, rfl⟩]; simp
 rw [takeF, if_pos hx, if_pos h2, if_neg hix, Qsz7 _ _ hs2.1, Qsi3 hs]
theorem Q0io {ks : List Kind} {ps : List Point} {es : List Entry} {c : Chg} (h : (takeF ks ps es c).code = 0) {e : Entry} (he : e ∈ es) {f : Fld} (hf : f ∈ e.fields) :
  ∃ g, wnF (takeF ks ps es c).es e.name f.what = some g ∧ (g = f ∨ (e.name = c.flight ∧ f.what = c.what ∧ g = ⟨c.what, c.number, c.value⟩ ∧ f.number ≤ c.number)) := by
 obtain ⟨h1, h2, h3, e1⟩ := take_zero h
 have hs := Qwk3 h1
 have hl := Q4l8 hs he hf
 rw [e1]
 simp only
 rw [Qsz7 _ _ hs.1, Q9my (Qujd _ _ hs).1, Qqy6 _ _ _ _ hs]
 by_cases hc : e.name = c.flight ∧ f.what = c.what
 ·have hl' : lk es c.flight f.what = some f := by rw [← hc.1]; exact hl
  rw [if_pos hc, hl']
  refine ⟨_, rfl, ?_⟩
  by_cases hlt : Fld.later ⟨c.what, c.number, c.value⟩ f = true
  ·right
   rw [Qba1 hlt]
   refine ⟨hc.1, hc.2, rfl, ?_⟩
   unfold Fld.later at hlt
   split at hlt
   ·rename_i e2; simp only at e2; omega
   ·have := of_decide_eq_true hlt; simp only at this; omega
  ·left; exact Qqr0 hlt
 ·rw [if_neg hc]
  exact ⟨f, hl, .inl rfl⟩
end Lx
/- Meanings: changes spoilt; the laws' comparisons. -/
namespace Lx
open Go Go.Proofs
noncomputable def dSpC (bs : List Int) (p : Int) (c : Chg) : ChgP := drawn (fun x => Qewq Tryz.prog CP Qpj2 [.ptr 0 0, .agg [.str c.flight, .int .i64 c.what, .int .i64 c.number, .str c.value]] [.box [.sl .u8 bs, .int .i64 p]] (.agg [.str x.c.flight, .int .i64 x.c.what, .int .i64 x.c.number, .str x.c.value]) [.box [.sl .u8 bs, .int .i64 x.p]] ∧ Qi1t p x)
def spcK (bs : List Int) (p : Int) (v : Str) : Bool := Qf9o bs && (decide (0 ≤ p) && (decide (p ≤ 890000) && szV v))
noncomputable def Qxsi : Ent Ty El := ⟨[.io, .ro], 0, fun a h => match a, h with
 | [.ptr 0 0, .agg [.str fl, .int .i64 w, .int .i64 n, .str v]], [.box [.sl .u8 bs, .int .i64 p]] => some (spcK bs p v, .agg [.str (dSpC bs p ⟨fl, w, n, v⟩).c.flight, .int .i64 (dSpC bs p ⟨fl, w, n, v⟩).c.what, .int .i64 (dSpC bs p ⟨fl, w, n, v⟩).c.number, .str (dSpC bs p ⟨fl, w, n, v⟩).c.value], [.box [.sl .u8 bs, .int .i64 (dSpC bs p ⟨fl, w, n, v⟩).p]])
 | _, _ => none⟩
def sameK (ks ks' : List Kind) (ps ps' : List Point) : Bool := (decide (ks.length ≤ 1000000000) && decide (ps.length ≤ 1000000000)) && (decide (ks = ks') && decide (ps = ps'))
def Q2xe (ks ks' : List Kind) (ps ps' : List Point) (es es' : List Entry) : Bool := sameK ks ks' ps ps' && (Qnwa es && decide (es = es'))
def Qdkm : Ent Ty El := ⟨[.ro, .ro], 0, fun a h => match a, h with
 | [.agg [.sl .kind ks, .sl .point ps], .agg [.sl .kind ks', .sl .point ps']], [] => some (sameK ks ks' ps ps', .bool true, [])
 | _, _ => none⟩
def Qz24 : Ent Ty El := ⟨[.ro, .ro], 0, fun a h => match a, h with
 | [.agg [.sl .kind ks, .sl .point ps, .sl .entry es], .agg [.sl .kind ks', .sl .point ps', .sl .entry es']], [] => some (Q2xe ks ks' ps ps' es es', .bool true, [])
 | [.agg [.sl .kind ks, .sl .point ps, .sl .entry es], .agg [.nils, .nils, .nils]], [] => some (Q2xe ks [] ps [] es [], .bool true, [])
 | _, _ => none⟩
def Q5b3 : Ent Ty El := ⟨[.ro, .ro, .ro], 0, fun a h => match a, h with
 | [.agg [.sl .kind ks, .sl .point ps, .sl .entry es], .str n, .int .i64 w], [] => some (Qnwa es, .tup [.agg [.int .i64 ((wnF es n w).getD fld0).what, .int .i64 ((wnF es n w).getD fld0).number, .str ((wnF es n w).getD fld0).value], .bool (wnF es n w).isSome], [])
 | _, _ => none⟩
end Lx
/- Changes spoilt; comparisons. -/
namespace Lx
open Go Go.Proofs
noncomputable def Q6fp : RE Ty El := ⟨Tryz.prog, CP, [(Qpxs, Q7v2), (Qchm, Q2vb), (Q1eg, Qvc4), (Q0nv, Qwn9)], Tryz.f91, 1, [], []⟩
theorem Qi6u : REOK Q6fp Qpj2 := ⟨CP_ok, (TabOK.cons Q0e7 (TabOK.cons Qyvd (TabOK.cons Q8hv (TabOK.cons Q83y Qye1)))), by kernel_rfl, by kernel_rfl⟩
theorem Q2cc (bs : List Int) (p : Int) (fl : Str) (w n : Int) (v : Str) : aRun Q6fp 600 false (body0 Q6fp.fn) (Q4gm Q6fp.fn [.ptr 0 0, .agg [.str fl, .int .i64 w, .int .i64 n, .str v]] [.box [.sl .u8 bs, .int .i64 p]]) =
 ifb (posOk p) (ifb (pickV bs p (5 : Int) == (0 : Int)) (ifb (posOk (p + (1 : Int))) (ifb (decide (#[(102 : UInt8)].toList.length ≤ (1 : Nat)) && decide (IntKind.i64.wrap ((8 : Int) + pickV bs (p + (1 : Int)) (2 : Int)) < (64 : Int))) (ifb (rdOk bs (p + (1 : Int) + (1 : Int)) && decide ((0 : Nat) < [#[].toList, #[(75 : UInt8)].toList, dMany #[(102 : UInt8)].toList (IntKind.i64.wrap ((8 : Int) + pickV bs (p + (1 : Int)) (2 : Int)))].length)) (some (.ret (.agg [.str (ofV bs (p + (1 : Int) + (1 : Int)) [#[].toList, #[(75 : UInt8)].toList, dMany #[(102 : UInt8)].toList (IntKind.i64.wrap ((8 : Int) + pickV bs (p + (1 : Int)) (2 : Int)))]), .int .i64 w, .int .i64 n, .str v]) [.box [.sl .u8 bs, .int .i64 (p + (1 : Int) + (1 : Int) + (1 : Int))]])) (none)) (none)) (none)) (ifb (pickV bs p (5 : Int) == (1 : Int)) (ifb (posOk (p + (1 : Int))) (some (.ret (.agg [.str fl, .int .i64 (IntKind.i64.wrap (pickV bs (p + (1 : Int)) (8 : Int) - (1 : Int))), .int .i64 n, .str v]) [.box [.sl .u8 bs, .int .i64 (p + (1 : Int) + (1 : Int))]])) (none)) (ifb (pickV bs p (5 : Int) == (2 : Int)) (ifb (posOk (p + (1 : Int))) (ifb (inb (pickV bs (p + (1 : Int)) (4 : Int)) [(0 : Int), (-1 : Int), (1000000 : Int), (1000001 : Int)].length) (some (.ret (.agg [.str fl, .int .i64 w, .int .i64 ([(0 : Int), (-1 : Int), (1000000 : Int), (1000001 : Int)].getD (pickV bs (p + (1 : Int)) (4 : Int)).toNat (Q6fp.C.dflt Ty.int)), .str v]) [.box [.sl .u8 bs, .int .i64 (p + (1 : Int) + (1 : Int))]])) (none)) (none)) (ifb (rdOk bs (p + (1 : Int))) (some (.ret (.agg [.str fl, .int .i64 w, .int .i64 n, .str (ofV bs (p + (1 : Int)) bad12)]) [.box [.sl .u8 bs, .int .i64 (p + (1 : Int) + (1 : Int))]])) (none))))) (none) := by kernel_rfl
theorem Q395 {bs : List Int} {p q w n : Int} {f v : Str} (h1 : szV v = true) (h2 : p ≤ q) (h3 : q ≤ p + 30) : ∃ x : ChgP, (AV.agg [.str f, .int .i64 w, .int .i64 n, .str v] : AV Ty El) = (.agg [.str x.c.flight, .int .i64 x.c.what, .int .i64 x.c.number, .str x.c.value]) ∧ ([.box [.sl .u8 bs, .int .i64 q]] : List (AObj Ty El)) = [.box [.sl .u8 bs, .int .i64 x.p]] ∧ Qi1t p x := ⟨⟨⟨f, w, n, v⟩, q⟩, rfl, rfl, h1, h2, h3⟩
theorem Qz1w (bs : List Int) (p : Int) (fl : Str) (w n : Int) (v : Str) (hg : spcK bs p v = true) : Qewq Tryz.prog CP Qpj2 [.ptr 0 0, .agg [.str fl, .int .i64 w, .int .i64 n, .str v]] [.box [.sl .u8 bs, .int .i64 p]] (.agg [.str (dSpC bs p ⟨fl, w, n, v⟩).c.flight, .int .i64 (dSpC bs p ⟨fl, w, n, v⟩).c.what, .int .i64 (dSpC bs p ⟨fl, w, n, v⟩).c.number, .str (dSpC bs p ⟨fl, w, n, v⟩).c.value]) [.box [.sl .u8 bs, .int .i64 (dSpC bs p ⟨fl, w, n, v⟩).p]] ∧ Qi1t p (dSpC bs p ⟨fl, w, n, v⟩) := by
 simp only [spcK, Bool.and_eq_true, decide_eq_true_eq] at hg
 obtain ⟨hbs, h0, h9, hv⟩ := hg
 have ps0 : ∀ (q : Int), p ≤ q → q ≤ p + 10 → posOk q = true := fun q h2 h3 => Q8s4 (by omega) (by omega)
 have pk : ∀ (q n : Int), p ≤ q → q ≤ p + 10 → 1 ≤ n → 0 ≤ pickV bs q n ∧ pickV bs q n < n := fun q n h2 h3 h4 => Q5va hbs (ps0 q h2 h3) h4
 have rd0 : ∀ (q : Int), p ≤ q → q ≤ p + 10 → rdOk bs q = true := fun q h2 h3 => by rw [rdOk, hbs, ps0 q h2 h3]; rfl
 have hE : CallE Q6fp.P Q6fp.C Qpj2 [.ptr 0 0, .agg [.str fl, .int .i64 w, .int .i64 n, .str v]] [.box [.sl .u8 bs, .int .i64 p]] (fun v h => ∃ x : ChgP, v = (.agg [.str x.c.flight, .int .i64 x.c.what, .int .i64 x.c.number, .str x.c.value]) ∧ h = [.box [.sl .u8 bs, .int .i64 x.p]] ∧ Qi1t p x) := by
  refine CallE.of Qi6u (by kernel_rfl) (Q2cc bs p fl w n v) ?_
  refine SatE.need (ps0 _ (by omega) (by omega)) (SatE.ifb (fun _ => ?_) (fun _ => SatE.ifb (fun _ => ?_) (fun _ => SatE.ifb (fun _ => ?_) (fun _ => ?_))))
  ·obtain ⟨a1, a2⟩ := pk (p + 1) 2 (by omega) (by omega) (by omega)
   have hw : IntKind.i64.wrap (8 + pickV bs (p + 1) 2) = 8 + pickV bs (p + 1) 2 := Qbrg (by omega) (by omega)
   rw [hw]
   exact SatE.need (ps0 _ (by omega) (by omega)) (SatE.need (by rw [Bool.and_eq_true]; exact ⟨decide_eq_true (by simp), decide_eq_true (by omega)⟩) (SatE.need (by rw [rd0 _ (by omega) (by omega)]; rfl) (SatE.ret (Q395 hv (by omega) (by omega)))))
  ·exact SatE.need (ps0 _ (by omega) (by omega)) (SatE.ret (Q395 hv (by omega) (by omega)))
  ·have hi : inb (pickV bs (p + 1) 4) [(0 : Int), (-1 : Int), (1000000 : Int), (1000001 : Int)].length = true := inbL (pk (p + 1) 4 (by omega) (by omega) (by omega))
   exact SatE.need (ps0 _ (by omega) (by omega)) (SatE.need hi (SatE.ret (Q395 hv (by omega) (by omega))))
  ·exact SatE.need (rd0 _ (by omega) (by omega)) (SatE.ret (Q395 (decide_eq_true (Nat.le_trans (Qgo3 (M := 100) (by rfl)) (by omega))) (by omega) (by omega)))
 obtain ⟨v', H', h, x, rfl, rfl, hx⟩ := hE
 unfold dSpC
 exact Qk78 (p := fun x : ChgP => Qewq Tryz.prog CP Qpj2 [.ptr 0 0, .agg [.str fl, .int .i64 w, .int .i64 n, .str v]] [.box [.sl .u8 bs, .int .i64 p]] (.agg [.str x.c.flight, .int .i64 x.c.what, .int .i64 x.c.number, .str x.c.value]) [.box [.sl .u8 bs, .int .i64 x.p]] ∧ Qi1t p x) ⟨x, h, hx⟩
theorem Q1qe (bs : List Int) (p : Int) (fl : Str) (w n : Int) (v : Str) (hg : spcK bs p v = true) : Qewq Tryz.prog CP Qpj2 [.ptr 0 0, .agg [.str fl, .int .i64 w, .int .i64 n, .str v]] [.box [.sl .u8 bs, .int .i64 p]] (.agg [.str (dSpC bs p ⟨fl, w, n, v⟩).c.flight, .int .i64 (dSpC bs p ⟨fl, w, n, v⟩).c.what, .int .i64 (dSpC bs p ⟨fl, w, n, v⟩).c.number, .str (dSpC bs p ⟨fl, w, n, v⟩).c.value]) [.box [.sl .u8 bs, .int .i64 (dSpC bs p ⟨fl, w, n, v⟩).p]] := by
 exact (Qz1w bs p fl w n v hg).1
theorem Qie6 : EntOK Tryz.prog CP Qpj2 Qxsi := by
 refine ⟨⟨Tryz.f91, by kernel_rfl, by kernel_rfl, by kernel_rfl⟩, fun args H res H' h => ?_⟩
 simp only [Qxsi] at h
 split at h
 ·simp only [Option.some.injEq, Prod.mk.injEq] at h
  obtain ⟨hg, rfl, rfl⟩ := h
  exact Q1qe _ _ _ _ _ _ hg
 ·cases h

noncomputable def Q08f : RE Ty El := ⟨Tryz.prog, CP, [], Tryz.f140, 0, [], [(4, [(2, .any), (3, .any), (5, .any)]), (9, [(2, .any), (3, .any), (6, .any)])]⟩
theorem Qcbr : REOK Q08f Qq3w := ⟨CP_ok, Qye1, by kernel_rfl, by kernel_rfl⟩
theorem Q0nu (ks ks' : List Kind) (ps ps' : List Point) : aRun Q08f 600 false (body0 Q08f.fn) (Q4gm Q08f.fn [.agg [.sl .kind ks, .sl .point ps], .agg [.sl .kind ks', .sl .point ps']] []) =
 ifb ((↑ks.length : Int) != (↑ks'.length : Int)) (some (.ret (.bool false) [])) (ifb ((↑ps.length : Int) != (↑ps'.length : Int)) (some (.ret (.bool false) [])) (some (.go (Qu6t Q08f.fn 4) [.ptr 0 0, .ptr 1 0, .int .i64 (0 : Int)] [.box [.sl .kind ks, .sl .point ps], .box [.sl .kind ks', .sl .point ps']]))) := by kernel_rfl
theorem Qmrs (x0 : Int) (x1 : List (El .kind)) (x2 : List (El .point)) (x3 : List (El .kind)) (x4 : List (El .point)) : aRun Q08f 600 true (Qu6t Q08f.fn 4) (cutSt Q08f.fn (Q1m4 Q08f (Qu6t Q08f.fn 4)) [.ptr 0 0, .ptr 1 0, .int .i64 x0] [.box [.sl .kind x1, .sl .point x2], .box [.sl .kind x3, .sl .point x4]]) =
 ifb (decide (x0 < (↑x1.length : Int))) (ifb (inb x0 x1.length) (ifb (inb x0 x3.length) (ifb (!((x1.getD x0.toNat (Q08f.C.dflt Ty.kind)).name == (x3.getD x0.toNat (Q08f.C.dflt Ty.kind)).name && ((x1.getD x0.toNat (Q08f.C.dflt Ty.kind)).quick == (x3.getD x0.toNat (Q08f.C.dflt Ty.kind)).quick && ((x1.getD x0.toNat (Q08f.C.dflt Ty.kind)).slow == (x3.getD x0.toNat (Q08f.C.dflt Ty.kind)).slow && true)))) (some (.ret (.bool false) [])) (some (.go (Qu6t Q08f.fn 4) [.ptr 0 0, .ptr 1 0, .int .i64 (IntKind.i64.wrap (x0 + (1 : Int)))] [.box [.sl .kind x1, .sl .point x2], .box [.sl .kind x3, .sl .point x4]]))) (none)) (none)) (some (.go (Qu6t Q08f.fn 9) [.ptr 0 0, .ptr 1 0, .int .i64 (0 : Int)] [.box [.sl .kind x1, .sl .point x2], .box [.sl .kind x3, .sl .point x4]])) := by kernel_rfl
theorem Q0m7 (x0 : Int) (x1 : List (El .kind)) (x2 : List (El .point)) (x3 : List (El .kind)) (x4 : List (El .point)) : aRun Q08f 600 true (Qu6t Q08f.fn 9) (cutSt Q08f.fn (Q1m4 Q08f (Qu6t Q08f.fn 9)) [.ptr 0 0, .ptr 1 0, .int .i64 x0] [.box [.sl .kind x1, .sl .point x2], .box [.sl .kind x3, .sl .point x4]]) =
 ifb (decide (x0 < (↑x2.length : Int))) (ifb (inb x0 x2.length) (ifb (inb x0 x4.length) (ifb (!((x2.getD x0.toNat (Q08f.C.dflt Ty.point)).name == (x4.getD x0.toNat (Q08f.C.dflt Ty.point)).name && ((x2.getD x0.toNat (Q08f.C.dflt Ty.point)).x == (x4.getD x0.toNat (Q08f.C.dflt Ty.point)).x && ((x2.getD x0.toNat (Q08f.C.dflt Ty.point)).y == (x4.getD x0.toNat (Q08f.C.dflt Ty.point)).y && true)))) (some (.ret (.bool false) [])) (some (.go (Qu6t Q08f.fn 9) [.ptr 0 0, .ptr 1 0, .int .i64 (IntKind.i64.wrap (x0 + (1 : Int)))] [.box [.sl .kind x1, .sl .point x2], .box [.sl .kind x3, .sl .point x4]]))) (none)) (none)) (some (.ret (.bool true) [])) := by kernel_rfl
theorem Qfuj (ks : List Kind) (ps : List Point) (g1 : ks.length ≤ 1000000000) (g2 : ps.length ≤ 1000000000) : ∀ (d i : Nat), i + d = ps.length → Cut Q08f Qq3w 9 [.ptr 0 0, .ptr 1 0, .int .i64 (i : Int)] [.box [.sl .kind ks, .sl .point ps], .box [.sl .kind ks, .sl .point ps]] (.bool true) [] := by
 intro d
 induction d with
 | zero =>
  intro i hi
  refine Cut.of Qcbr rfl (Q0m7 i ks ps ks ps) ?_
  rw [show decide ((i : Int) < (ps.length : Int)) = false from decide_eq_false (by omega)]
  exact Sat.ret rfl rfl
 | succ d ih =>
  intro i hi
  refine Cut.of Qcbr rfl (Q0m7 i ks ps ks ps) ?_
  have hlt : i < ps.length := by omega
  have hw : IntKind.wrap .i64 ((i : Int) + 1) = ((i + 1 : Nat) : Int) := by rw [Qbrg] <;> omega
  have hw1 : IntKind.wrap .i64 ((i : Int) - 1) = (i : Int) - 1 := by rw [Qbrg] <;> omega
  have hd : ps.drop i = ps[i] :: ps.drop (i + 1) := List.drop_eq_getElem_cons hlt
  have hx : ps.getD (i : Int).toNat (Q08f.C.dflt .point) = ps[i] := by simp [hlt]
  have hin : inb (i : Int) ps.length = true := by simp only [inb, Bool.and_eq_true, decide_eq_true_eq]; omega
  have hlo : decide ((i : Int) < (ps.length : Int)) = true := decide_eq_true (by omega)
  have htk := List.take_succ_eq_append_getElem hlt
  have hl : (ps.take (i + 1)).getLast? = some ps[i] := by rw [List.take_succ_eq_append_getElem hlt, List.getLast?_concat]
  rw [hlo, hin, hx, hw]
  simp only [Qd8q, beq_self_eq_true, Bool.and_self, Bool.not_true, Qk7y]
  exact Sat.cut (ih (i + 1) (by omega))
theorem Q2g7 (ks : List Kind) (ps : List Point) (g1 : ks.length ≤ 1000000000) (g2 : ps.length ≤ 1000000000) : ∀ (d i : Nat), i + d = ks.length → Cut Q08f Qq3w 4 [.ptr 0 0, .ptr 1 0, .int .i64 (i : Int)] [.box [.sl .kind ks, .sl .point ps], .box [.sl .kind ks, .sl .point ps]] (.bool true) [] := by
 intro d
 induction d with
 | zero =>
  intro i hi
  refine Cut.of Qcbr rfl (Qmrs i ks ps ks ps) ?_
  rw [show decide ((i : Int) < (ks.length : Int)) = false from decide_eq_false (by omega)]
  exact Sat.cut (Qfuj ks ps g1 g2 ps.length 0 (by omega))
 | succ d ih =>
  intro i hi
  refine Cut.of Qcbr rfl (Qmrs i ks ps ks ps) ?_
  have hlt : i < ks.length := by omega
  have hw : IntKind.wrap .i64 ((i : Int) + 1) = ((i + 1 : Nat) : Int) := by rw [Qbrg] <;> omega
  have hw1 : IntKind.wrap .i64 ((i : Int) - 1) = (i : Int) - 1 := by rw [Qbrg] <;> omega
  have hd : ks.drop i = ks[i] :: ks.drop (i + 1) := List.drop_eq_getElem_cons hlt
  have hx : ks.getD (i : Int).toNat (Q08f.C.dflt .kind) = ks[i] := by simp [hlt]
  have hin : inb (i : Int) ks.length = true := by simp only [inb, Bool.and_eq_true, decide_eq_true_eq]; omega
  have hlo : decide ((i : Int) < (ks.length : Int)) = true := decide_eq_true (by omega)
  have htk := List.take_succ_eq_append_getElem hlt
  have hl : (ks.take (i + 1)).getLast? = some ks[i] := by rw [List.take_succ_eq_append_getElem hlt, List.getLast?_concat]
  rw [hlo, hin, hx, hw]
  simp only [Qd8q, beq_self_eq_true, Bool.and_self, Bool.not_true, Qk7y]
  exact Sat.cut (ih (i + 1) (by omega))

theorem Qbnm (ks ks' : List Kind) (ps ps' : List Point) (hg : sameK ks ks' ps ps' = true) : Qewq Tryz.prog CP Qq3w [.agg [.sl .kind ks, .sl .point ps], .agg [.sl .kind ks', .sl .point ps']] [] (.bool true) [] := by
 refine Qewq.of Qcbr (by kernel_rfl) (Q0nu ks ks' ps ps') ?_
 simp only [sameK, Bool.and_eq_true, decide_eq_true_eq] at hg
 obtain ⟨⟨g1, g2⟩, rfl, rfl⟩ := hg
 simp only [bne_self_eq_false, Qk7y]
 exact Sat.cut (Q2g7 ks ps g1 g2 ks.length 0 (by omega))
theorem Qvay : EntOK Tryz.prog CP Qq3w Qdkm := by
 refine ⟨⟨Tryz.f140, by kernel_rfl, by kernel_rfl, by kernel_rfl⟩, fun args H res H' h => ?_⟩
 simp only [Qdkm] at h
 split at h
 ·simp only [Option.some.injEq, Prod.mk.injEq] at h
  obtain ⟨hg, rfl, rfl⟩ := h
  exact Qbnm _ _ _ _ hg
 ·cases h

noncomputable def Q0bx : RE Ty El := ⟨Tryz.prog, CP, [(Qq3w, Qdkm)], Tryz.f47, 0, [], [(4, [(2, .any), (3, .any), (5, .any)]), (9, [(2, .any), (3, .any), (5, .any), (6, .any)])]⟩
theorem Q17e : REOK Q0bx Q5ho := ⟨CP_ok, (TabOK.cons Qvay Qye1), by kernel_rfl, by kernel_rfl⟩
theorem Q4xw (ks ks' : List Kind) (ps ps' : List Point) (es es' : List Entry) : aRun Q0bx 600 false (body0 Q0bx.fn) (Q4gm Q0bx.fn [.agg [.sl .kind ks, .sl .point ps, .sl .entry es], .agg [.sl .kind ks', .sl .point ps', .sl .entry es']] []) =
 ifb (sameK ks ks' ps ps') (ifb ((↑es.length : Int) != (↑es'.length : Int)) (some (.ret (.bool false) [])) (some (.go (Qu6t Q0bx.fn 4) [.ptr 0 0, .ptr 1 0, .int .i64 (0 : Int)] [.box [.sl .kind ks, .sl .point ps, .sl .entry es], .box [.sl .kind ks', .sl .point ps', .sl .entry es']]))) (none) := by kernel_rfl
theorem Qh8x (x0 : Int) (x1 : List (El .kind)) (x2 : List (El .point)) (x3 : List (El .entry)) (x4 : List (El .kind)) (x5 : List (El .point)) (x6 : List (El .entry)) : aRun Q0bx 600 true (Qu6t Q0bx.fn 4) (cutSt Q0bx.fn (Q1m4 Q0bx (Qu6t Q0bx.fn 4)) [.ptr 0 0, .ptr 1 0, .int .i64 x0] [.box [.sl .kind x1, .sl .point x2, .sl .entry x3], .box [.sl .kind x4, .sl .point x5, .sl .entry x6]]) =
 ifb (decide (x0 < (↑x3.length : Int))) (ifb (inb x0 x3.length) (ifb (inb x0 x6.length) (ifb (!(x3.getD x0.toNat (Q0bx.C.dflt Ty.entry)).name == (x6.getD x0.toNat (Q0bx.C.dflt Ty.entry)).name) (some (.ret (.bool false) [])) (ifb (inb x0 x3.length) (ifb (inb x0 x6.length) (ifb ((↑(x3.getD x0.toNat (Q0bx.C.dflt Ty.entry)).fields.length : Int) != (↑(x6.getD x0.toNat (Q0bx.C.dflt Ty.entry)).fields.length : Int)) (some (.ret (.bool false) [])) (some (.go (Qu6t Q0bx.fn 9) [.ptr 0 0, .ptr 1 0, .int .i64 x0, .int .i64 (0 : Int)] [.box [.sl .kind x1, .sl .point x2, .sl .entry x3], .box [.sl .kind x4, .sl .point x5, .sl .entry x6]]))) (none)) (none))) (none)) (none)) (some (.ret (.bool true) [])) := by kernel_rfl
theorem Qlhg (x0 : Int) (x1 : Int) (x2 : List (El .kind)) (x3 : List (El .point)) (x4 : List (El .entry)) (x5 : List (El .kind)) (x6 : List (El .point)) (x7 : List (El .entry)) : aRun Q0bx 600 true (Qu6t Q0bx.fn 9) (cutSt Q0bx.fn (Q1m4 Q0bx (Qu6t Q0bx.fn 9)) [.ptr 0 0, .ptr 1 0, .int .i64 x0, .int .i64 x1] [.box [.sl .kind x2, .sl .point x3, .sl .entry x4], .box [.sl .kind x5, .sl .point x6, .sl .entry x7]]) =
 ifb (inb x0 x4.length) (ifb (decide (x1 < (↑(x4.getD x0.toNat (Q0bx.C.dflt Ty.entry)).fields.length : Int))) (ifb (inb x0 x4.length) (ifb (inb x1 (x4.getD x0.toNat (Q0bx.C.dflt Ty.entry)).fields.length) (ifb (inb x0 x7.length) (ifb (inb x1 (x7.getD x0.toNat (Q0bx.C.dflt Ty.entry)).fields.length) (ifb (!(((x4.getD x0.toNat (Q0bx.C.dflt Ty.entry)).fields.getD x1.toNat (Q0bx.C.dflt Ty.fld)).what == ((x7.getD x0.toNat (Q0bx.C.dflt Ty.entry)).fields.getD x1.toNat (Q0bx.C.dflt Ty.fld)).what && (((x4.getD x0.toNat (Q0bx.C.dflt Ty.entry)).fields.getD x1.toNat (Q0bx.C.dflt Ty.fld)).number == ((x7.getD x0.toNat (Q0bx.C.dflt Ty.entry)).fields.getD x1.toNat (Q0bx.C.dflt Ty.fld)).number && (((x4.getD x0.toNat (Q0bx.C.dflt Ty.entry)).fields.getD x1.toNat (Q0bx.C.dflt Ty.fld)).value == ((x7.getD x0.toNat (Q0bx.C.dflt Ty.entry)).fields.getD x1.toNat (Q0bx.C.dflt Ty.fld)).value && true)))) (some (.ret (.bool false) [])) (some (.go (Qu6t Q0bx.fn 9) [.ptr 0 0, .ptr 1 0, .int .i64 x0, .int .i64 (IntKind.i64.wrap (x1 + (1 : Int)))] [.box [.sl .kind x2, .sl .point x3, .sl .entry x4], .box [.sl .kind x5, .sl .point x6, .sl .entry x7]]))) (none)) (none)) (none)) (none)) (some (.go (Qu6t Q0bx.fn 4) [.ptr 0 0, .ptr 1 0, .int .i64 (IntKind.i64.wrap (x0 + (1 : Int)))] [.box [.sl .kind x2, .sl .point x3, .sl .entry x4], .box [.sl .kind x5, .sl .point x6, .sl .entry x7]]))) (none) := by kernel_rfl
theorem Qdqt (ks : List Kind) (ps : List Point) (es : List Entry) (i : Nat) (hlt : i < es.length) (g5 : es[i].fields.length ≤ 1000000000) (g3 : es.length ≤ 1000000000) (nx : Cut Q0bx Q5ho 4 [.ptr 0 0, .ptr 1 0, .int .i64 ((i + 1 : Nat) : Int)] [.box [.sl .kind ks, .sl .point ps, .sl .entry es], .box [.sl .kind ks, .sl .point ps, .sl .entry es]] (.bool true) []) : ∀ (d k : Nat), k + d = es[i].fields.length → Cut Q0bx Q5ho 9 [.ptr 0 0, .ptr 1 0, .int .i64 (i : Int), .int .i64 (k : Int)] [.box [.sl .kind ks, .sl .point ps, .sl .entry es], .box [.sl .kind ks, .sl .point ps, .sl .entry es]] (.bool true) [] := by
 have hxe : es.getD (i : Int).toNat (Q0bx.C.dflt .entry) = es[i] := by simp [hlt]
 have hie : inb (i : Int) es.length = true := by simp only [inb, Bool.and_eq_true, decide_eq_true_eq]; omega
 have hwe : IntKind.wrap .i64 ((i : Int) + 1) = ((i + 1 : Nat) : Int) := by rw [Qbrg] <;> omega
 intro d
 induction d with
 | zero =>
  intro k hk
  refine Cut.of Q17e rfl (Qlhg i k ks ps es ks ps es) ?_
  rw [hxe, hie, hwe, show decide ((k : Int) < (es[i].fields.length : Int)) = false from decide_eq_false (by omega)]
  exact Sat.cut nx
 | succ d ih =>
  intro k hk
  refine Cut.of Q17e rfl (Qlhg i k ks ps es ks ps es) ?_
  have n2 := ih (k + 1) (by omega)
  rw [hxe, hie]
  generalize es[i].fields = l at *
  have hlt2 : k < l.length := by omega
  have hw2 : IntKind.wrap .i64 ((k : Int) + 1) = ((k + 1 : Nat) : Int) := by rw [Qbrg] <;> omega
  have hw12 : IntKind.wrap .i64 ((k : Int) - 1) = (k : Int) - 1 := by rw [Qbrg] <;> omega
  have hd2 : l.drop k = l[k] :: l.drop (k + 1) := List.drop_eq_getElem_cons hlt2
  have hx2 : l.getD (k : Int).toNat (Q0bx.C.dflt .fld) = l[k] := by simp [hlt2]
  have hin2 : inb (k : Int) l.length = true := by simp only [inb, Bool.and_eq_true, decide_eq_true_eq]; omega
  have hlo2 : decide ((k : Int) < (l.length : Int)) = true := decide_eq_true (by omega)
  have htk2 := List.take_succ_eq_append_getElem hlt2
  have hl2 : (l.take (k + 1)).getLast? = some l[k] := by rw [List.take_succ_eq_append_getElem hlt2, List.getLast?_concat]
  rw [hlo2, hin2, hx2, hw2]
  simp only [Qd8q, beq_self_eq_true, Bool.and_self, Bool.not_true, Qk7y]
  exact Sat.cut n2
theorem Q6me (ks : List Kind) (ps : List Point) (es : List Entry) (g3 : es.length ≤ 1000000000) (g4 : es.all (fun z : Entry => Qytc z.name z.fields) = true) : ∀ (d i : Nat), i + d = es.length → Cut Q0bx Q5ho 4 [.ptr 0 0, .ptr 1 0, .int .i64 (i : Int)] [.box [.sl .kind ks, .sl .point ps, .sl .entry es], .box [.sl .kind ks, .sl .point ps, .sl .entry es]] (.bool true) [] := by
 intro d
 induction d with
 | zero =>
  intro i hi
  refine Cut.of Q17e rfl (Qh8x i ks ps es ks ps es) ?_
  rw [show decide ((i : Int) < (es.length : Int)) = false from decide_eq_false (by omega)]
  exact Sat.ret rfl rfl
 | succ d ih =>
  intro i hi
  refine Cut.of Q17e rfl (Qh8x i ks ps es ks ps es) ?_
  have hlt : i < es.length := by omega
  have hw : IntKind.wrap .i64 ((i : Int) + 1) = ((i + 1 : Nat) : Int) := by rw [Qbrg] <;> omega
  have hw1 : IntKind.wrap .i64 ((i : Int) - 1) = (i : Int) - 1 := by rw [Qbrg] <;> omega
  have hd : es.drop i = es[i] :: es.drop (i + 1) := List.drop_eq_getElem_cons hlt
  have hx : es.getD (i : Int).toNat (Q0bx.C.dflt .entry) = es[i] := by simp [hlt]
  have hin : inb (i : Int) es.length = true := by simp only [inb, Bool.and_eq_true, decide_eq_true_eq]; omega
  have hlo : decide ((i : Int) < (es.length : Int)) = true := decide_eq_true (by omega)
  have htk := List.take_succ_eq_append_getElem hlt
  have hl : (es.take (i + 1)).getLast? = some es[i] := by rw [List.take_succ_eq_append_getElem hlt, List.getLast?_concat]
  have hz := List.all_eq_true.1 g4 es[i] (List.getElem_mem hlt)
  simp only [Qytc, Qckx, Bool.and_true, decide_eq_true_eq] at hz
  rw [hlo, hin, hx]
  simp only [Qd8q, beq_self_eq_true, Bool.not_true, Qk7y, bne_self_eq_false]
  exact Sat.cut (Qdqt ks ps es i hlt hz g3 (ih (i + 1) (by omega)) es[i].fields.length 0 (by omega))
theorem Qyae (ks ks' : List Kind) (ps ps' : List Point) (es es' : List Entry) (hg : Q2xe ks ks' ps ps' es es' = true) : Qewq Tryz.prog CP Q5ho [.agg [.sl .kind ks, .sl .point ps, .sl .entry es], .agg [.sl .kind ks', .sl .point ps', .sl .entry es']] [] (.bool true) [] := by
 refine Qewq.of Q17e (by kernel_rfl) (Q4xw ks ks' ps ps' es es') ?_
 simp only [Q2xe, Bool.and_eq_true, decide_eq_true_eq] at hg
 obtain ⟨h1, h2, rfl⟩ := hg
 rw [h1]
 simp only [sameK, Bool.and_eq_true, decide_eq_true_eq] at h1
 obtain ⟨_, rfl, rfl⟩ := h1
 simp only [Qnwa, Bool.and_eq_true, decide_eq_true_eq] at h2
 simp only [bne_self_eq_false, Qk7y, Qd8q]
 exact Sat.cut (Q6me ks ps es h2.1 h2.2 es.length 0 (by omega))
theorem Qzjt (ks : List Kind) (ps : List Point) (es : List Entry) (hg : Q2xe ks [] ps [] es [] = true) : Qewq Tryz.prog CP Q5ho [.agg [.sl .kind ks, .sl .point ps, .sl .entry es], .agg [.nils, .nils, .nils]] [] (.bool true) [] := by
 refine (Qyae ks [] ps [] es [] hg).args rfl (fun j x x' h1 h2 N w v h => ?_)
 match j with
 | 0 => simp only [List.getElem?_cons_zero, Option.some.injEq] at h1 h2; subst h1; subst h2; exact h
 | 1 =>
  simp only [List.getElem?_cons_succ, List.getElem?_cons_zero, Option.some.injEq] at h1 h2; subst h1; subst h2
  refine RepA.aggMono (cs := [.nils, .nils, .nils]) (ds := [.sl .kind [], .sl .point [], .sl .entry []]) rfl (fun i c' d' e1 e2 u hu => ?_) h
  match i with
  | 0 => simp only [List.getElem?_cons_zero, Option.some.injEq] at e1 e2; subst e1; subst e2; exact hu.nilSl Ty.kind
  | 1 => simp only [List.getElem?_cons_succ, List.getElem?_cons_zero, Option.some.injEq] at e1 e2; subst e1; subst e2; exact hu.nilSl Ty.point
  | 2 => simp only [List.getElem?_cons_succ, List.getElem?_cons_zero, Option.some.injEq] at e1 e2; subst e1; subst e2; exact hu.nilSl Ty.entry
  | i + 3 => simp at e1
 | j + 2 => simp at h1
theorem Qxl3 : EntOK Tryz.prog CP Q5ho Qz24 := by
 refine ⟨⟨Tryz.f47, by kernel_rfl, by kernel_rfl, by kernel_rfl⟩, fun args H res H' h => ?_⟩
 simp only [Qz24] at h
 split at h
 ·simp only [Option.some.injEq, Prod.mk.injEq] at h
  obtain ⟨hg, rfl, rfl⟩ := h
  exact Qyae _ _ _ _ _ _ hg
 ·simp only [Option.some.injEq, Prod.mk.injEq] at h
  obtain ⟨hg, rfl, rfl⟩ := h
  exact Qzjt _ _ _ hg
 ·cases h

noncomputable def Qlar : RE Ty El := ⟨Tryz.prog, CP, [], Tryz.f50, 0, [], [(2, [(1, .any), (2, .any), (3, .any), (6, .any), (8, .any)]), (5, [(1, .any), (2, .any), (3, .any), (6, .any), (8, .any), (9, .any)])]⟩
theorem Qiyl : REOK Qlar Qrft := ⟨CP_ok, Qye1, by kernel_rfl, by kernel_rfl⟩
theorem Q885 (ks : List Kind) (ps : List Point) (es : List Entry) (n : Str) (w : Int) : aRun Qlar 600 false (body0 Qlar.fn) (Q4gm Qlar.fn [.agg [.sl .kind ks, .sl .point ps, .sl .entry es], .str n, .int .i64 w] []) =
 some (.go (Qu6t Qlar.fn 2) [.str n, .int .i64 w, .ptr 0 0, .ptr 1 0, .int .i64 (0 : Int)] [.box [.sl .kind ks, .sl .point ps, .sl .entry es], .box [.int .i64 (0 : Int), .int .i64 (0 : Int), .str #[].toList]]) := by kernel_rfl
theorem Ql13 (x0 : Str) (x1 : Int) (x2 : Int) (x3 : List (El .kind)) (x4 : List (El .point)) (x5 : List (El .entry)) (x6 : Int) (x7 : Int) (x8 : Str) : aRun Qlar 600 true (Qu6t Qlar.fn 2) (cutSt Qlar.fn (Q1m4 Qlar (Qu6t Qlar.fn 2)) [.str x0, .int .i64 x1, .ptr 0 0, .ptr 1 0, .int .i64 x2] [.box [.sl .kind x3, .sl .point x4, .sl .entry x5], .box [.int .i64 x6, .int .i64 x7, .str x8]]) =
 ifb (decide (x2 < (↑x5.length : Int))) (some (.go (Qu6t Qlar.fn 5) [.str x0, .int .i64 x1, .ptr 0 0, .ptr 1 0, .int .i64 x2, .int .i64 (0 : Int)] [.box [.sl .kind x3, .sl .point x4, .sl .entry x5], .box [.int .i64 x6, .int .i64 x7, .str x8]])) (some (.ret (.tup [.agg [.int .i64 (0 : Int), .int .i64 (0 : Int), .str #[].toList], .bool false]) [])) := by kernel_rfl
theorem Q1mr (x0 : Str) (x1 : Int) (x2 : Int) (x3 : Int) (x4 : List (El .kind)) (x5 : List (El .point)) (x6 : List (El .entry)) (x7 : Int) (x8 : Int) (x9 : Str) : aRun Qlar 600 true (Qu6t Qlar.fn 5) (cutSt Qlar.fn (Q1m4 Qlar (Qu6t Qlar.fn 5)) [.str x0, .int .i64 x1, .ptr 0 0, .ptr 1 0, .int .i64 x2, .int .i64 x3] [.box [.sl .kind x4, .sl .point x5, .sl .entry x6], .box [.int .i64 x7, .int .i64 x8, .str x9]]) =
 ifb (inb x2 x6.length) (ifb (decide (x3 < (↑(x6.getD x2.toNat (Qlar.C.dflt Ty.entry)).fields.length : Int))) (ifb (inb x2 x6.length) (ifb ((x6.getD x2.toNat (Qlar.C.dflt Ty.entry)).name == x0) (ifb (inb x2 x6.length) (ifb (inb x3 (x6.getD x2.toNat (Qlar.C.dflt Ty.entry)).fields.length) (ifb (((x6.getD x2.toNat (Qlar.C.dflt Ty.entry)).fields.getD x3.toNat (Qlar.C.dflt Ty.fld)).what == x1) (ifb (inb x2 x6.length) (ifb (inb x3 (x6.getD x2.toNat (Qlar.C.dflt Ty.entry)).fields.length) (some (.ret (.tup [.agg [.int .i64 (((x6.getD x2.toNat (Qlar.C.dflt Ty.entry)).fields.getD x3.toNat (Qlar.C.dflt Ty.fld)).what), .int .i64 (((x6.getD x2.toNat (Qlar.C.dflt Ty.entry)).fields.getD x3.toNat (Qlar.C.dflt Ty.fld)).number), .str (((x6.getD x2.toNat (Qlar.C.dflt Ty.entry)).fields.getD x3.toNat (Qlar.C.dflt Ty.fld)).value)], .bool true]) [])) (none)) (none)) (some (.go (Qu6t Qlar.fn 5) [.str x0, .int .i64 x1, .ptr 0 0, .ptr 1 0, .int .i64 x2, .int .i64 (IntKind.i64.wrap (x3 + (1 : Int)))] [.box [.sl .kind x4, .sl .point x5, .sl .entry x6], .box [.int .i64 x7, .int .i64 x8, .str x9]]))) (none)) (none)) (some (.go (Qu6t Qlar.fn 5) [.str x0, .int .i64 x1, .ptr 0 0, .ptr 1 0, .int .i64 x2, .int .i64 (IntKind.i64.wrap (x3 + (1 : Int)))] [.box [.sl .kind x4, .sl .point x5, .sl .entry x6], .box [.int .i64 x7, .int .i64 x8, .str x9]]))) (none)) (some (.go (Qu6t Qlar.fn 2) [.str x0, .int .i64 x1, .ptr 0 0, .ptr 1 0, .int .i64 (IntKind.i64.wrap (x2 + (1 : Int)))] [.box [.sl .kind x4, .sl .point x5, .sl .entry x6], .box [.int .i64 x7, .int .i64 x8, .str x9]]))) (none) := by kernel_rfl
def wnM (e : Entry) (l : List Fld) (r : Option Fld) (n : Str) (w : Int) : Option Fld := match (if e.name = n then l.find? (fun f => f.what == w) else none) with
 | some f => some f
 | none => r
theorem Q3xs {e : Entry} {f : Fld} {l : List Fld} {r : Option Fld} {n : Str} {w : Int} (h1 : e.name = n) (h2 : f.what = w) : wnM e (f :: l) r n w = some f := by
 unfold wnM; rw [if_pos h1, List.find?_cons, show (f.what == w) = true by simpa using h2]
theorem Q807 {e : Entry} {f : Fld} {l : List Fld} {r : Option Fld} {n : Str} {w : Int} (h2 : f.what ≠ w) : wnM e (f :: l) r n w = wnM e l r n w := by
 unfold wnM; rw [List.find?_cons, show (f.what == w) = false by simpa using h2]
theorem Qlxh {e : Entry} {f : Fld} {l : List Fld} {r : Option Fld} {n : Str} {w : Int} (h1 : e.name ≠ n) : wnM e (f :: l) r n w = wnM e l r n w := by
 unfold wnM; rw [if_neg h1, if_neg h1]
theorem Qvjs (ks : List Kind) (ps : List Point) (es : List Entry) (n : Str) (w : Int) (i : Nat) (hlt : i < es.length) (g5 : es[i].fields.length ≤ 1000000000) (g3 : es.length ≤ 1000000000) (r : Option Fld) (nx : Cut Qlar Qrft 2 [.str n, .int .i64 w, .ptr 0 0, .ptr 1 0, .int .i64 ((i + 1 : Nat) : Int)] [.box [.sl .kind ks, .sl .point ps, .sl .entry es], .box [.int .i64 0, .int .i64 0, .str []]] (.tup [.agg [.int .i64 (r.getD fld0).what, .int .i64 (r.getD fld0).number, .str (r.getD fld0).value], .bool r.isSome]) []) : ∀ (d k : Nat), k + d = es[i].fields.length →
  Cut Qlar Qrft 5 [.str n, .int .i64 w, .ptr 0 0, .ptr 1 0, .int .i64 (i : Int), .int .i64 (k : Int)] [.box [.sl .kind ks, .sl .point ps, .sl .entry es], .box [.int .i64 0, .int .i64 0, .str []]] (.tup [.agg [.int .i64 ((wnM es[i] (es[i].fields.drop k) r n w).getD fld0).what, .int .i64 ((wnM es[i] (es[i].fields.drop k) r n w).getD fld0).number, .str ((wnM es[i] (es[i].fields.drop k) r n w).getD fld0).value], .bool (wnM es[i] (es[i].fields.drop k) r n w).isSome]) [] := by
 have hxe : es.getD (i : Int).toNat (Qlar.C.dflt .entry) = es[i] := by simp [hlt]
 have hie : inb (i : Int) es.length = true := by simp only [inb, Bool.and_eq_true, decide_eq_true_eq]; omega
 have hwe : IntKind.wrap .i64 ((i : Int) + 1) = ((i + 1 : Nat) : Int) := by rw [Qbrg] <;> omega
 intro d
 induction d with
 | zero =>
  intro k hk
  refine Cut.of Qiyl rfl (Q1mr n w i k ks ps es 0 0 []) ?_
  rw [hxe, hie, hwe, show decide ((k : Int) < (es[i].fields.length : Int)) = false from decide_eq_false (by omega), List.drop_of_length_le (by omega)]
  have e : wnM es[i] [] r n w = r := by unfold wnM; by_cases h : es[i].name = n <;> simp [h]
  rw [e]
  exact Sat.cut nx
 | succ d ih =>
  intro k hk
  refine Cut.of Qiyl rfl (Q1mr n w i k ks ps es 0 0 []) ?_
  have n2 := ih (k + 1) (by omega)
  rw [hxe, hie]
  generalize es[i] = e at *
  generalize e.fields = l at *
  have hlt2 : k < l.length := by omega
  have hw2 : IntKind.wrap .i64 ((k : Int) + 1) = ((k + 1 : Nat) : Int) := by rw [Qbrg] <;> omega
  have hw12 : IntKind.wrap .i64 ((k : Int) - 1) = (k : Int) - 1 := by rw [Qbrg] <;> omega
  have hd2 : l.drop k = l[k] :: l.drop (k + 1) := List.drop_eq_getElem_cons hlt2
  have hx2 : l.getD (k : Int).toNat (Qlar.C.dflt .fld) = l[k] := by simp [hlt2]
  have hin2 : inb (k : Int) l.length = true := by simp only [inb, Bool.and_eq_true, decide_eq_true_eq]; omega
  have hlo2 : decide ((k : Int) < (l.length : Int)) = true := decide_eq_true (by omega)
  have htk2 := List.take_succ_eq_append_getElem hlt2
  have hl2 : (l.take (k + 1)).getLast? = some l[k] := by rw [List.take_succ_eq_append_getElem hlt2, List.getLast?_concat]
  rw [hlo2, hin2, hx2, hw2, hd2]
  simp only [Qd8q]
  by_cases hn : e.name = n
  ·rw [show (e.name == n) = true by simpa using hn]
   simp only [Qd8q]
   by_cases hw : l[k].what = w
   ·rw [show (l[k].what == w) = true by simpa using hw]
    have e3 : wnM e (l[k] :: l.drop (k + 1)) r n w = some l[k] := Q3xs hn hw
    rw [e3]
    exact Sat.ret rfl rfl
   ·rw [show (l[k].what == w) = false by simpa using hw]
    have e3 : wnM e (l[k] :: l.drop (k + 1)) r n w = wnM e (l.drop (k + 1)) r n w := Q807 hw
    rw [e3]
    exact Sat.cut n2
  ·rw [show (e.name == n) = false by simpa using hn]
   have e3 : wnM e (l[k] :: l.drop (k + 1)) r n w = wnM e (l.drop (k + 1)) r n w := Qlxh hn
   rw [e3]
   exact Sat.cut n2
theorem Qj1o (ks : List Kind) (ps : List Point) (es : List Entry) (n : Str) (w : Int) (g3 : es.length ≤ 1000000000) (g4 : es.all (fun z : Entry => Qytc z.name z.fields) = true) : ∀ (d i : Nat), i + d = es.length → Cut Qlar Qrft 2 [.str n, .int .i64 w, .ptr 0 0, .ptr 1 0, .int .i64 (i : Int)] [.box [.sl .kind ks, .sl .point ps, .sl .entry es], .box [.int .i64 0, .int .i64 0, .str []]] (.tup [.agg [.int .i64 ((wnF (es.drop i) n w).getD fld0).what, .int .i64 ((wnF (es.drop i) n w).getD fld0).number, .str ((wnF (es.drop i) n w).getD fld0).value], .bool (wnF (es.drop i) n w).isSome]) [] := by
 intro d
 induction d with
 | zero =>
  intro i hi
  refine Cut.of Qiyl rfl (Ql13 n w i ks ps es 0 0 []) ?_
  rw [show decide ((i : Int) < (es.length : Int)) = false from decide_eq_false (by omega), List.drop_of_length_le (by omega)]
  exact Sat.ret rfl rfl
 | succ d ih =>
  intro i hi
  refine Cut.of Qiyl rfl (Ql13 n w i ks ps es 0 0 []) ?_
  have hlt : i < es.length := by omega
  have hw : IntKind.wrap .i64 ((i : Int) + 1) = ((i + 1 : Nat) : Int) := by rw [Qbrg] <;> omega
  have hw1 : IntKind.wrap .i64 ((i : Int) - 1) = (i : Int) - 1 := by rw [Qbrg] <;> omega
  have hd : es.drop i = es[i] :: es.drop (i + 1) := List.drop_eq_getElem_cons hlt
  have hx : es.getD (i : Int).toNat (Qlar.C.dflt .entry) = es[i] := by simp [hlt]
  have hin : inb (i : Int) es.length = true := by simp only [inb, Bool.and_eq_true, decide_eq_true_eq]; omega
  have hlo : decide ((i : Int) < (es.length : Int)) = true := decide_eq_true (by omega)
  have htk := List.take_succ_eq_append_getElem hlt
  have hl : (es.take (i + 1)).getLast? = some es[i] := by rw [List.take_succ_eq_append_getElem hlt, List.getLast?_concat]
  have hz := List.all_eq_true.1 g4 es[i] (List.getElem_mem hlt)
  simp only [Qytc, Qckx, Bool.and_true, decide_eq_true_eq] at hz
  rw [hlo]
  have nx := Qvjs ks ps es n w i hlt hz g3 _ (ih (i + 1) (by omega)) es[i].fields.length 0 (by omega)
  rw [List.drop_zero] at nx
  rw [hd]
  exact Sat.cut nx
theorem Q563 (ks : List Kind) (ps : List Point) (es : List Entry) (n : Str) (w : Int) (hg : Qnwa es = true) : Qewq Tryz.prog CP Qrft [.agg [.sl .kind ks, .sl .point ps, .sl .entry es], .str n, .int .i64 w] [] (.tup [.agg [.int .i64 ((wnF es n w).getD fld0).what, .int .i64 ((wnF es n w).getD fld0).number, .str ((wnF es n w).getD fld0).value], .bool (wnF es n w).isSome]) [] := by
 refine Qewq.of Qiyl (by kernel_rfl) (Q885 ks ps es n w) ?_
 simp only [Qnwa, Bool.and_eq_true, decide_eq_true_eq] at hg
 have nx := Qj1o ks ps es n w hg.1 hg.2 es.length 0 (by omega)
 rw [List.drop_zero] at nx
 exact Sat.cut nx
theorem Qq3h : EntOK Tryz.prog CP Qrft Q5b3 := by
 refine ⟨⟨Tryz.f50, by kernel_rfl, by kernel_rfl, by kernel_rfl⟩, fun args H res H' h => ?_⟩
 simp only [Q5b3] at h
 split at h
 ·simp only [Option.some.injEq, Prod.mk.injEq] at h
  obtain ⟨hg, rfl, rfl⟩ := h
  exact Q563 _ _ _ _ _ hg
 ·cases h
end Lx
/- Meanings: a book and a change, drawn. -/
namespace Lx
open Go Go.Proofs
structure TkD where
 ks : List Kind
 ps : List Point
 es : List Entry
 c : Chg
 deriving Inhabited
def Qywd (x : TkD) : Prop := goodS x.ks x.ps x.es = true ∧ szV x.c.value = true
noncomputable def dTake (c : List Int) : TkD := drawn (fun x => Qewq Tryz.prog CP Qios [.sl .u8 c] [] (.tup [.agg [.sl .kind x.ks, .sl .point x.ps, .sl .entry x.es], .agg [.str x.c.flight, .int .i64 x.c.what, .int .i64 x.c.number, .str x.c.value]]) [] ∧ Qywd x)
noncomputable def Qshm : Ent Ty El := ⟨[.ro], 0, fun a h => match a, h with
 | [.sl .u8 c], [] => some (Qf9o c, .tup [.agg [.sl .kind (dTake c).ks, .sl .point (dTake c).ps, .sl .entry (dTake c).es], .agg [.str (dTake c).c.flight, .int .i64 (dTake c).c.what, .int .i64 (dTake c).c.number, .str (dTake c).c.value]], [])
 | _, _ => none⟩
end Lx
/- A book and a change, drawn. -/
namespace Lx
open Go Go.Proofs
noncomputable def Q6b0 : RE Ty El := ⟨Tryz.prog, CP, [(Qajm, Qqtq), (Qzkm, Qrra), (Qhy2, Qiyn), (Qpj2, Qxsi), (Qpxs, Q7v2)], Tryz.f45, 0, [.agg [.ro .kind, .ro .point, .ro .entry], .any], []⟩
theorem Qvdq : REOK Q6b0 Qios := ⟨CP_ok, (TabOK.cons Q3w2 (TabOK.cons Qs7a (TabOK.cons Q3dh (TabOK.cons Qie6 (TabOK.cons Q0e7 Qye1))))), by kernel_rfl, by kernel_rfl⟩
theorem Qq0e (c : List Int) : aRun Q6b0 600 false (body0 Q6b0.fn) (Q4gm Q6b0.fn [.sl .u8 c] []) =
 ifb (anyK (List.take (2000 : Nat) c) (0 : Int)) (ifb ((↑(dAny (List.take (2000 : Nat) c) (0 : Int)).ps.length : Int) == (0 : Int)) (some (.ret (.tup [.agg [.sl .kind ((dAny (List.take (2000 : Nat) c) (0 : Int)).ks), .sl .point ((dAny (List.take (2000 : Nat) c) (0 : Int)).ps), .sl .entry ((dAny (List.take (2000 : Nat) c) (0 : Int)).es)], .agg [.str #[].toList, .int .i64 (0 : Int), .int .i64 (0 : Int), .str #[].toList]]) [])) (ifb (chgK (List.take (2000 : Nat) c) (dAny (List.take (2000 : Nat) c) (0 : Int)).p (dAny (List.take (2000 : Nat) c) (0 : Int)).ks (dAny (List.take (2000 : Nat) c) (0 : Int)).ps) (ifb (posOk (dChg (List.take (2000 : Nat) c) (dAny (List.take (2000 : Nat) c) (0 : Int)).p (dAny (List.take (2000 : Nat) c) (0 : Int)).ks (dAny (List.take (2000 : Nat) c) (0 : Int)).ps).p) (ifb (pickV (List.take (2000 : Nat) c) (dChg (List.take (2000 : Nat) c) (dAny (List.take (2000 : Nat) c) (0 : Int)).p (dAny (List.take (2000 : Nat) c) (0 : Int)).ks (dAny (List.take (2000 : Nat) c) (0 : Int)).ps).p (6 : Int) == (0 : Int)) (ifb (spcK (List.take (2000 : Nat) c) ((dChg (List.take (2000 : Nat) c) (dAny (List.take (2000 : Nat) c) (0 : Int)).p (dAny (List.take (2000 : Nat) c) (0 : Int)).ks (dAny (List.take (2000 : Nat) c) (0 : Int)).ps).p + (1 : Int)) (dChg (List.take (2000 : Nat) c) (dAny (List.take (2000 : Nat) c) (0 : Int)).p (dAny (List.take (2000 : Nat) c) (0 : Int)).ks (dAny (List.take (2000 : Nat) c) (0 : Int)).ps).c.value) (some (.ret (.tup [.agg [.sl .kind ((dAny (List.take (2000 : Nat) c) (0 : Int)).ks), .sl .point ((dAny (List.take (2000 : Nat) c) (0 : Int)).ps), .sl .entry ((dAny (List.take (2000 : Nat) c) (0 : Int)).es)], .agg [.str ((dSpC (List.take (2000 : Nat) c) ((dChg (List.take (2000 : Nat) c) (dAny (List.take (2000 : Nat) c) (0 : Int)).p (dAny (List.take (2000 : Nat) c) (0 : Int)).ks (dAny (List.take (2000 : Nat) c) (0 : Int)).ps).p + (1 : Int)) (dChg (List.take (2000 : Nat) c) (dAny (List.take (2000 : Nat) c) (0 : Int)).p (dAny (List.take (2000 : Nat) c) (0 : Int)).ks (dAny (List.take (2000 : Nat) c) (0 : Int)).ps).c).c.flight), .int .i64 ((dSpC (List.take (2000 : Nat) c) ((dChg (List.take (2000 : Nat) c) (dAny (List.take (2000 : Nat) c) (0 : Int)).p (dAny (List.take (2000 : Nat) c) (0 : Int)).ks (dAny (List.take (2000 : Nat) c) (0 : Int)).ps).p + (1 : Int)) (dChg (List.take (2000 : Nat) c) (dAny (List.take (2000 : Nat) c) (0 : Int)).p (dAny (List.take (2000 : Nat) c) (0 : Int)).ks (dAny (List.take (2000 : Nat) c) (0 : Int)).ps).c).c.what), .int .i64 ((dSpC (List.take (2000 : Nat) c) ((dChg (List.take (2000 : Nat) c) (dAny (List.take (2000 : Nat) c) (0 : Int)).p (dAny (List.take (2000 : Nat) c) (0 : Int)).ks (dAny (List.take (2000 : Nat) c) (0 : Int)).ps).p + (1 : Int)) (dChg (List.take (2000 : Nat) c) (dAny (List.take (2000 : Nat) c) (0 : Int)).p (dAny (List.take (2000 : Nat) c) (0 : Int)).ks (dAny (List.take (2000 : Nat) c) (0 : Int)).ps).c).c.number), .str ((dSpC (List.take (2000 : Nat) c) ((dChg (List.take (2000 : Nat) c) (dAny (List.take (2000 : Nat) c) (0 : Int)).p (dAny (List.take (2000 : Nat) c) (0 : Int)).ks (dAny (List.take (2000 : Nat) c) (0 : Int)).ps).p + (1 : Int)) (dChg (List.take (2000 : Nat) c) (dAny (List.take (2000 : Nat) c) (0 : Int)).p (dAny (List.take (2000 : Nat) c) (0 : Int)).ks (dAny (List.take (2000 : Nat) c) (0 : Int)).ps).c).c.value)]]) [])) (none)) (some (.ret (.tup [.agg [.sl .kind ((dAny (List.take (2000 : Nat) c) (0 : Int)).ks), .sl .point ((dAny (List.take (2000 : Nat) c) (0 : Int)).ps), .sl .entry ((dAny (List.take (2000 : Nat) c) (0 : Int)).es)], .agg [.str ((dChg (List.take (2000 : Nat) c) (dAny (List.take (2000 : Nat) c) (0 : Int)).p (dAny (List.take (2000 : Nat) c) (0 : Int)).ks (dAny (List.take (2000 : Nat) c) (0 : Int)).ps).c.flight), .int .i64 ((dChg (List.take (2000 : Nat) c) (dAny (List.take (2000 : Nat) c) (0 : Int)).p (dAny (List.take (2000 : Nat) c) (0 : Int)).ks (dAny (List.take (2000 : Nat) c) (0 : Int)).ps).c.what), .int .i64 ((dChg (List.take (2000 : Nat) c) (dAny (List.take (2000 : Nat) c) (0 : Int)).p (dAny (List.take (2000 : Nat) c) (0 : Int)).ks (dAny (List.take (2000 : Nat) c) (0 : Int)).ps).c.number), .str ((dChg (List.take (2000 : Nat) c) (dAny (List.take (2000 : Nat) c) (0 : Int)).p (dAny (List.take (2000 : Nat) c) (0 : Int)).ks (dAny (List.take (2000 : Nat) c) (0 : Int)).ps).c.value)]]) []))) (none)) (none))) (none) := by kernel_rfl
theorem Qqbt (c : List Int) (hg : Qf9o c = true) : Qewq Tryz.prog CP Qios [.sl .u8 c] [] (.tup [.agg [.sl .kind (dTake c).ks, .sl .point (dTake c).ps, .sl .entry (dTake c).es], .agg [.str (dTake c).c.flight, .int .i64 (dTake c).c.what, .int .i64 (dTake c).c.number, .str (dTake c).c.value]]) [] ∧ Qywd (dTake c) := by
 have hbs := Qz2g hg 2000
 have ha : anyK (c.take 2000) 0 = true := by simp only [anyK, Bool.and_eq_true, decide_eq_true_eq]; exact ⟨hbs, by omega, by omega⟩
 obtain ⟨a1, a2, a3⟩ := (Qmag (c.take 2000) 0 ha).2
 have hE : CallE Q6b0.P Q6b0.C Qios [.sl .u8 c] [] (fun v h => ∃ x : TkD, v = (.tup [.agg [.sl .kind x.ks, .sl .point x.ps, .sl .entry x.es], .agg [.str x.c.flight, .int .i64 x.c.what, .int .i64 x.c.number, .str x.c.value]]) ∧ h = [] ∧ Qywd x) := by
  refine CallE.of Qvdq (by kernel_rfl) (Qq0e c) ?_
  generalize dAny (c.take 2000) 0 = z at *
  refine SatE.need ha (SatE.ifb (fun _ => SatE.ret ⟨⟨_, _, _, ⟨_, _, _, _⟩⟩, rfl, rfl, a1, rfl⟩) (fun hne => ?_))
  have hs := a1
  simp only [goodS, Bool.and_eq_true, decide_eq_true_eq] at hs
  obtain ⟨_, _, hp, _, hn⟩ := hs
  have h1 : 1 ≤ z.ps.length := by
   have : ¬ ((z.ps.length : Int) = 0) := by simpa using hne
   omega
  have hc : chgK (c.take 2000) z.p z.ks z.ps = true := by simp only [chgK, Bool.and_eq_true, decide_eq_true_eq]; exact ⟨hbs, by omega, by omega, hp, hn, h1⟩
  obtain ⟨c1, c2, c3⟩ := (Qnhc (c.take 2000) z.p z.ks z.ps hc).2
  generalize dChg (c.take 2000) z.p z.ks z.ps = y at *
  have hk : spcK (c.take 2000) (y.p + 1) y.c.value = true := by simp only [spcK, Bool.and_eq_true, decide_eq_true_eq]; exact ⟨hbs, by omega, by omega, c1⟩
  obtain ⟨d1, d2, d3⟩ := (Qz1w (c.take 2000) (y.p + 1) y.c.flight y.c.what y.c.number y.c.value hk).2
  exact SatE.need hc (SatE.need (Q8s4 (by omega) (by omega)) (SatE.ifb (fun _ => SatE.need hk (SatE.ret ⟨⟨_, _, _, ⟨_, _, _, _⟩⟩, rfl, rfl, a1, d1⟩)) (fun _ => SatE.ret ⟨⟨_, _, _, ⟨_, _, _, _⟩⟩, rfl, rfl, a1, c1⟩)))
 obtain ⟨v, H', h, x, rfl, rfl, hx⟩ := hE
 unfold dTake
 exact Qk78 (p := fun x : TkD => Qewq Tryz.prog CP Qios [.sl .u8 c] [] (.tup [.agg [.sl .kind x.ks, .sl .point x.ps, .sl .entry x.es], .agg [.str x.c.flight, .int .i64 x.c.what, .int .i64 x.c.number, .str x.c.value]]) [] ∧ Qywd x) ⟨x, h, hx⟩
theorem Qb2j (c : List Int) (hg : Qf9o c = true) : Qewq Tryz.prog CP Qios [.sl .u8 c] [] (.tup [.agg [.sl .kind (dTake c).ks, .sl .point (dTake c).ps, .sl .entry (dTake c).es], .agg [.str (dTake c).c.flight, .int .i64 (dTake c).c.what, .int .i64 (dTake c).c.number, .str (dTake c).c.value]]) [] := by
 exact (Qqbt c hg).1
theorem Qk7w : EntOK Tryz.prog CP Qios Qshm := by
 refine ⟨⟨Tryz.f45, by kernel_rfl, by kernel_rfl, by kernel_rfl⟩, fun args H res H' h => ?_⟩
 simp only [Qshm] at h
 split at h
 ·simp only [Option.some.injEq, Prod.mk.injEq] at h
  obtain ⟨hg, rfl, rfl⟩ := h
  exact Qb2j _ hg
 ·cases h
end Lx
/- The law of what was said later: what it uses. -/
namespace Lx
open Go Go.Proofs
end Lx
/- The law of what was said later. -/
namespace Lx
open Go Go.Proofs
noncomputable def Qaoo : RE Ty El := ⟨Tryz.prog, CP, [(Qios, Qshm), (Q64l, Qy84), (Qbeb, Q8t5), (Q5ho, Qz24), (Qaev, Qjv4), (Qdfk, Q124), (Qrft, Q5b3)], Tryz.f8, 0, [], [(14, [(3, .any), (4, .any), (5, .any), (11, .any)]), (17, [(3, .any), (4, .any), (5, .any), (11, .any), (12, .any)])]⟩
theorem Qysd : REOK Qaoo Qrp3 := ⟨CP_ok, (TabOK.cons Qk7w (TabOK.cons Q7d1 (TabOK.cons Q2a7 (TabOK.cons Qxl3 (TabOK.cons Qwza (TabOK.cons Q8cq (TabOK.cons Qq3h Qye1))))))), by kernel_rfl, by kernel_rfl⟩
theorem Qbz6 (c : List Int) : aRun Qaoo 600 false (body0 Qaoo.fn) (Q4gm Qaoo.fn [.sl .u8 c] []) =
 ifb (decide ((↑c.length : Int) > (1048576 : Int))) (some (.ret (.bool true) [])) (ifb (Qf9o c) (ifb (goodB (dTake c).ks (dTake c).ps (dTake c).es && szV (dTake c).c.value) (ifb (goodB (dTake c).ks (dTake c).ps (dTake c).es && szV (dTake c).c.value) (ifb ((takeF (dTake c).ks (dTake c).ps (dTake c).es (dTake c).c).code != (takeF (dTake c).ks (dTake c).ps (dTake c).es (dTake c).c).code) (some (.ret (.bool false) [])) (ifb (Q2xe (takeF (dTake c).ks (dTake c).ps (dTake c).es (dTake c).c).ks (takeF (dTake c).ks (dTake c).ps (dTake c).es (dTake c).c).ks (takeF (dTake c).ks (dTake c).ps (dTake c).es (dTake c).c).ps (takeF (dTake c).ks (dTake c).ps (dTake c).es (dTake c).c).ps (takeF (dTake c).ks (dTake c).ps (dTake c).es (dTake c).c).es (takeF (dTake c).ks (dTake c).ps (dTake c).es (dTake c).c).es) (ifb (szB (dTake c).es) (ifb (szB (dTake c).es) (ifb (!Qn0o (dTake c).ks (dTake c).ps (dTake c).es == Qn0o (dTake c).ks (dTake c).ps (dTake c).es) (some (.ret (.bool false) [])) (ifb ((takeF (dTake c).ks (dTake c).ps (dTake c).es (dTake c).c).code != (0 : Int)) (ifb ((takeF (dTake c).ks (dTake c).ps (dTake c).es (dTake c).c).code == (1 : Int)) (ifb (Q2xe (takeF (dTake c).ks (dTake c).ps (dTake c).es (dTake c).c).ks [] (takeF (dTake c).ks (dTake c).ps (dTake c).es (dTake c).c).ps [] (takeF (dTake c).ks (dTake c).ps (dTake c).es (dTake c).c).es []) (some (.ret (.bool true) [])) (none)) (ifb (Q2xe (takeF (dTake c).ks (dTake c).ps (dTake c).es (dTake c).c).ks (dTake c).ks (takeF (dTake c).ks (dTake c).ps (dTake c).es (dTake c).c).ps (dTake c).ps (takeF (dTake c).ks (dTake c).ps (dTake c).es (dTake c).c).es (dTake c).es) (some (.ret (.bool true) [])) (none))) (ifb (goodB (takeF (dTake c).ks (dTake c).ps (dTake c).es (dTake c).c).ks (takeF (dTake c).ks (dTake c).ps (dTake c).es (dTake c).c).ps (takeF (dTake c).ks (dTake c).ps (dTake c).es (dTake c).c).es && szV (dTake c).c.value) (ifb (Q2xe (takeF (takeF (dTake c).ks (dTake c).ps (dTake c).es (dTake c).c).ks (takeF (dTake c).ks (dTake c).ps (dTake c).es (dTake c).c).ps (takeF (dTake c).ks (dTake c).ps (dTake c).es (dTake c).c).es (dTake c).c).ks (takeF (dTake c).ks (dTake c).ps (dTake c).es (dTake c).c).ks (takeF (takeF (dTake c).ks (dTake c).ps (dTake c).es (dTake c).c).ks (takeF (dTake c).ks (dTake c).ps (dTake c).es (dTake c).c).ps (takeF (dTake c).ks (dTake c).ps (dTake c).es (dTake c).c).es (dTake c).c).ps (takeF (dTake c).ks (dTake c).ps (dTake c).es (dTake c).c).ps (takeF (takeF (dTake c).ks (dTake c).ps (dTake c).es (dTake c).c).ks (takeF (dTake c).ks (dTake c).ps (dTake c).es (dTake c).c).ps (takeF (dTake c).ks (dTake c).ps (dTake c).es (dTake c).c).es (dTake c).c).es (takeF (dTake c).ks (dTake c).ps (dTake c).es (dTake c).c).es) (ifb (szB (takeF (dTake c).ks (dTake c).ps (dTake c).es (dTake c).c).es) (ifb (!Qn0o (takeF (dTake c).ks (dTake c).ps (dTake c).es (dTake c).c).ks (takeF (dTake c).ks (dTake c).ps (dTake c).es (dTake c).c).ps (takeF (dTake c).ks (dTake c).ps (dTake c).es (dTake c).c).es) (some (.ret (.bool false) [])) (some (.go (Qu6t Qaoo.fn 14) [.ptr 0 0, .ptr 1 0, .ptr 2 0, .int .i64 (0 : Int)] [.box [.sl .kind ((dTake c).ks), .sl .point ((dTake c).ps), .sl .entry ((dTake c).es)], .box [.str ((dTake c).c.flight), .int .i64 ((dTake c).c.what), .int .i64 ((dTake c).c.number), .str ((dTake c).c.value)], .box [.own 3 [] 0, .own 4 [] 0, .own 5 [] 0], .row .kind ((takeF (dTake c).ks (dTake c).ps (dTake c).es (dTake c).c).ks) 0 0 0 .no, .row .point ((takeF (dTake c).ks (dTake c).ps (dTake c).es (dTake c).c).ps) 0 0 0 .no, .row .entry ((takeF (dTake c).ks (dTake c).ps (dTake c).es (dTake c).c).es) 1 0 0 .no]))) (none)) (none)) (none)))) (none)) (none)) (none))) (none)) (none)) (none)) := by kernel_rfl
theorem Qo6g (x0 : Int) (x1 : List (El .kind)) (x2 : List (El .point)) (x3 : List (El .entry)) (x4 : Str) (x5 : Int) (x6 : Int) (x7 : Str) (x8 : List (El .kind)) (x9 : List (El .point)) (x10 : List (El .entry)) : aRun Qaoo 600 true (Qu6t Qaoo.fn 14) (cutSt Qaoo.fn (Q1m4 Qaoo (Qu6t Qaoo.fn 14)) [.ptr 0 0, .ptr 1 0, .ptr 2 0, .int .i64 x0] [.box [.sl .kind x1, .sl .point x2, .sl .entry x3], .box [.str x4, .int .i64 x5, .int .i64 x6, .str x7], .box [.own 3 [] 0, .own 4 [] 0, .own 5 [] 0], .row .kind x8 0 0 0 .no, .row .point x9 0 0 0 .no, .row .entry x10 1 0 0 .no]) =
 ifb (decide (x0 < (↑x3.length : Int))) (some (.go (Qu6t Qaoo.fn 17) [.ptr 0 0, .ptr 1 0, .ptr 2 0, .int .i64 x0, .int .i64 (0 : Int)] [.box [.sl .kind x1, .sl .point x2, .sl .entry x3], .box [.str x4, .int .i64 x5, .int .i64 x6, .str x7], .box [.own 3 [] 0, .own 4 [] 0, .own 5 [] 0], .row .kind x8 0 0 0 .no, .row .point x9 0 0 0 .no, .row .entry x10 1 0 0 .no])) (some (.ret (.bool true) [])) := by kernel_rfl
theorem Qb54 (x0 : Int) (x1 : Int) (x2 : List (El .kind)) (x3 : List (El .point)) (x4 : List (El .entry)) (x5 : Str) (x6 : Int) (x7 : Int) (x8 : Str) (x9 : List (El .kind)) (x10 : List (El .point)) (x11 : List (El .entry)) : aRun Qaoo 600 true (Qu6t Qaoo.fn 17) (cutSt Qaoo.fn (Q1m4 Qaoo (Qu6t Qaoo.fn 17)) [.ptr 0 0, .ptr 1 0, .ptr 2 0, .int .i64 x0, .int .i64 x1] [.box [.sl .kind x2, .sl .point x3, .sl .entry x4], .box [.str x5, .int .i64 x6, .int .i64 x7, .str x8], .box [.own 3 [] 0, .own 4 [] 0, .own 5 [] 0], .row .kind x9 0 0 0 .no, .row .point x10 0 0 0 .no, .row .entry x11 1 0 0 .no]) =
 ifb (inb x0 x4.length) (ifb (decide (x1 < (↑(x4.getD x0.toNat (Qaoo.C.dflt Ty.entry)).fields.length : Int))) (ifb (inb x0 x4.length) (ifb (inb x1 (x4.getD x0.toNat (Qaoo.C.dflt Ty.entry)).fields.length) (ifb (inb x0 x4.length) (ifb (Qnwa x11) (ifb (!(wnF x11 (x4.getD x0.toNat (Qaoo.C.dflt Ty.entry)).name ((x4.getD x0.toNat (Qaoo.C.dflt Ty.entry)).fields.getD x1.toNat (Qaoo.C.dflt Ty.fld)).what).isSome) (some (.ret (.bool false) [])) (ifb (!(((wnF x11 (x4.getD x0.toNat (Qaoo.C.dflt Ty.entry)).name ((x4.getD x0.toNat (Qaoo.C.dflt Ty.entry)).fields.getD x1.toNat (Qaoo.C.dflt Ty.fld)).what).getD fld0).what == ((x4.getD x0.toNat (Qaoo.C.dflt Ty.entry)).fields.getD x1.toNat (Qaoo.C.dflt Ty.fld)).what && (((wnF x11 (x4.getD x0.toNat (Qaoo.C.dflt Ty.entry)).name ((x4.getD x0.toNat (Qaoo.C.dflt Ty.entry)).fields.getD x1.toNat (Qaoo.C.dflt Ty.fld)).what).getD fld0).number == ((x4.getD x0.toNat (Qaoo.C.dflt Ty.entry)).fields.getD x1.toNat (Qaoo.C.dflt Ty.fld)).number && (((wnF x11 (x4.getD x0.toNat (Qaoo.C.dflt Ty.entry)).name ((x4.getD x0.toNat (Qaoo.C.dflt Ty.entry)).fields.getD x1.toNat (Qaoo.C.dflt Ty.fld)).what).getD fld0).value == ((x4.getD x0.toNat (Qaoo.C.dflt Ty.entry)).fields.getD x1.toNat (Qaoo.C.dflt Ty.fld)).value && true)))) (ifb (inb x0 x4.length) (ifb (!(x4.getD x0.toNat (Qaoo.C.dflt Ty.entry)).name == x5) (some (.ret (.bool false) [])) (ifb (((x4.getD x0.toNat (Qaoo.C.dflt Ty.entry)).fields.getD x1.toNat (Qaoo.C.dflt Ty.fld)).what != x6) (some (.ret (.bool false) [])) (ifb (((wnF x11 (x4.getD x0.toNat (Qaoo.C.dflt Ty.entry)).name ((x4.getD x0.toNat (Qaoo.C.dflt Ty.entry)).fields.getD x1.toNat (Qaoo.C.dflt Ty.fld)).what).getD fld0).number != x7) (some (.ret (.bool false) [])) (ifb (!((wnF x11 (x4.getD x0.toNat (Qaoo.C.dflt Ty.entry)).name ((x4.getD x0.toNat (Qaoo.C.dflt Ty.entry)).fields.getD x1.toNat (Qaoo.C.dflt Ty.fld)).what).getD fld0).value == x8) (some (.ret (.bool false) [])) (ifb (decide (((x4.getD x0.toNat (Qaoo.C.dflt Ty.entry)).fields.getD x1.toNat (Qaoo.C.dflt Ty.fld)).number > x7)) (some (.ret (.bool false) [])) (some (.go (Qu6t Qaoo.fn 17) [.ptr 0 0, .ptr 1 0, .ptr 2 0, .int .i64 x0, .int .i64 (IntKind.i64.wrap (x1 + (1 : Int)))] [.box [.sl .kind x2, .sl .point x3, .sl .entry x4], .box [.str x5, .int .i64 x6, .int .i64 x7, .str x8], .box [.own 3 [] 0, .own 4 [] 0, .own 5 [] 0], .row .kind x9 0 0 0 .no, .row .point x10 0 0 0 .no, .row .entry x11 1 0 0 .no]))))))) (none)) (some (.go (Qu6t Qaoo.fn 17) [.ptr 0 0, .ptr 1 0, .ptr 2 0, .int .i64 x0, .int .i64 (IntKind.i64.wrap (x1 + (1 : Int)))] [.box [.sl .kind x2, .sl .point x3, .sl .entry x4], .box [.str x5, .int .i64 x6, .int .i64 x7, .str x8], .box [.own 3 [] 0, .own 4 [] 0, .own 5 [] 0], .row .kind x9 0 0 0 .no, .row .point x10 0 0 0 .no, .row .entry x11 1 0 0 .no])))) (none)) (none)) (none)) (none)) (some (.go (Qu6t Qaoo.fn 14) [.ptr 0 0, .ptr 1 0, .ptr 2 0, .int .i64 (IntKind.i64.wrap (x0 + (1 : Int)))] [.box [.sl .kind x2, .sl .point x3, .sl .entry x4], .box [.str x5, .int .i64 x6, .int .i64 x7, .str x8], .box [.own 3 [] 0, .own 4 [] 0, .own 5 [] 0], .row .kind x9 0 0 0 .no, .row .point x10 0 0 0 .no, .row .entry x11 1 0 0 .no]))) (none) := by kernel_rfl
theorem Qdbr (ks : List Kind) (ps : List Point) (es xs : List Entry) (c : Chg) (g3 : es.length ≤ 1000000000) (g4 : es.all (fun z : Entry => Qytc z.name z.fields) = true) (gx : Qnwa xs = true) (hf : ∀ e ∈ es, ∀ f ∈ e.fields, ∃ g, wnF xs e.name f.what = some g ∧ (g = f ∨ (e.name = c.flight ∧ f.what = c.what ∧ g = ⟨c.what, c.number, c.value⟩ ∧ f.number ≤ c.number))) (i : Nat) (hlt : i < es.length) (nx : Cut Qaoo Qrp3 14 [.ptr 0 0, .ptr 1 0, .ptr 2 0, .int .i64 ((i + 1 : Nat) : Int)] [.box [.sl .kind ks, .sl .point ps, .sl .entry es], .box [.str c.flight, .int .i64 c.what, .int .i64 c.number, .str c.value], .box [.own 3 [] 0, .own 4 [] 0, .own 5 [] 0], .row .kind ks 0 0 0 .no, .row .point ps 0 0 0 .no, .row .entry xs 1 0 0 .no] (.bool true) []) : ∀ (d k : Nat), k + d = es[i].fields.length →
  Cut Qaoo Qrp3 17 [.ptr 0 0, .ptr 1 0, .ptr 2 0, .int .i64 (i : Int), .int .i64 (k : Int)] [.box [.sl .kind ks, .sl .point ps, .sl .entry es], .box [.str c.flight, .int .i64 c.what, .int .i64 c.number, .str c.value], .box [.own 3 [] 0, .own 4 [] 0, .own 5 [] 0], .row .kind ks 0 0 0 .no, .row .point ps 0 0 0 .no, .row .entry xs 1 0 0 .no] (.bool true) [] := by
 have hxe : es.getD (i : Int).toNat (Qaoo.C.dflt .entry) = es[i] := by simp [hlt]
 have hie : inb (i : Int) es.length = true := by simp only [inb, Bool.and_eq_true, decide_eq_true_eq]; omega
 have hwe : IntKind.wrap .i64 ((i : Int) + 1) = ((i + 1 : Nat) : Int) := by rw [Qbrg] <;> omega
 have hz := List.all_eq_true.1 g4 es[i] (List.getElem_mem hlt)
 simp only [Qytc, Qckx, Bool.and_true, decide_eq_true_eq] at hz
 have hfe := hf es[i] (List.getElem_mem hlt)
 intro d
 induction d with
 | zero =>
  intro k hk
  refine Cut.of Qysd rfl (Qb54 i k ks ps es c.flight c.what c.number c.value ks ps xs) ?_
  rw [hxe, hie, hwe, show decide ((k : Int) < (es[i].fields.length : Int)) = false from decide_eq_false (by omega)]
  exact Sat.cut nx
 | succ d ih =>
  intro k hk
  refine Cut.of Qysd rfl (Qb54 i k ks ps es c.flight c.what c.number c.value ks ps xs) ?_
  have n2 := ih (k + 1) (by omega)
  rw [hxe, hie, gx]
  generalize es[i] = e at *
  obtain ⟨nm, l⟩ := e
  simp only at *
  have hlt2 : k < l.length := by omega
  have hw2 : IntKind.wrap .i64 ((k : Int) + 1) = ((k + 1 : Nat) : Int) := by rw [Qbrg] <;> omega
  have hw12 : IntKind.wrap .i64 ((k : Int) - 1) = (k : Int) - 1 := by rw [Qbrg] <;> omega
  have hd2 : l.drop k = l[k] :: l.drop (k + 1) := List.drop_eq_getElem_cons hlt2
  have hx2 : l.getD (k : Int).toNat (Qaoo.C.dflt .fld) = l[k] := by simp [hlt2]
  have hin2 : inb (k : Int) l.length = true := by simp only [inb, Bool.and_eq_true, decide_eq_true_eq]; omega
  have hlo2 : decide ((k : Int) < (l.length : Int)) = true := decide_eq_true (by omega)
  have htk2 := List.take_succ_eq_append_getElem hlt2
  have hl2 : (l.take (k + 1)).getLast? = some l[k] := by rw [List.take_succ_eq_append_getElem hlt2, List.getLast?_concat]
  obtain ⟨g, hg, ho⟩ := hfe l[k] (List.getElem_mem hlt2)
  rw [hlo2, hin2, hx2, hw2, hg]
  simp only [Qd8q, Option.isSome_some, Bool.not_true, Qk7y, Option.getD_some]
  rcases ho with rfl | ⟨h1, h2, rfl, h4⟩
  ·simp only [beq_self_eq_true, Bool.and_self, Bool.not_true, Qk7y]
   exact Sat.cut n2
  ·refine Sat.ifb (fun _ => ?_) (fun _ => Sat.cut n2)
   rw [show (nm == c.flight) = true by simpa using h1, show (l[k].what != c.what) = false by simpa using h2, show decide (l[k].number > c.number) = false from decide_eq_false (by omega)]
   simp only [Bool.not_true, Qk7y, bne_self_eq_false, beq_self_eq_true]
   exact Sat.cut n2
theorem Qrgk (ks : List Kind) (ps : List Point) (es xs : List Entry) (c : Chg) (g3 : es.length ≤ 1000000000) (g4 : es.all (fun z : Entry => Qytc z.name z.fields) = true) (gx : Qnwa xs = true) (hf : ∀ e ∈ es, ∀ f ∈ e.fields, ∃ g, wnF xs e.name f.what = some g ∧ (g = f ∨ (e.name = c.flight ∧ f.what = c.what ∧ g = ⟨c.what, c.number, c.value⟩ ∧ f.number ≤ c.number))) : ∀ (d i : Nat), i + d = es.length → Cut Qaoo Qrp3 14 [.ptr 0 0, .ptr 1 0, .ptr 2 0, .int .i64 (i : Int)] [.box [.sl .kind ks, .sl .point ps, .sl .entry es], .box [.str c.flight, .int .i64 c.what, .int .i64 c.number, .str c.value], .box [.own 3 [] 0, .own 4 [] 0, .own 5 [] 0], .row .kind ks 0 0 0 .no, .row .point ps 0 0 0 .no, .row .entry xs 1 0 0 .no] (.bool true) [] := by
 intro d
 induction d with
 | zero =>
  intro i hi
  refine Cut.of Qysd rfl (Qo6g i ks ps es c.flight c.what c.number c.value ks ps xs) ?_
  rw [show decide ((i : Int) < (es.length : Int)) = false from decide_eq_false (by omega)]
  exact Sat.ret rfl rfl
 | succ d ih =>
  intro i hi
  refine Cut.of Qysd rfl (Qo6g i ks ps es c.flight c.what c.number c.value ks ps xs) ?_
  rw [show decide ((i : Int) < (es.length : Int)) = true from decide_eq_true (by omega)]
  exact Sat.cut (Qdbr ks ps es xs c g3 g4 gx hf i (by omega) (ih (i + 1) (by omega)) (es[i]'(by omega)).fields.length 0 (by omega))
theorem Qs4c (c : List Int) (hg : Qf9o c = true) : Qewq Tryz.prog CP Qrp3 [.sl .u8 c] [] (.bool true) [] := by
 refine Qewq.of Qysd (by kernel_rfl) (Qbz6 c) ?_
 have yes : Sat Qaoo Qrp3 (.bool true) [] (some (.ret (.bool true) [])) := Sat.ret rfl rfl
 refine Sat.ifb (fun _ => yes) (fun _ => ?_)
 obtain ⟨gb, gv⟩ := (Qqbt c hg).2
 rw [hg]
 generalize dTake c = z at gb gv ⊢
 simp only [goodS, Bool.and_eq_true, decide_eq_true_eq] at gb
 obtain ⟨gb, _, _, h9, _⟩ := gb
 have gb2 := gb
 simp only [goodB, Bool.and_eq_true] at gb2
 obtain ⟨hz, ht⟩ := gb2
 have hr := Qk6a (c := z.c) gb gv
 have hr2 := hr
 simp only [goodB, Bool.and_eq_true] at hr2
 have same : ∀ {ks : List Kind} {ps : List Point} {es : List Entry}, Q8cx ks ps es = true → Q2xe ks ks ps ps es es = true := fun {ks ps es} h => by
  simp only [Q8cx, Q6lz, Qjyp, Bool.and_eq_true, decide_eq_true_eq, and_true] at h
  simp only [Q2xe, sameK, Bool.and_eq_true, decide_eq_true_eq, and_true]
  exact ⟨⟨h.1, h.2.1⟩, h.2.2⟩
 have hc0 : (⟨z.c.flight, z.c.what, z.c.number, z.c.value⟩ : Chg) = z.c := rfl
 rw [gb, gv, same hr2.2, hz]
 simp only [Bool.and_self, Qd8q, bne_self_eq_false, Qk7y, beq_self_eq_true, Bool.not_true]
 by_cases h0 : (takeF z.ks z.ps z.es z.c).code = 0
 ·have hb := (take_zero h0).1
  obtain ⟨e1, e2, e3⟩ := Qdgy (c := z.c) hb
  have hag := Qs5r h0
  have hff := fun e he f hf => Q0io h0 (e := e) he (f := f) hf
  rw [show ((takeF z.ks z.ps z.es z.c).code != 0) = false by simp [h0], Qk7y, e1, e2, hag, e1, e2]
  rw [e1, e2] at hr hr2
  rw [hr, same hr2.2, hr2.1, e3]
  simp only [Bool.and_self, Qd8q, Bool.not_true, Qk7y]
  simp only [Q8cx, Qnwa, Bool.and_eq_true, decide_eq_true_eq, and_true] at ht
  have tx : Qnwa (takeF z.ks z.ps z.es z.c).es = true := by
   have h := hr2.2
   simp only [Q8cx, Bool.and_eq_true, and_true] at h
   exact h.2.2
  exact Sat.cut (Qrgk z.ks z.ps z.es _ z.c ht.2.2.1 ht.2.2.2 tx hff z.es.length 0 (by omega))
 ·rw [show ((takeF z.ks z.ps z.es z.c).code != 0) = true by simpa using h0, Qd8q]
  cases hb : Qn0o z.ks z.ps z.es with
  | false =>
   have e : takeF z.ks z.ps z.es z.c = ⟨[], [], [], 1⟩ := by rw [takeF, if_neg (by simp [hb])]
   rw [e]
   exact yes
  | true =>
   have e : takeF z.ks z.ps z.es z.c = ⟨z.ks, z.ps, z.es, (takeF z.ks z.ps z.es z.c).code⟩ ∧ (takeF z.ks z.ps z.es z.c).code ≠ 1 := by
    unfold takeF at h0 ⊢
    rw [if_pos hb] at h0 ⊢
    split
    ·rename_i h1
     rw [if_pos h1] at h0
     split
     ·exact ⟨rfl, by simp⟩
     ·rename_i h2
      rw [if_neg h2] at h0
      exact absurd rfl h0
    ·exact ⟨rfl, by simp⟩
   rw [e.1]
   simp only
   rw [show ((takeF z.ks z.ps z.es z.c).code == 1) = false by simpa using e.2, Qk7y, same ht]
   exact yes
end Lx
