/- Books drawn. -/
import Derived.Shelf.SlGeneric
import Derived.Shelf.SlSortCmp.WholeK
import Derived.Shelf.Small.Strs
import Derived.KernelRfl
import Derived.Test.YtefjaihaocdpcaaGreatDoorProg
import Derived.Lib.Bytealg
import Derived.Sort.Statements
import Derived.Shelf.GgSortFunc.InsertionK
import Derived.Shelf.SlSortCmp.Insertion
import Derived.Lib.Walk
import Derived.Test.YtefjaihaocdpcaaGreatDoorLhicachincn
import Derived.Test.YtefjaihaocdpcaaGreatDoorLlnfjfcjpgp
set_option linter.unusedVariables false
set_option linter.unusedSimpArgs false
set_option maxRecDepth 4000
namespace Lx
open Go Go.Proofs
noncomputable def Qoc9 : RE Ty El:=⟨Tryz.prog,CP,[(Qpxs,Q7v2),(Qbeb,Q8t5),(Qwqy,Q0t5),(Qlb4,Q2m7),(Q43w,Qfl5),(Qstj,Qmce)],Tryz.f142,1,[.agg [.ro .kind,.ro .point,.ro .entry]],[(4,[(0,.box [.ro .kind,.ro .point,.ro .entry]),(3,.box [.ro .kind,.ro .point,.ro .entry]),(4,.box [.ro .kind,.ro .point,.ro .entry]),(5,.box [.ro .kind,.ro .point,.ro .entry]),(6,.box [.ro .kind,.ro .point,.ro .entry])]),(10,[(4,.box [.ro .kind,.ro .point,.ro .entry]),(5,.box [.ro .kind,.ro .point,.ro .entry]),(7,.box [.ro .kind,.ro .point,.ro .entry])]),(7,[(0,.box [.ro .kind,.ro .point,.ro .entry]),(3,.box [.ro .kind,.ro .point,.ro .entry]),(4,.box [.ro .kind,.ro .point,.ro .entry]),(5,.box [.ro .kind,.ro .point,.ro .entry])])]⟩
theorem Q692 : REOK Qoc9 Q604:=⟨CP_ok,(TabOK.cons Q0e7 (TabOK.cons Q2a7 (TabOK.cons Qnck (TabOK.cons Qyvn (TabOK.cons Qel0 (TabOK.cons Qqii Qye1)))))),by kernel_rfl,by kernel_rfl⟩
theorem Qh82 (bs : List Int) (p : Int) (ks : List Kind) (ps : List Point) : aRun Qoc9 600 false (body0 Qoc9.fn) (Q4gm Qoc9.fn [.ptr 0 0,.agg [.sl .kind ks,.sl .point ps]] [.box [.sl .u8 bs,.int .i64 p]]) =
 ifb (posOk p) (ifb (decide (pickV bs p (3 : Int) > (0 : Int))) (some (.go (Qu6t Qoc9.fn 4) [.ptr 0 0,.ptr 1 0,.ptr 2 0,.ptr 3 0,.int .i64 (1 : Int)] [.box [.sl .u8 bs,.int .i64 (p + (1 : Int))],.box [.sl .kind ks,.sl .point ps],.box [.sl .kind [],.sl .point [],.sl .entry []],.box [.sl .kind ks,.sl .point ps,.sl .entry []]])) (some (.go (Qu6t Qoc9.fn 7) [.ptr 0 0,.ptr 1 0,.ptr 2 0,.ptr 3 0] [.box [.sl .u8 bs,.int .i64 (p + (1 : Int))],.box [.sl .kind ks,.sl .point ps],.box [.sl .kind [],.sl .point [],.sl .entry []],.box [.sl .kind ks,.sl .point ps,.sl .entry []]]))) (none):=by kernel_rfl
theorem Qbfw (x0 : Int) (x1 : List (El .u8)) (x2 : Int) (x3 : List (El .kind)) (x4 : List (El .point)) (x5 : List (El .kind)) (x6 : List (El .point)) (x7 : List (El .entry)) (x8 : List (El .kind)) (x9 : List (El .point)) (x10 : List (El .entry)) : aRun Qoc9 600 true (Qu6t Qoc9.fn 4) (cutSt Qoc9.fn (Q1m4 Qoc9 (Qu6t Qoc9.fn 4)) [.ptr 0 0,.ptr 1 0,.ptr 2 0,.ptr 3 0,.int .i64 x0] [.box [.sl .u8 x1,.int .i64 x2],.box [.sl .kind x3,.sl .point x4],.box [.sl .kind x5,.sl .point x6,.sl .entry x7],.box [.sl .kind x8,.sl .point x9,.sl .entry x10]]) =
 ifb (decide (x0 ≤ (4 : Int))) (ifb (valK x1 x2 x3 x4) (ifb (goodB x8 x9 x10 && szV (dVal x1 x2 x3 x4 x0).s) (some (.go (Qu6t Qoc9.fn 4) [.ptr 0 0,.ptr 1 0,.ptr 2 0,.ptr 3 0,.int .i64 (IntKind.i64.wrap (x0 + (1 : Int)))] [.box [.sl .u8 x1,.int .i64 ((dVal x1 x2 x3 x4 x0).p)],.box [.sl .kind x3,.sl .point x4],.box [.sl .kind x5,.sl .point x6,.sl .entry x7],.box [.sl .kind ((takeF x8 x9 x10 (Chg.mk #[(107 : UInt8),(108 : UInt8),(49 : UInt8)].toList x0 (1 : Int) (dVal x1 x2 x3 x4 x0).s)).ks),.sl .point ((takeF x8 x9 x10 (Chg.mk #[(107 : UInt8),(108 : UInt8),(49 : UInt8)].toList x0 (1 : Int) (dVal x1 x2 x3 x4 x0).s)).ps),.sl .entry ((takeF x8 x9 x10 (Chg.mk #[(107 : UInt8),(108 : UInt8),(49 : UInt8)].toList x0 (1 : Int) (dVal x1 x2 x3 x4 x0).s)).es)]])) (none)) (none)) (some (.go (Qu6t Qoc9.fn 7) [.ptr 0 0,.ptr 1 0,.ptr 2 0,.ptr 3 0] [.box [.sl .u8 x1,.int .i64 x2],.box [.sl .kind x3,.sl .point x4],.box [.sl .kind x5,.sl .point x6,.sl .entry x7],.box [.sl .kind x8,.sl .point x9,.sl .entry x10]])):=by kernel_rfl
theorem Qui8 (x0 : List (El .u8)) (x1 : Int) (x2 : List (El .kind)) (x3 : List (El .point)) (x4 : List (El .kind)) (x5 : List (El .point)) (x6 : List (El .entry)) (x7 : List (El .kind)) (x8 : List (El .point)) (x9 : List (El .entry)) : aRun Qoc9 600 true (Qu6t Qoc9.fn 7) (cutSt Qoc9.fn (Q1m4 Qoc9 (Qu6t Qoc9.fn 7)) [.ptr 0 0,.ptr 1 0,.ptr 2 0,.ptr 3 0] [.box [.sl .u8 x0,.int .i64 x1],.box [.sl .kind x2,.sl .point x3],.box [.sl .kind x4,.sl .point x5,.sl .entry x6],.box [.sl .kind x7,.sl .point x8,.sl .entry x9]]) =
 ifb (chgsK x0 x1 x2 x3 (24 : Int)) (ifb (tkK x7 x8 x9 (dChgs x0 x1 x2 x3 (24 : Int)).l) (ifb (posOk (dChgs x0 x1 x2 x3 (24 : Int)).p) (ifb (pickV x0 (dChgs x0 x1 x2 x3 (24 : Int)).p (16 : Int) == (0 : Int)) (some (.go (Qu6t Qoc9.fn 10) [.ptr 1 0,.ptr 2 0,.int .i64 (0 : Int)] [.box [.sl .u8 x0,.int .i64 ((dChgs x0 x1 x2 x3 (24 : Int)).p + (1 : Int))],.box [.sl .kind x4,.sl .point x5,.sl .entry x6],.box [.sl .kind x7,.sl .point x8,.sl .entry ((dTk x7 x8 x9 (dChgs x0 x1 x2 x3 (24 : Int)).l).es)]])) (some (.ret (.agg [.sl .kind x7,.sl .point x8,.sl .entry ((dTk x7 x8 x9 (dChgs x0 x1 x2 x3 (24 : Int)).l).es)]) [.box [.sl .u8 x0,.int .i64 ((dChgs x0 x1 x2 x3 (24 : Int)).p + (1 : Int))]]))) (none)) (none)) (none):=by kernel_rfl
theorem Qvgp (x0 : Int) (x1 : List (El .u8)) (x2 : Int) (x3 : List (El .kind)) (x4 : List (El .point)) (x5 : List (El .entry)) (x6 : List (El .kind)) (x7 : List (El .point)) (x8 : List (El .entry)) : aRun Qoc9 600 true (Qu6t Qoc9.fn 10) (cutSt Qoc9.fn (Q1m4 Qoc9 (Qu6t Qoc9.fn 10)) [.ptr 1 0,.ptr 2 0,.int .i64 x0] [.box [.sl .u8 x1,.int .i64 x2],.box [.sl .kind x3,.sl .point x4,.sl .entry x5],.box [.sl .kind x6,.sl .point x7,.sl .entry x8]]) =
 ifb (decide (x0 < (12 : Int))) (ifb (decide ((0 : Int) ≤ x0) && decide (x0 < (10 : Int) ^ ((4 : Nat) + (1 : Nat)))) (ifb (decide (#[(102 : UInt8)].toList.length + List.length (dDec (4 : Nat) x0) ≤ (9223372036854775807 : Nat))) (ifb (goodB x6 x7 x8 && szV #[(50 : UInt8)].toList) (some (.go (Qu6t Qoc9.fn 10) [.ptr 1 0,.ptr 2 0,.int .i64 (IntKind.i64.wrap (x0 + (1 : Int)))] [.box [.sl .u8 x1,.int .i64 x2],.box [.sl .kind x3,.sl .point x4,.sl .entry x5],.box [.sl .kind ((takeF x6 x7 x8 (Chg.mk (#[(102 : UInt8)].toList ++ dDec (4 : Nat) x0) (3 : Int) (5 : Int) #[(50 : UInt8)].toList)).ks),.sl .point ((takeF x6 x7 x8 (Chg.mk (#[(102 : UInt8)].toList ++ dDec (4 : Nat) x0) (3 : Int) (5 : Int) #[(50 : UInt8)].toList)).ps),.sl .entry ((takeF x6 x7 x8 (Chg.mk (#[(102 : UInt8)].toList ++ dDec (4 : Nat) x0) (3 : Int) (5 : Int) #[(50 : UInt8)].toList)).es)]])) (none)) (none)) (none)) (some (.ret (.agg [.sl .kind x6,.sl .point x7,.sl .entry x8]) [.box [.sl .u8 x1,.int .i64 x2]])):=by kernel_rfl
theorem Q8ao (bs : List Int) (ks : List Kind) (ps : List Point) (q : Int) (r0 : List Kind) (r1 : List Point) (r2 : List Entry) : ∀ (d i : Nat) (es : List Entry),i + d = 12 → goodE ks ps es = true →
  CutE Qoc9 Q604 10 [.ptr 1 0,.ptr 2 0,.int .i64 (i : Int)] [.box [.sl .u8 bs,.int .i64 q],.box [.sl .kind r0,.sl .point r1,.sl .entry r2],.box [.sl .kind ks,.sl .point ps,.sl .entry es]] (fun v h=>∃ x : BkP,v = (.agg [.sl .kind ks,.sl .point ps,.sl .entry x.es]) ∧ h = [.box [.sl .u8 bs,.int .i64 x.p]] ∧ goodE ks ps x.es = true ∧ q ≤ x.p ∧ x.p ≤ q + 0):=by
 intro d
 induction d with
 | zero =>
  intro i es hi hg
  refine CutE.of Q692 rfl (Qvgp i bs q r0 r1 r2 ks ps es) ?_
  rw [show decide ((i : Int) < 12) = false from decide_eq_false (by omega),Qk7y]
  exact SatE.ret ⟨⟨es,q⟩,rfl,rfl,hg,by simp,by simp⟩
 | succ d ih =>
  intro i es hi hg
  refine CutE.of Q692 rfl (Qvgp i bs q r0 r1 r2 ks ps es) ?_
  have hw : IntKind.i64.wrap ((i : Int) + 1) = ((i + 1 : Nat) : Int):=by rw [Qbrg] <;> omega
  obtain ⟨g1,l1⟩:=decs (n:=(i : Int)) (by omega) (by omega)
  have hgb:=hg
  simp only [goodE,Bool.and_eq_true] at hgb
  have hz : szV #[(50 : UInt8)].toList = true:=decide_eq_true (by simp)
  obtain ⟨t1,t2,t3⟩:=Qy7k (c:=(Chg.mk (#[(102 : UInt8)].toList ++ dDec (4 : Nat) (i : Int)) (3 : Int) (5 : Int) #[(50 : UInt8)].toList)) hg hz
  rw [show decide ((i : Int) < 12) = true from decide_eq_true (by omega),hw,t1,t2,Qd8q]
  exact SatE.need g1 (SatE.need (decide_eq_true (by simp; omega)) (SatE.need (by rw [Bool.and_eq_true]; exact ⟨hgb.2,hz⟩) (SatE.cut (ih (i + 1) _ (by omega) t3))))
theorem Q8ui (bs : List Int) (ks : List Kind) (ps : List Point) (hbs : Qf9o bs = true) (hb : Qib4 ks ps = true) (h1 : 1 ≤ ps.length) (q : Int) (h0 : 0 ≤ q) (hq : q ≤ 880000) (r0 : List Kind) (r1 : List Point) (r2 : List Entry) (es : List Entry) (hg : goodE ks ps es = true) :
  CutE Qoc9 Q604 7 [.ptr 0 0,.ptr 1 0,.ptr 2 0,.ptr 3 0] [.box [.sl .u8 bs,.int .i64 q],.box [.sl .kind ks,.sl .point ps],.box [.sl .kind r0,.sl .point r1,.sl .entry r2],.box [.sl .kind ks,.sl .point ps,.sl .entry es]] (fun v h=>∃ x : BkP,v = (.agg [.sl .kind ks,.sl .point ps,.sl .entry x.es]) ∧ h = [.box [.sl .u8 bs,.int .i64 x.p]] ∧ goodE ks ps x.es = true ∧ q ≤ x.p ∧ x.p ≤ q + 801):=by
 refine CutE.of Q692 rfl (Qui8 bs q ks ps r0 r1 r2 ks ps es) ?_
 have hc : chgsK bs q ks ps 24 = true:=by simp only [chgsK,Bool.and_eq_true,decide_eq_true_eq]; exact ⟨hbs,h0,hq,hb,h1,by omega,by omega⟩
 obtain ⟨c1,c2,c3,c4⟩:=(Qbm6 bs q ks ps 24 hc).2
 have ht : tkK ks ps es (dChgs bs q ks ps 24).l = true:=by simp only [tkK,Bool.and_eq_true,decide_eq_true_eq]; exact ⟨hg,by omega,c2⟩
 have hd:=(Qhv6 ks ps es _ ht).2
 refine SatE.need hc (SatE.need ht (SatE.need (Q8s4 (by omega) (by omega)) (SatE.ifb (fun _=>?_) (fun _=>?_))))
 ·refine SatE.mono (SatE.cut (Q8ao bs ks ps _ r0 r1 r2 12 0 _ (by omega) hd)) ?_
  rintro v h ⟨x,rfl,rfl,a1,a2,a3⟩
  exact ⟨x,rfl,rfl,a1,by omega,by omega⟩
 ·exact SatE.ret ⟨⟨_,_⟩,rfl,rfl,hd,by show q ≤ (dChgs bs q ks ps 24).p + 1; omega,by show (dChgs bs q ks ps 24).p + 1 ≤ q + 801; omega⟩
theorem Qygj (bs : List Int) (ks : List Kind) (ps : List Point) (hbs : Qf9o bs = true) (hb : Qib4 ks ps = true) (h1 : 1 ≤ ps.length) (r0 : List Kind) (r1 : List Point) (r2 : List Entry) : ∀ (d i : Nat) (es : List Entry) (q : Int),i + d = 5 → 1 ≤ i → 0 ≤ q → q + 20 * d ≤ 880000 → goodE ks ps es = true →
  CutE Qoc9 Q604 4 [.ptr 0 0,.ptr 1 0,.ptr 2 0,.ptr 3 0,.int .i64 (i : Int)] [.box [.sl .u8 bs,.int .i64 q],.box [.sl .kind ks,.sl .point ps],.box [.sl .kind r0,.sl .point r1,.sl .entry r2],.box [.sl .kind ks,.sl .point ps,.sl .entry es]] (fun v h=>∃ x : BkP,v = (.agg [.sl .kind ks,.sl .point ps,.sl .entry x.es]) ∧ h = [.box [.sl .u8 bs,.int .i64 x.p]] ∧ goodE ks ps x.es = true ∧ q ≤ x.p ∧ x.p ≤ q + (801 + 20 * d)):=by
 intro d
 induction d with
 | zero =>
  intro i es q hi h1i h0 hq hg
  refine CutE.of Q692 rfl (Qbfw i bs q ks ps r0 r1 r2 ks ps es) ?_
  rw [show decide ((i : Int) ≤ 4) = false from decide_eq_false (by omega),Qk7y]
  exact SatE.mono (SatE.cut (Q8ui bs ks ps hbs hb h1 q h0 (by omega) r0 r1 r2 es hg)) (fun v h ⟨x,e1,e2,a1,a2,a3⟩=>⟨x,e1,e2,a1,a2,by omega⟩)
 | succ d ih =>
  intro i es q hi h1i h0 hq hg
  refine CutE.of Q692 rfl (Qbfw i bs q ks ps r0 r1 r2 ks ps es) ?_
  have hw : IntKind.i64.wrap ((i : Int) + 1) = ((i + 1 : Nat) : Int):=by rw [Qbrg] <;> omega
  have hv : valK bs q ks ps = true:=by simp only [valK,rdK,Bool.and_eq_true,decide_eq_true_eq]; exact ⟨⟨hbs,by omega,by omega⟩,(Qd1y hb).1,(Qd1y hb).2,h1⟩
  obtain ⟨v1,v2,v3⟩:=(Qpyo bs q ks ps (i : Int) hv).2
  have hz : szV (dVal bs q ks ps (i : Int)).s = true:=decide_eq_true (by omega)
  have hgb:=hg
  simp only [goodE,Bool.and_eq_true] at hgb
  obtain ⟨t1,t2,t3⟩:=Qy7k (c:=(Chg.mk #[(107 : UInt8),(108 : UInt8),(49 : UInt8)].toList (i : Int) (1 : Int) (dVal bs q ks ps (i : Int)).s)) hg hz
  rw [show decide ((i : Int) ≤ 4) = true from decide_eq_true (by omega),hv,hw,hgb.2,hz,t1,t2]
  simp only [Qd8q,Bool.true_and]
  exact SatE.mono (SatE.cut (ih (i + 1) _ (dVal bs q ks ps (i : Int)).p (by omega) (by omega) (by omega) (by omega) t3)) (fun v h ⟨x,e1,e2,a1,a2,a3⟩=>⟨x,e1,e2,a1,by omega,by omega⟩)
theorem Q4mo (bs : List Int) (p : Int) (ks : List Kind) (ps : List Point) (hg : bkK bs p ks ps = true) : Qewq Tryz.prog CP Q604 [.ptr 0 0,.agg [.sl .kind ks,.sl .point ps]] [.box [.sl .u8 bs,.int .i64 p]] (.agg [.sl .kind ks,.sl .point ps,.sl .entry (dBook bs p ks ps).es]) [.box [.sl .u8 bs,.int .i64 (dBook bs p ks ps).p]] ∧ Qv5n ks ps p (dBook bs p ks ps):=by
 simp only [bkK,Bool.and_eq_true,decide_eq_true_eq] at hg
 obtain ⟨hbs,h0,h9,hb,h1⟩:=hg
 have hE : CallE Qoc9.P Qoc9.C Q604 [.ptr 0 0,.agg [.sl .kind ks,.sl .point ps]] [.box [.sl .u8 bs,.int .i64 p]] (fun v h=>∃ x : BkP,v = (.agg [.sl .kind ks,.sl .point ps,.sl .entry x.es]) ∧ h = [.box [.sl .u8 bs,.int .i64 x.p]] ∧ Qv5n ks ps p x):=by
  refine CallE.of Q692 (by kernel_rfl) (Qh82 bs p ks ps) ?_
  refine SatE.need (Q8s4 (by omega) (by omega)) (SatE.ifb (fun _=>?_) (fun _=>?_))
  ·exact SatE.mono (SatE.cut (Qygj bs ks ps hbs hb h1 [] [] [] 4 1 [] (p + 1) (by omega) (by omega) (by omega) (by omega) (Qkew hb))) (fun v h ⟨x,e1,e2,a1,a2,a3⟩=>⟨x,e1,e2,a1,by omega,by omega⟩)
  ·exact SatE.mono (SatE.cut (Q8ui bs ks ps hbs hb h1 (p + 1) (by omega) (by omega) [] [] [] [] (Qkew hb))) (fun v h ⟨x,e1,e2,a1,a2,a3⟩=>⟨x,e1,e2,a1,by omega,by omega⟩)
 obtain ⟨v,H',h,x,rfl,rfl,hx⟩:=hE
 exact Qk78 (p:=fun x : BkP=>Qewq Tryz.prog CP Q604 [.ptr 0 0,.agg [.sl .kind ks,.sl .point ps]] [.box [.sl .u8 bs,.int .i64 p]] (.agg [.sl .kind ks,.sl .point ps,.sl .entry x.es]) [.box [.sl .u8 bs,.int .i64 x.p]] ∧ Qv5n ks ps p x) ⟨x,h,hx⟩
theorem Qyzu (bs : List Int) (p : Int) (ks : List Kind) (ps : List Point) (hg : bkK bs p ks ps = true) : Qewq Tryz.prog CP Q604 [.ptr 0 0,.agg [.sl .kind ks,.sl .point ps]] [.box [.sl .u8 bs,.int .i64 p]] (.agg [.sl .kind ks,.sl .point ps,.sl .entry (dBook bs p ks ps).es]) [.box [.sl .u8 bs,.int .i64 (dBook bs p ks ps).p]]:=by
 exact (Q4mo bs p ks ps hg).1
theorem Qtpw : EntOK Tryz.prog CP Q604 Qnfe:=by
 refine ⟨⟨Tryz.f142,by kernel_rfl,by kernel_rfl,by kernel_rfl⟩,fun args H res H' h=>?_⟩
 simp only [Qnfe] at h
 split at h
 ·simp only [Option.some.injEq,Prod.mk.injEq] at h
  obtain ⟨hg,rfl,rfl⟩:=h
  exact Qyzu _ _ _ _ hg
 ·cases h
end Lx
namespace Lx
open Go Go.Proofs
def Qp6t (p : Int) (x : BaseP) : Prop:=x.ks.length ≤ 20 ∧ x.ps.length ≤ 100 ∧ p ≤ x.p ∧ x.p ≤ p + 60 ∧ Qeqt x.ps = true
noncomputable def dSp (bs : List Int) (p : Int) (ks : List Kind) (ps : List Point) : BaseP:=drawn (fun x=>Qewq Tryz.prog CP Q963 [.ptr 0 0,.agg [.sl .kind ks,.sl .point ps]] [.box [.sl .u8 bs,.int .i64 p]] (.agg [.sl .kind x.ks,.sl .point x.ps]) [.box [.sl .u8 bs,.int .i64 x.p]] ∧ Qp6t p x)
def spK (bs : List Int) (p : Int) (ks : List Kind) (ps : List Point) : Bool:=Qf9o bs && (decide (0 ≤ p) && (decide (p ≤ 880000) && (decide (1 ≤ ks.length) && (decide (ks.length ≤ 10) && (decide (1 ≤ ps.length) && (decide (ps.length ≤ 40) && Qeqt ps))))))
noncomputable def Qx4k : Ent Ty El:=⟨[.io,.ro],0,fun a h=>match a,h with
 | [.ptr 0 0,.agg [.sl .kind ks,.sl .point ps]],[.box [.sl .u8 bs,.int .i64 p]]=>some (spK bs p ks ps,.agg [.sl .kind (dSp bs p ks ps).ks,.sl .point (dSp bs p ks ps).ps],[.box [.sl .u8 bs,.int .i64 (dSp bs p ks ps).p]])
 | _,_=>none⟩
theorem inb3 {n a b c : Int} (h : 0 ≤ n ∧ n < 3) : inb n [a,b,c].length = true:=by
 simp only [inb,List.length_cons,List.length_nil,Bool.and_eq_true,decide_eq_true_eq]; omega
theorem inbL {α : Type} {n : Int} {l : List α} (h : 0 ≤ n ∧ n < (l.length : Int)) : inb n l.length = true:=by
 simp only [inb,Bool.and_eq_true,decide_eq_true_eq]; exact h
end Lx
namespace Lx
open Go Go.Proofs
noncomputable def Qam6 : RE Ty El:=⟨Tryz.prog,CP,[(Qpxs,Q7v2),(Qchm,Q2vb),(Q373,Qf5p),(Q1eg,Qvc4),(Qstj,Qmce)],Tryz.f119,1,[.agg [.ro .kind,.ro .point]],[(23,[(0,.any),(4,.any),(5,.any),(8,.any)]),(6,[(0,.any),(4,.any),(5,.any),(9,.any)])]⟩
theorem Qj2r : REOK Qam6 Q963:=⟨CP_ok,(TabOK.cons Q0e7 (TabOK.cons Qyvd (TabOK.cons Qoq9 (TabOK.cons Q8hv (TabOK.cons Qqii Qye1))))),by kernel_rfl,by kernel_rfl⟩
theorem Qbvz (bs : List Int) (p : Int) (ks : List Kind) (ps : List Point) : aRun Qam6 600 false (body0 Qam6.fn) (Q4gm Qam6.fn [.ptr 0 0,.agg [.sl .kind ks,.sl .point ps]] [.box [.sl .u8 bs,.int .i64 p]]) =
 ifb (Qzta ks ps) (ifb (posOk p) (ifb (posOk (p + (1 : Int))) (ifb (posOk (p + (1 : Int) + (1 : Int))) (ifb (pickV bs (p + (1 : Int) + (1 : Int)) (8 : Int) == (0 : Int)) (ifb (posOk (p + (1 : Int) + (1 : Int) + (1 : Int))) (ifb (decide (#[(107 : UInt8)].toList.length ≤ (1 : Nat)) && decide (IntKind.i64.wrap ((8 : Int) + pickV bs (p + (1 : Int) + (1 : Int) + (1 : Int)) (2 : Int)) < (64 : Int))) (ifb (rdOk bs (p + (1 : Int) + (1 : Int) + (1 : Int) + (1 : Int)) && decide ((0 : Nat) < [#[].toList, #[(65 : UInt8)].toList, #[(122 : UInt8),(122 : UInt8)].toList, #[(97 : UInt8),(49 : UInt8)].toList,dMany #[(107 : UInt8)].toList (IntKind.i64.wrap ((8 : Int) + pickV bs (p + (1 : Int) + (1 : Int) + (1 : Int)) (2 : Int)))].length)) (ifb (inb (pickV bs p (↑ks.length : Int)) ks.length) (some (.ret (.agg [.sl .kind (ks.set (pickV bs p (↑ks.length : Int)).toNat (Kind.mk (ofV bs (p + (1 : Int) + (1 : Int) + (1 : Int) + (1 : Int)) [#[].toList, #[(65 : UInt8)].toList, #[(122 : UInt8),(122 : UInt8)].toList, #[(97 : UInt8),(49 : UInt8)].toList,dMany #[(107 : UInt8)].toList (IntKind.i64.wrap ((8 : Int) + pickV bs (p + (1 : Int) + (1 : Int) + (1 : Int)) (2 : Int)))]) (ks.getD (pickV bs p (↑ks.length : Int)).toNat (Qam6.C.dflt Ty.kind)).quick (ks.getD (pickV bs p (↑ks.length : Int)).toNat (Qam6.C.dflt Ty.kind)).slow)),.sl .point ps]) [.box [.sl .u8 bs,.int .i64 (p + (1 : Int) + (1 : Int) + (1 : Int) + (1 : Int) + (1 : Int))]])) (none)) (none)) (none)) (none)) (ifb (pickV bs (p + (1 : Int) + (1 : Int)) (8 : Int) == (1 : Int)) (ifb (posOk (p + (1 : Int) + (1 : Int) + (1 : Int))) (ifb (inb (pickV bs p (↑ks.length : Int)) ks.length) (some (.ret (.agg [.sl .kind (ks.set (pickV bs p (↑ks.length : Int)).toNat (Kind.mk (ks.getD (pickV bs p (↑ks.length : Int)).toNat (Qam6.C.dflt Ty.kind)).name (IntKind.i64.wrap (pickV bs (p + (1 : Int) + (1 : Int) + (1 : Int)) (9 : Int) - (1 : Int))) (ks.getD (pickV bs p (↑ks.length : Int)).toNat (Qam6.C.dflt Ty.kind)).slow)),.sl .point ps]) [.box [.sl .u8 bs,.int .i64 (p + (1 : Int) + (1 : Int) + (1 : Int) + (1 : Int))]])) (none)) (none)) (ifb (pickV bs (p + (1 : Int) + (1 : Int)) (8 : Int) == (2 : Int)) (ifb (posOk (p + (1 : Int) + (1 : Int) + (1 : Int))) (ifb (inb (pickV bs (p + (1 : Int) + (1 : Int) + (1 : Int)) (3 : Int)) [(0 : Int),(50 : Int),(51 : Int)].length) (ifb (inb (pickV bs p (↑ks.length : Int)) ks.length) (some (.ret (.agg [.sl .kind (ks.set (pickV bs p (↑ks.length : Int)).toNat (Kind.mk (ks.getD (pickV bs p (↑ks.length : Int)).toNat (Qam6.C.dflt Ty.kind)).name (ks.getD (pickV bs p (↑ks.length : Int)).toNat (Qam6.C.dflt Ty.kind)).quick ([(0 : Int),(50 : Int),(51 : Int)].getD (pickV bs (p + (1 : Int) + (1 : Int) + (1 : Int)) (3 : Int)).toNat (Qam6.C.dflt Ty.int)))),.sl .point ps]) [.box [.sl .u8 bs,.int .i64 (p + (1 : Int) + (1 : Int) + (1 : Int) + (1 : Int))]])) (none)) (none)) (none)) (ifb (pickV bs (p + (1 : Int) + (1 : Int)) (8 : Int) == (3 : Int)) (ifb (rdOk bs (p + (1 : Int) + (1 : Int) + (1 : Int)) && decide ((0 : Nat) < [#[].toList, #[(80 : UInt8)].toList, #[(122 : UInt8),(122 : UInt8)].toList, #[(97 : UInt8),(108 : UInt8),(102 : UInt8),(97 : UInt8)].toList].length)) (ifb (inb (pickV bs (p + (1 : Int)) (↑ps.length : Int)) ps.length) (some (.ret (.agg [.sl .kind ks,.sl .point (ps.set (pickV bs (p + (1 : Int)) (↑ps.length : Int)).toNat (Point.mk (ofV bs (p + (1 : Int) + (1 : Int) + (1 : Int)) [#[].toList, #[(80 : UInt8)].toList, #[(122 : UInt8),(122 : UInt8)].toList, #[(97 : UInt8),(108 : UInt8),(102 : UInt8),(97 : UInt8)].toList]) (ps.getD (pickV bs (p + (1 : Int)) (↑ps.length : Int)).toNat (Qam6.C.dflt Ty.point)).x (ps.getD (pickV bs (p + (1 : Int)) (↑ps.length : Int)).toNat (Qam6.C.dflt Ty.point)).y))]) [.box [.sl .u8 bs,.int .i64 (p + (1 : Int) + (1 : Int) + (1 : Int) + (1 : Int))]])) (none)) (none)) (ifb (pickV bs (p + (1 : Int) + (1 : Int)) (8 : Int) == (4 : Int)) (ifb (posOk (p + (1 : Int) + (1 : Int) + (1 : Int))) (ifb (inb (pickV bs (p + (1 : Int) + (1 : Int) + (1 : Int)) (3 : Int)) [(-1 : Int),(16 : Int),(0 : Int)].length) (ifb (inb (pickV bs (p + (1 : Int)) (↑ps.length : Int)) ps.length) (some (.ret (.agg [.sl .kind ks,.sl .point (ps.set (pickV bs (p + (1 : Int)) (↑ps.length : Int)).toNat (Point.mk (ps.getD (pickV bs (p + (1 : Int)) (↑ps.length : Int)).toNat (Qam6.C.dflt Ty.point)).name ([(-1 : Int),(16 : Int),(0 : Int)].getD (pickV bs (p + (1 : Int) + (1 : Int) + (1 : Int)) (3 : Int)).toNat (Qam6.C.dflt Ty.int)) (ps.getD (pickV bs (p + (1 : Int)) (↑ps.length : Int)).toNat (Qam6.C.dflt Ty.point)).y))]) [.box [.sl .u8 bs,.int .i64 (p + (1 : Int) + (1 : Int) + (1 : Int) + (1 : Int))]])) (none)) (none)) (none)) (ifb (pickV bs (p + (1 : Int) + (1 : Int)) (8 : Int) == (5 : Int)) (ifb (inb (pickV bs (p + (1 : Int)) (↑ps.length : Int)) ps.length) (ifb (inb (pickV bs (p + (1 : Int)) (↑ps.length : Int)) ps.length) (ifb (decide ((ps.length + [Point.mk #[(122 : UInt8),(122 : UInt8)].toList (ps.getD (pickV bs (p + (1 : Int)) (↑ps.length : Int)).toNat (Qam6.C.dflt Ty.point)).x (ps.getD (pickV bs (p + (1 : Int)) (↑ps.length : Int)).toNat (Qam6.C.dflt Ty.point)).y].length) * Qbhn Qam6.P (160 : Nat) ≤ (140737488355328 : Nat))) (some (.ret (.agg [.sl .kind ks,.sl .point (ps ++ [Point.mk #[(122 : UInt8),(122 : UInt8)].toList (ps.getD (pickV bs (p + (1 : Int)) (↑ps.length : Int)).toNat (Qam6.C.dflt Ty.point)).x (ps.getD (pickV bs (p + (1 : Int)) (↑ps.length : Int)).toNat (Qam6.C.dflt Ty.point)).y])]) [.box [.sl .u8 bs,.int .i64 (p + (1 : Int) + (1 : Int) + (1 : Int))]])) (none)) (none)) (none)) (ifb (pickV bs (p + (1 : Int) + (1 : Int)) (8 : Int) == (6 : Int)) (some (.go (Qu6t Qam6.fn 23) [.ptr 0 0,.ptr 1 0,.ptr 2 0,.int .i64 (0 : Int)] [.box [.sl .u8 bs,.int .i64 (p + (1 : Int) + (1 : Int) + (1 : Int))],.box [.nils,.nils],.box [.own 3 [] 0,.own 4 [] 0],.row .kind ks 0 0 0 .no,.row .point ps 0 0 0 .no])) (some (.go (Qu6t Qam6.fn 6) [.ptr 0 0,.ptr 1 0,.ptr 2 0,.int .i64 (0 : Int)] [.box [.sl .u8 bs,.int .i64 (p + (1 : Int) + (1 : Int) + (1 : Int))],.box [.nils,.nils],.box [.own 3 [] 0,.own 4 [] 0],.row .kind ks 0 0 0 .no,.row .point ps 0 0 0 .no]))))))))) (none)) (none)) (none)) (none):=by kernel_rfl
theorem Qkno (x0 : Int) (x1 : List (El .u8)) (x2 : Int) (x3 : List (El .kind)) (x4 : List (El .point)) : aRun Qam6 600 true (Qu6t Qam6.fn 23) (cutSt Qam6.fn (Q1m4 Qam6 (Qu6t Qam6.fn 23)) [.ptr 0 0,.ptr 1 0,.ptr 2 0,.int .i64 x0] [.box [.sl .u8 x1,.int .i64 x2],.box [.nils,.nils],.box [.own 3 [] 0,.own 4 [] 0],.row .kind x3 0 0 0 .no,.row .point x4 0 0 0 .no]) =
 ifb (posOk x2) (ifb (decide ((↑x3.length : Int) < IntKind.i64.wrap ((6 : Int) + pickV x1 x2 (2 : Int)))) (ifb (decide (x0 < (9 : Int))) (ifb (decide ((0 : Int) ≤ x0) && decide (x0 < (10 : Int) ^ ((4 : Nat) + (1 : Nat)))) (ifb (decide (#[(116 : UInt8)].toList.length + List.length (dDec (4 : Nat) x0) ≤ (9223372036854775807 : Nat))) (ifb (decide ((x3.length + [Kind.mk (#[(116 : UInt8)].toList ++ dDec (4 : Nat) x0) (1 : Int) (1 : Int)].length) * Qbhn Qam6.P (40 : Nat) ≤ (140737488355328 : Nat))) (some (.go (Qu6t Qam6.fn 23) [.ptr 0 0,.ptr 1 0,.ptr 2 0,.int .i64 (IntKind.i64.wrap (x0 + (1 : Int)))] [.box [.sl .u8 x1,.int .i64 (x2 + (1 : Int))],.box [.nils,.nils],.box [.own 3 [] 0,.own 4 [] 0],.row .kind (x3 ++ [Kind.mk (#[(116 : UInt8)].toList ++ dDec (4 : Nat) x0) (1 : Int) (1 : Int)]) 0 0 0 .no,.row .point x4 0 0 0 .no])) (none)) (none)) (none)) (some (.ret (.agg [.sl .kind x3,.sl .point x4]) [.box [.sl .u8 x1,.int .i64 (x2 + (1 : Int))]]))) (some (.ret (.agg [.sl .kind x3,.sl .point x4]) [.box [.sl .u8 x1,.int .i64 (x2 + (1 : Int))]]))) (none):=by kernel_rfl
theorem Qkh0 (x0 : Int) (x1 : List (El .u8)) (x2 : Int) (x3 : List (El .kind)) (x4 : List (El .point)) : aRun Qam6 600 true (Qu6t Qam6.fn 6) (cutSt Qam6.fn (Q1m4 Qam6 (Qu6t Qam6.fn 6)) [.ptr 0 0,.ptr 1 0,.ptr 2 0,.int .i64 x0] [.box [.sl .u8 x1,.int .i64 x2],.box [.nils,.nils],.box [.own 3 [] 0,.own 4 [] 0],.row .kind x3 0 0 0 .no,.row .point x4 0 0 0 .no]) =
 ifb (posOk x2) (ifb (decide ((↑x4.length : Int) < IntKind.i64.wrap ((16 : Int) + pickV x1 x2 (2 : Int)))) (ifb (decide (x0 < (40 : Int))) (ifb (decide ((0 : Int) ≤ IntKind.i64.wrap ((10 : Int) + x0)) && decide (IntKind.i64.wrap ((10 : Int) + x0) < (10 : Int) ^ ((4 : Nat) + (1 : Nat)))) (ifb (decide (#[(121 : UInt8)].toList.length + List.length (dDec (4 : Nat) (IntKind.i64.wrap ((10 : Int) + x0))) ≤ (9223372036854775807 : Nat))) (ifb (decide ((x4.length + [Point.mk (#[(121 : UInt8)].toList ++ dDec (4 : Nat) (IntKind.i64.wrap ((10 : Int) + x0))) (x0.tmod (16 : Int)) (IntKind.i64.wrap ((15 : Int) - IntKind.i64.wrap (x0.tdiv (16 : Int))))].length) * Qbhn Qam6.P (160 : Nat) ≤ (140737488355328 : Nat))) (some (.go (Qu6t Qam6.fn 6) [.ptr 0 0,.ptr 1 0,.ptr 2 0,.int .i64 (IntKind.i64.wrap (x0 + (1 : Int)))] [.box [.sl .u8 x1,.int .i64 (x2 + (1 : Int))],.box [.nils,.nils],.box [.own 3 [] 0,.own 4 [] 0],.row .kind x3 0 0 0 .no,.row .point (x4 ++ [Point.mk (#[(121 : UInt8)].toList ++ dDec (4 : Nat) (IntKind.i64.wrap ((10 : Int) + x0))) (x0.tmod (16 : Int)) (IntKind.i64.wrap ((15 : Int) - IntKind.i64.wrap (x0.tdiv (16 : Int))))]) 0 0 0 .no])) (none)) (none)) (none)) (some (.ret (.agg [.sl .kind x3,.sl .point x4]) [.box [.sl .u8 x1,.int .i64 (x2 + (1 : Int))]]))) (some (.ret (.agg [.sl .kind x3,.sl .point x4]) [.box [.sl .u8 x1,.int .i64 (x2 + (1 : Int))]]))) (none):=by kernel_rfl
theorem Qnce (bs : List Int) (ps : List Point) : ∀ (d i : Nat) (ks : List Kind) (q : Int),i + d = 9 → 0 ≤ q → q + d ≤ 900000 → ks.length + d ≤ 19 → ps.length ≤ 100 → Qeqt ps = true →
  CutE Qam6 Q963 23 [.ptr 0 0,.ptr 1 0,.ptr 2 0,.int .i64 (i : Int)] [.box [.sl .u8 bs,.int .i64 q],.box [.nils,.nils],.box [.own 3 [] 0,.own 4 [] 0],.row .kind ks 0 0 0 .no,.row .point ps 0 0 0 .no] (fun v h=>∃ x : BaseP,v = (.agg [.sl .kind x.ks,.sl .point x.ps]) ∧ h = [.box [.sl .u8 bs,.int .i64 x.p]] ∧ x.ks.length ≤ 20 ∧ x.ps.length ≤ 100 ∧ q ≤ x.p ∧ x.p ≤ q + (d + 1) ∧ Qeqt x.ps = true):=by
 have hbb : Qbhn Qam6.P 40 ≤ 256:=of_decide_eq_true (by kernel_rfl)
 intro d
 induction d with
 | zero =>
  intro i ks q hi h0 hq hl ho hn
  refine CutE.of Qj2r rfl (Qkno i bs q ks ps) ?_
  refine SatE.need (Q8s4 (by omega) (by omega)) (SatE.ifb (fun _=>?_) (fun _=>?_))
  ·rw [show decide ((i : Int) < 9) = false from decide_eq_false (by omega),Qk7y]
   exact SatE.ret ⟨⟨ks,ps,q + 1⟩,rfl,rfl,by show ks.length ≤ 20; omega,by show ps.length ≤ 100; omega,by show q ≤ q + 1; omega,by show q + 1 ≤ _; omega,hn⟩
  ·exact SatE.ret ⟨⟨ks,ps,q + 1⟩,rfl,rfl,by show ks.length ≤ 20; omega,by show ps.length ≤ 100; omega,by show q ≤ q + 1; omega,by show q + 1 ≤ _; omega,hn⟩
 | succ d ih =>
  intro i ks q hi h0 hq hl ho hn
  refine CutE.of Qj2r rfl (Qkno i bs q ks ps) ?_
  have hw : IntKind.i64.wrap ((i : Int) + 1) = ((i + 1 : Nat) : Int):=by rw [Qbrg] <;> omega
  obtain ⟨g1,l1⟩:=decs (n:=(i : Int)) (by omega) (by omega)
  refine SatE.need (Q8s4 (by omega) (by omega)) (SatE.ifb (fun _=>?_) (fun _=>?_))
  ·rw [show decide ((i : Int) < 9) = true from decide_eq_true (by omega),hw,Qd8q]
   refine SatE.need g1 (SatE.need (decide_eq_true (by simp; omega)) (SatE.need (Q1mk hbb (by simp; omega)) (SatE.mono (SatE.cut (ih (i + 1) _ (q + 1) (by omega) (by omega) (by omega) (by simp; omega) (by omega) hn)) ?_)))
   rintro v h ⟨x,e1,e2,a1,a2,a3,a4,a5⟩
   exact ⟨x,e1,e2,a1,a2,by omega,by omega,a5⟩
  ·exact SatE.ret ⟨⟨ks,ps,q + 1⟩,rfl,rfl,by show ks.length ≤ 20; omega,by show ps.length ≤ 100; omega,by show q ≤ q + 1; omega,by show q + 1 ≤ _; omega,hn⟩
theorem Qpkz (bs : List Int) (ks : List Kind) : ∀ (d i : Nat) (ps : List Point) (q : Int),i + d = 40 → 0 ≤ q → q + d ≤ 900000 → ps.length + d ≤ 80 → ks.length ≤ 20 → Qeqt ps = true →
  CutE Qam6 Q963 6 [.ptr 0 0,.ptr 1 0,.ptr 2 0,.int .i64 (i : Int)] [.box [.sl .u8 bs,.int .i64 q],.box [.nils,.nils],.box [.own 3 [] 0,.own 4 [] 0],.row .kind ks 0 0 0 .no,.row .point ps 0 0 0 .no] (fun v h=>∃ x : BaseP,v = (.agg [.sl .kind x.ks,.sl .point x.ps]) ∧ h = [.box [.sl .u8 bs,.int .i64 x.p]] ∧ x.ks.length ≤ 20 ∧ x.ps.length ≤ 100 ∧ q ≤ x.p ∧ x.p ≤ q + (d + 1) ∧ Qeqt x.ps = true):=by
 have hbb : Qbhn Qam6.P 160 ≤ 256:=of_decide_eq_true (by kernel_rfl)
 intro d
 induction d with
 | zero =>
  intro i ps q hi h0 hq hl ho hn
  refine CutE.of Qj2r rfl (Qkh0 i bs q ks ps) ?_
  refine SatE.need (Q8s4 (by omega) (by omega)) (SatE.ifb (fun _=>?_) (fun _=>?_))
  ·rw [show decide ((i : Int) < 40) = false from decide_eq_false (by omega),Qk7y]
   exact SatE.ret ⟨⟨ks,ps,q + 1⟩,rfl,rfl,by show ks.length ≤ 20; omega,by show ps.length ≤ 100; omega,by show q ≤ q + 1; omega,by show q + 1 ≤ _; omega,hn⟩
  ·exact SatE.ret ⟨⟨ks,ps,q + 1⟩,rfl,rfl,by show ks.length ≤ 20; omega,by show ps.length ≤ 100; omega,by show q ≤ q + 1; omega,by show q + 1 ≤ _; omega,hn⟩
 | succ d ih =>
  intro i ps q hi h0 hq hl ho hn
  refine CutE.of Qj2r rfl (Qkh0 i bs q ks ps) ?_
  have hw : IntKind.i64.wrap ((i : Int) + 1) = ((i + 1 : Nat) : Int):=by rw [Qbrg] <;> omega
  have hw2 : IntKind.i64.wrap (10 + (i : Int)) = 10 + (i : Int):=Qbrg (by omega) (by omega)
  obtain ⟨g1,l1⟩:=decs (n:=10 + (i : Int)) (by omega) (by omega)
  refine SatE.need (Q8s4 (by omega) (by omega)) (SatE.ifb (fun _=>?_) (fun _=>?_))
  ·rw [show decide ((i : Int) < 40) = true from decide_eq_true (by omega),hw,Qd8q,hw2]
   refine SatE.need g1 (SatE.need (decide_eq_true (by simp; omega)) (SatE.need (Q1mk hbb (by simp; omega)) (SatE.mono (SatE.cut (ih (i + 1) _ (q + 1) (by omega) (by omega) (by omega) (by simp; omega) (by omega) (by exact Qv4q hn (by simp; omega)))) ?_)))
   rintro v h ⟨x,e1,e2,a1,a2,a3,a4,a5⟩
   exact ⟨x,e1,e2,a1,a2,by omega,by omega,a5⟩
  ·exact SatE.ret ⟨⟨ks,ps,q + 1⟩,rfl,rfl,by show ks.length ≤ 20; omega,by show ps.length ≤ 100; omega,by show q ≤ q + 1; omega,by show q + 1 ≤ _; omega,hn⟩
theorem Qdn9 {bs : List Int} {p q : Int} {ks : List Kind} {ps : List Point} (h1 : ks.length ≤ 20) (h2 : ps.length ≤ 100) (h3 : p ≤ q) (h4 : q ≤ p + 60) (h5 : Qeqt ps = true) : ∃ x : BaseP,(AV.agg [.sl .kind ks,.sl .point ps] : AV Ty El) = (.agg [.sl .kind x.ks,.sl .point x.ps]) ∧ ([.box [.sl .u8 bs,.int .i64 q]] : List (AObj Ty El)) = [.box [.sl .u8 bs,.int .i64 x.p]] ∧ Qp6t p x:=⟨⟨ks,ps,q⟩,rfl,rfl,h1,h2,h3,h4,h5⟩
theorem Qtjp (bs : List Int) (p : Int) (ks : List Kind) (ps : List Point) (hg : spK bs p ks ps = true) : Qewq Tryz.prog CP Q963 [.ptr 0 0,.agg [.sl .kind ks,.sl .point ps]] [.box [.sl .u8 bs,.int .i64 p]] (.agg [.sl .kind (dSp bs p ks ps).ks,.sl .point (dSp bs p ks ps).ps]) [.box [.sl .u8 bs,.int .i64 (dSp bs p ks ps).p]] ∧ Qp6t p (dSp bs p ks ps):=by
 simp only [spK,Bool.and_eq_true,decide_eq_true_eq] at hg
 obtain ⟨hbs,h0,h9,k1,k2,s1,s2,hn⟩:=hg
 have hbb : Qbhn Qam6.P 160 ≤ 256:=of_decide_eq_true (by kernel_rfl)
 have ht : Qzta ks ps = true:=by
  have e1 : Q6lz ks = true:=by simp only [Q6lz,Bool.and_true,decide_eq_true_eq]; omega
  have e2 : Qjyp ps = true:=by simp only [Qjyp,Bool.and_true,decide_eq_true_eq]; omega
  rw [Qzta,e1,e2]; rfl
 have ps0 : ∀ (q : Int),p ≤ q → q ≤ p + 10 → posOk q = true:=fun q h2 h3=>Q8s4 (by omega) (by omega)
 have pk : ∀ (q n : Int),p ≤ q → q ≤ p + 10 → 1 ≤ n → 0 ≤ pickV bs q n ∧ pickV bs q n < n:=fun q n h2 h3 h4=>Q5va hbs (ps0 q h2 h3) h4
 have rd : ∀ (q : Int) (l : List Str),p ≤ q → q ≤ p + 10 → 0 < l.length → (rdOk bs q && decide (0 < l.length)) = true:=fun q l h2 h3 hl=>by rw [rdOk,hbs,ps0 q h2 h3,decide_eq_true hl]; rfl
 have ik : inb (pickV bs p (ks.length : Int)) ks.length = true:=inbL (pk p _ (by omega) (by omega) (by omega))
 have ip : inb (pickV bs (p + 1) (ps.length : Int)) ps.length = true:=inbL (pk (p + 1) _ (by omega) (by omega) (by omega))
 have hE : CallE Qam6.P Qam6.C Q963 [.ptr 0 0,.agg [.sl .kind ks,.sl .point ps]] [.box [.sl .u8 bs,.int .i64 p]] (fun v h=>∃ x : BaseP,v = (.agg [.sl .kind x.ks,.sl .point x.ps]) ∧ h = [.box [.sl .u8 bs,.int .i64 x.p]] ∧ Qp6t p x):=by
  refine CallE.of Qj2r (by kernel_rfl) (Qbvz bs p ks ps) ?_
  refine SatE.need ht (SatE.need (ps0 _ (by omega) (by omega)) (SatE.need (ps0 _ (by omega) (by omega)) (SatE.need (ps0 _ (by omega) (by omega)) (SatE.ifb (fun _=>?_) (fun _=>SatE.ifb (fun _=>?_) (fun _=>SatE.ifb (fun _=>?_) (fun _=>SatE.ifb (fun _=>?_) (fun _=>SatE.ifb (fun _=>?_) (fun _=>SatE.ifb (fun _=>?_) (fun _=>SatE.ifb (fun _=>?_) (fun _=>?_)))))))))))
  ·obtain ⟨a1,a2⟩:=pk (p + 1 + 1 + 1) 2 (by omega) (by omega) (by omega)
   have hw : IntKind.i64.wrap (8 + pickV bs (p + 1 + 1 + 1) 2) = 8 + pickV bs (p + 1 + 1 + 1) 2:=Qbrg (by omega) (by omega)
   rw [hw]
   exact SatE.need (ps0 _ (by omega) (by omega)) (SatE.need (by rw [Bool.and_eq_true]; exact ⟨decide_eq_true (by simp),decide_eq_true (by omega)⟩) (SatE.need (rd _ _ (by omega) (by omega) (Nat.zero_lt_succ _)) (SatE.need ik (SatE.ret (Qdn9 (by rw [List.length_set]; omega) (by omega) (by omega) (by omega) hn)))))
  ·exact SatE.need (ps0 _ (by omega) (by omega)) (SatE.need ik (SatE.ret (Qdn9 (by rw [List.length_set]; omega) (by omega) (by omega) (by omega) hn)))
  ·exact SatE.need (ps0 _ (by omega) (by omega)) (SatE.need (inb3 (pk (p + 1 + 1 + 1) 3 (by omega) (by omega) (by omega))) (SatE.need ik (SatE.ret (Qdn9 (by rw [List.length_set]; omega) (by omega) (by omega) (by omega) hn))))
  ·exact SatE.need (rd _ _ (by omega) (by omega) (Nat.zero_lt_succ _)) (SatE.need ip (SatE.ret (Qdn9 (by omega) (by rw [List.length_set]; omega) (by omega) (by omega) (Qosi hn _ (Nat.le_trans (Qgo3 (M:=4) (by rfl)) (by omega))))))
  ·exact SatE.need (ps0 _ (by omega) (by omega)) (SatE.need (inb3 (pk (p + 1 + 1 + 1) 3 (by omega) (by omega) (by omega))) (SatE.need ip (SatE.ret (Qdn9 (by omega) (by rw [List.length_set]; omega) (by omega) (by omega) (Qosi hn _ (by exact Qwum hn _ _ (by first | simp | decide)))))))
  ·exact SatE.need ip (SatE.need ip (SatE.need (Q1mk hbb (by simp; omega)) (SatE.ret (Qdn9 (by omega) (by simp; omega) (by omega) (by omega) (by exact Qv4q hn (by simp))))))
  ·refine SatE.mono (SatE.cut (Qnce bs ps 9 0 ks (p + 1 + 1 + 1) (by omega) (by omega) (by omega) (by omega) (by omega) hn)) ?_
   rintro v h ⟨x,e1,e2,a1,a2,a3,a4,a5⟩
   exact ⟨x,e1,e2,a1,a2,by omega,by omega,a5⟩
  ·refine SatE.mono (SatE.cut (Qpkz bs ks 40 0 ps (p + 1 + 1 + 1) (by omega) (by omega) (by omega) (by omega) (by omega) hn)) ?_
   rintro v h ⟨x,e1,e2,a1,a2,a3,a4,a5⟩
   exact ⟨x,e1,e2,a1,a2,by omega,by omega,a5⟩
 obtain ⟨v,H',h,x,rfl,rfl,hx⟩:=hE
 exact Qk78 (p:=fun x : BaseP=>Qewq Tryz.prog CP Q963 [.ptr 0 0,.agg [.sl .kind ks,.sl .point ps]] [.box [.sl .u8 bs,.int .i64 p]] (.agg [.sl .kind x.ks,.sl .point x.ps]) [.box [.sl .u8 bs,.int .i64 x.p]] ∧ Qp6t p x) ⟨x,h,hx⟩
theorem Q3hx (bs : List Int) (p : Int) (ks : List Kind) (ps : List Point) (hg : spK bs p ks ps = true) : Qewq Tryz.prog CP Q963 [.ptr 0 0,.agg [.sl .kind ks,.sl .point ps]] [.box [.sl .u8 bs,.int .i64 p]] (.agg [.sl .kind (dSp bs p ks ps).ks,.sl .point (dSp bs p ks ps).ps]) [.box [.sl .u8 bs,.int .i64 (dSp bs p ks ps).p]]:=by
 exact (Qtjp bs p ks ps hg).1
theorem Q1zq : EntOK Tryz.prog CP Q963 Qx4k:=by
 refine ⟨⟨Tryz.f119,by kernel_rfl,by kernel_rfl,by kernel_rfl⟩,fun args H res H' h=>?_⟩
 simp only [Qx4k] at h
 split at h
 ·simp only [Option.some.injEq,Prod.mk.injEq] at h
  obtain ⟨hg,rfl,rfl⟩:=h
  exact Q3hx _ _ _ _ hg
 ·cases h
end Lx
namespace Lx
open Go Go.Proofs
structure BookP where
 ks : List Kind
 ps : List Point
 es : List Entry
 p : Int
 deriving Inhabited
def goodS (ks : List Kind) (ps : List Point) (es : List Entry) : Bool:=goodB ks ps es && (decide (ks.length ≤ 1000) && (decide (ps.length ≤ 100) && (decide (es.length ≤ 1000) && Qeqt ps)))
def Qe4i (p : Int) (x : BookP) : Prop:=goodS x.ks x.ps x.es = true ∧ p ≤ x.p ∧ x.p ≤ p + 100
noncomputable def Qkav (bs : List Int) (p : Int) (ks : List Kind) (ps : List Point) (es : List Entry) : BookP:=drawn (fun x=>Qewq Tryz.prog CP Qvef [.ptr 0 0,.agg [.sl .kind ks,.sl .point ps,.sl .entry es]] [.box [.sl .u8 bs,.int .i64 p]] (.agg [.sl .kind x.ks,.sl .point x.ps,.sl .entry x.es]) [.box [.sl .u8 bs,.int .i64 x.p]] ∧ Qe4i p x)
def slK (bs : List Int) (p : Int) (ks : List Kind) (ps : List Point) (es : List Entry) : Bool:=Qf9o bs && (decide (0 ≤ p) && (decide (p ≤ 870000) && (decide (1 ≤ ks.length) && (decide (1 ≤ ps.length) && goodE ks ps es))))
noncomputable def Qsb4 : Ent Ty El:=⟨[.io,.ro],0,fun a h=>match a,h with
 | [.ptr 0 0,.agg [.sl .kind ks,.sl .point ps,.sl .entry es]],[.box [.sl .u8 bs,.int .i64 p]]=>some (slK bs p ks ps es,.agg [.sl .kind (Qkav bs p ks ps es).ks,.sl .point (Qkav bs p ks ps es).ps,.sl .entry (Qkav bs p ks ps es).es],[.box [.sl .u8 bs,.int .i64 (Qkav bs p ks ps es).p]])
 | _,_=>none⟩
def small (x : Entry) : Prop:=x.fields.length ≤ 20 ∧ ∀ f ∈ x.fields,szV f.value = true
theorem Qq1u {ks : List Kind} {ps : List Point} {es : List Entry} (h1 : ks.length ≤ 1000) (h2 : ps.length ≤ 1000) (h3 : es.length ≤ 1000) (h4 : ∀ x ∈ es,small x) : goodB ks ps es = true:=by
 simp only [goodB,szB,Q8cx,Q6lz,Qjyp,Qnwa,Bool.and_eq_true,decide_eq_true_eq,and_true]
 refine ⟨⟨by omega,List.all_eq_true.2 fun x hx=>?_⟩,by omega,by omega,by omega,List.all_eq_true.2 fun x hx=>?_⟩
 ·simp only [szE,Bool.and_eq_true,decide_eq_true_eq]
  exact ⟨by have:=(h4 x hx).1; omega,List.all_eq_true.2 fun f hf=>(h4 x hx).2 f hf⟩
 ·simp only [Qytc,Qckx,Bool.and_eq_true,decide_eq_true_eq,and_true]
  have:=(h4 x hx).1; omega
theorem Qieu {ks : List Kind} {ps : List Point} {es : List Entry} (h1 : ks.length ≤ 1000) (h2 : ps.length ≤ 100) (h3 : es.length ≤ 1000) (h4 : ∀ x ∈ es,small x) (h5 : Qeqt ps = true) : goodS ks ps es = true:=by
 have hb:=Qq1u h1 (Nat.le_trans h2 (by decide)) h3 h4
 simp only [goodS,hb,h1,h2,h3,h5,decide_true,Bool.and_self]
theorem Qj7a {ks : List Kind} {ps : List Point} {es : List Entry} (h : goodE ks ps es = true) : goodS ks ps es = true:=by
 have h0:=h
 simp only [goodE,Qn0o,Qib4,Bool.and_eq_true,decide_eq_true_eq] at h0
 obtain ⟨⟨⟨k2,s2,_⟩,e2,_⟩,hb⟩:=h0
 have hbase : Qib4 ks ps = true:=by simp only [goodE,Qn0o,Bool.and_eq_true] at h; exact h.1.1
 simp only [goodS,hb,Bool.and_eq_true,decide_eq_true_eq]
 exact ⟨trivial,by omega,by omega,by omega,(Qd1y hbase).2⟩
theorem Qyyr {ks : List Kind} {ps : List Point} {es : List Entry} (h : goodE ks ps es = true) : es.length ≤ 12 ∧ ∀ x ∈ es,small x:=by
 simp only [goodE,goodB,szB,Bool.and_eq_true,decide_eq_true_eq] at h
 obtain ⟨hb,⟨_,hz⟩,_⟩:=h
 obtain ⟨h1,h2⟩:=Qm34 hb
 refine ⟨h1,fun x hx=>⟨by have:=h2 x hx; omega,fun f hf=>?_⟩⟩
 have:=List.all_eq_true.1 hz x hx
 simp only [szE,Bool.and_eq_true] at this
 exact List.all_eq_true.1 this.2 f hf
theorem Qt1v {es : List Entry} (h : ∀ x ∈ es,small x) (i : Nat) {e : Entry} (he : small e) : ∀ x ∈ es.set i e,small x:=fun x hx=>by
 rcases List.mem_or_eq_of_mem_set hx with hx | rfl
 ·exact h x hx
 ·exact he
theorem Qsfv {n : Str} {l : List Fld} (h : small ⟨n,l⟩) (i : Nat) {f : Fld} (hf : szV f.value = true) : small ⟨n,l.set i f⟩:=by
 refine ⟨by have:=h.1; simp only [List.length_set]; exact this,fun g hg=>?_⟩
 rcases List.mem_or_eq_of_mem_set hg with hg | rfl
 ·exact h.2 g hg
 ·exact hf
theorem Q7q7 {es : List Entry} {i : Nat} (h : i < es.length) : es.getD i (dfltP .entry) ∈ es:=by
 rw [List.getD_eq_getElem?_getD,List.getElem?_eq_getElem h]; exact List.getElem_mem _
theorem Qfaa {l : List Fld} {i : Nat} (h : i < l.length) : l.getD i (dfltP .fld) ∈ l:=by
 rw [List.getD_eq_getElem?_getD,List.getElem?_eq_getElem h]; exact List.getElem_mem _
theorem Q23x {ks : List Kind} {ps : List Point} {es : List Entry} (h : goodE ks ps es = true) : ∀ x ∈ es,1 ≤ x.fields.length:=fun x hx=>by
 simp only [goodE,Qn0o,Bool.and_eq_true] at h
 have:=Qmra es _ h.1.2.2 x hx
 simp only [Q7i7,Bool.and_eq_true,Bool.not_eq_true',decide_eq_false_iff_not] at this
 omega
end Lx
namespace Lx
open Go Go.Proofs
noncomputable def Qb57 : RE Ty El:=⟨Tryz.prog,CP,[(Qpxs,Q7v2),(Qchm,Q2vb),(Qfx9,Qc1o),(Q0nv,Qwn9),(Q963,Qx4k),(Qstj,Qmce)],Tryz.f143,1,[.agg [.ro .kind,.ro .point,.ro .entry]],[(10,[(4,.any),(5,.any),(8,.any),(9,.any)]),(3,[(0,.box [.ro .kind,.ro .point,.any]),(4,.box [.ro .kind,.ro .point,.any]),(5,.box [.ro .kind,.ro .point,.any])]),(14,[(0,.box [.ro .kind,.ro .point,.any]),(4,.box [.ro .kind,.ro .point,.any]),(5,.box [.ro .kind,.ro .point,.any])]),(26,[(4,.any),(5,.any),(6,.any)])]⟩
theorem Qjmm : REOK Qb57 Qvef:=⟨CP_ok,(TabOK.cons Q0e7 (TabOK.cons Qyvd (TabOK.cons Qaka (TabOK.cons Q83y (TabOK.cons Q1zq (TabOK.cons Qqii Qye1)))))),by kernel_rfl,by kernel_rfl⟩
theorem Qocw (bs : List Int) (p : Int) (ks : List Kind) (ps : List Point) (es : List Entry) : aRun Qb57 600 false (body0 Qb57.fn) (Q4gm Qb57.fn [.ptr 0 0,.agg [.sl .kind ks,.sl .point ps,.sl .entry es]] [.box [.sl .u8 bs,.int .i64 p]]) =
 ifb (Q8cx ks ps es) (ifb ((↑es.length : Int) == (0 : Int)) (some (.go (Qu6t Qb57.fn 3) [.ptr 0 0,.ptr 1 0,.ptr 2 0] [.box [.sl .u8 bs,.int .i64 p],.box [.sl .kind [],.sl .point [],.nils],.box [.sl .kind ks,.sl .point ps,.own 3 [] 0],.row .entry es 1 0 0 .no])) (ifb (posOk p) (ifb (inb (pickV bs p (↑es.length : Int)) es.length) (ifb (posOk (p + (1 : Int))) (ifb (posOk (p + (1 : Int) + (1 : Int))) (ifb (pickV bs (p + (1 : Int) + (1 : Int)) (8 : Int) == (0 : Int)) (some (.go (Qu6t Qb57.fn 14) [.ptr 0 0,.ptr 1 0,.ptr 2 0] [.box [.sl .u8 bs,.int .i64 (p + (1 : Int) + (1 : Int) + (1 : Int))],.box [.sl .kind [],.sl .point [],.nils],.box [.sl .kind ks,.sl .point ps,.own 3 [] 0],.row .entry es 1 0 0 .no])) (ifb (pickV bs (p + (1 : Int) + (1 : Int)) (8 : Int) == (1 : Int)) (ifb (rdOk bs (p + (1 : Int) + (1 : Int) + (1 : Int)) && decide ((0 : Nat) < [#[].toList, #[(97 : UInt8)].toList, #[(122 : UInt8),(122 : UInt8)].toList, #[(75 : UInt8)].toList].length)) (ifb (inb (pickV bs p (↑es.length : Int)) es.length) (some (.ret (.agg [.sl .kind ks,.sl .point ps,.sl .entry (es.set (pickV bs p (↑es.length : Int)).toNat (Entry.mk (ofV bs (p + (1 : Int) + (1 : Int) + (1 : Int)) [#[].toList, #[(97 : UInt8)].toList, #[(122 : UInt8),(122 : UInt8)].toList, #[(75 : UInt8)].toList]) (es.getD (pickV bs p (↑es.length : Int)).toNat (Qb57.C.dflt Ty.entry)).fields))]) [.box [.sl .u8 bs,.int .i64 (p + (1 : Int) + (1 : Int) + (1 : Int) + (1 : Int))]])) (none)) (none)) (ifb (pickV bs (p + (1 : Int) + (1 : Int)) (8 : Int) == (2 : Int)) (ifb (inb (pickV bs p (↑es.length : Int)) es.length) (some (.ret (.agg [.sl .kind ks,.sl .point ps,.sl .entry (es.set (pickV bs p (↑es.length : Int)).toNat (Entry.mk (es.getD (pickV bs p (↑es.length : Int)).toNat (Qb57.C.dflt Ty.entry)).name []))]) [.box [.sl .u8 bs,.int .i64 (p + (1 : Int) + (1 : Int) + (1 : Int))]])) (none)) (ifb (pickV bs (p + (1 : Int) + (1 : Int)) (8 : Int) == (3 : Int)) (ifb (inb (pickV bs p (↑es.length : Int)) es.length) (ifb (posOk (p + (1 : Int) + (1 : Int) + (1 : Int))) (ifb (inb (pickV bs (p + (1 : Int)) (↑(es.getD (pickV bs p (↑es.length : Int)).toNat (Qb57.C.dflt Ty.entry)).fields.length : Int)) (es.getD (pickV bs p (↑es.length : Int)).toNat (Qb57.C.dflt Ty.entry)).fields.length) (some (.ret (.agg [.sl .kind ks,.sl .point ps,.sl .entry (es.set (pickV bs p (↑es.length : Int)).toNat (Entry.mk (es.getD (pickV bs p (↑es.length : Int)).toNat (Qb57.C.dflt Ty.entry)).name ((es.getD (pickV bs p (↑es.length : Int)).toNat (Qb57.C.dflt Ty.entry)).fields.set (pickV bs (p + (1 : Int)) (↑(es.getD (pickV bs p (↑es.length : Int)).toNat (Qb57.C.dflt Ty.entry)).fields.length : Int)).toNat (Fld.mk (pickV bs (p + (1 : Int) + (1 : Int) + (1 : Int)) (7 : Int)) ((es.getD (pickV bs p (↑es.length : Int)).toNat (Qb57.C.dflt Ty.entry)).fields.getD (pickV bs (p + (1 : Int)) (↑(es.getD (pickV bs p (↑es.length : Int)).toNat (Qb57.C.dflt Ty.entry)).fields.length : Int)).toNat (Qb57.C.dflt Ty.fld)).number ((es.getD (pickV bs p (↑es.length : Int)).toNat (Qb57.C.dflt Ty.entry)).fields.getD (pickV bs (p + (1 : Int)) (↑(es.getD (pickV bs p (↑es.length : Int)).toNat (Qb57.C.dflt Ty.entry)).fields.length : Int)).toNat (Qb57.C.dflt Ty.fld)).value))))]) [.box [.sl .u8 bs,.int .i64 (p + (1 : Int) + (1 : Int) + (1 : Int) + (1 : Int))]])) (none)) (none)) (none)) (ifb (pickV bs (p + (1 : Int) + (1 : Int)) (8 : Int) == (4 : Int)) (ifb (inb (pickV bs p (↑es.length : Int)) es.length) (ifb (posOk (p + (1 : Int) + (1 : Int) + (1 : Int))) (ifb (inb (pickV bs (p + (1 : Int) + (1 : Int) + (1 : Int)) (3 : Int)) [(0 : Int),(1000001 : Int),(1000000 : Int)].length) (ifb (inb (pickV bs (p + (1 : Int)) (↑(es.getD (pickV bs p (↑es.length : Int)).toNat (Qb57.C.dflt Ty.entry)).fields.length : Int)) (es.getD (pickV bs p (↑es.length : Int)).toNat (Qb57.C.dflt Ty.entry)).fields.length) (some (.ret (.agg [.sl .kind ks,.sl .point ps,.sl .entry (es.set (pickV bs p (↑es.length : Int)).toNat (Entry.mk (es.getD (pickV bs p (↑es.length : Int)).toNat (Qb57.C.dflt Ty.entry)).name ((es.getD (pickV bs p (↑es.length : Int)).toNat (Qb57.C.dflt Ty.entry)).fields.set (pickV bs (p + (1 : Int)) (↑(es.getD (pickV bs p (↑es.length : Int)).toNat (Qb57.C.dflt Ty.entry)).fields.length : Int)).toNat (Fld.mk ((es.getD (pickV bs p (↑es.length : Int)).toNat (Qb57.C.dflt Ty.entry)).fields.getD (pickV bs (p + (1 : Int)) (↑(es.getD (pickV bs p (↑es.length : Int)).toNat (Qb57.C.dflt Ty.entry)).fields.length : Int)).toNat (Qb57.C.dflt Ty.fld)).what ([(0 : Int),(1000001 : Int),(1000000 : Int)].getD (pickV bs (p + (1 : Int) + (1 : Int) + (1 : Int)) (3 : Int)).toNat (Qb57.C.dflt Ty.int)) ((es.getD (pickV bs p (↑es.length : Int)).toNat (Qb57.C.dflt Ty.entry)).fields.getD (pickV bs (p + (1 : Int)) (↑(es.getD (pickV bs p (↑es.length : Int)).toNat (Qb57.C.dflt Ty.entry)).fields.length : Int)).toNat (Qb57.C.dflt Ty.fld)).value))))]) [.box [.sl .u8 bs,.int .i64 (p + (1 : Int) + (1 : Int) + (1 : Int) + (1 : Int))]])) (none)) (none)) (none)) (none)) (ifb (pickV bs (p + (1 : Int) + (1 : Int)) (8 : Int) == (5 : Int)) (ifb (inb (pickV bs p (↑es.length : Int)) es.length) (ifb (rdOk bs (p + (1 : Int) + (1 : Int) + (1 : Int))) (ifb (inb (pickV bs (p + (1 : Int)) (↑(es.getD (pickV bs p (↑es.length : Int)).toNat (Qb57.C.dflt Ty.entry)).fields.length : Int)) (es.getD (pickV bs p (↑es.length : Int)).toNat (Qb57.C.dflt Ty.entry)).fields.length) (some (.ret (.agg [.sl .kind ks,.sl .point ps,.sl .entry (es.set (pickV bs p (↑es.length : Int)).toNat (Entry.mk (es.getD (pickV bs p (↑es.length : Int)).toNat (Qb57.C.dflt Ty.entry)).name ((es.getD (pickV bs p (↑es.length : Int)).toNat (Qb57.C.dflt Ty.entry)).fields.set (pickV bs (p + (1 : Int)) (↑(es.getD (pickV bs p (↑es.length : Int)).toNat (Qb57.C.dflt Ty.entry)).fields.length : Int)).toNat (Fld.mk ((es.getD (pickV bs p (↑es.length : Int)).toNat (Qb57.C.dflt Ty.entry)).fields.getD (pickV bs (p + (1 : Int)) (↑(es.getD (pickV bs p (↑es.length : Int)).toNat (Qb57.C.dflt Ty.entry)).fields.length : Int)).toNat (Qb57.C.dflt Ty.fld)).what ((es.getD (pickV bs p (↑es.length : Int)).toNat (Qb57.C.dflt Ty.entry)).fields.getD (pickV bs (p + (1 : Int)) (↑(es.getD (pickV bs p (↑es.length : Int)).toNat (Qb57.C.dflt Ty.entry)).fields.length : Int)).toNat (Qb57.C.dflt Ty.fld)).number (ofV bs (p + (1 : Int) + (1 : Int) + (1 : Int)) bad12)))))]) [.box [.sl .u8 bs,.int .i64 (p + (1 : Int) + (1 : Int) + (1 : Int) + (1 : Int))]])) (none)) (none)) (none)) (ifb (pickV bs (p + (1 : Int) + (1 : Int)) (8 : Int) == (6 : Int)) (some (.go (Qu6t Qb57.fn 26) [.ptr 1 0,.ptr 2 0,.int .i64 (pickV bs p (↑es.length : Int))] [.box [.sl .u8 bs,.int .i64 (p + (1 : Int) + (1 : Int) + (1 : Int))],.box [.nils,.nils,.nils],.box [.own 3 [] 0,.own 4 [] 0,.own 5 [] 0],.row .kind ks 0 0 0 .no,.row .point ps 0 0 0 .no,.row .entry es 1 0 0 .no])) (ifb (posOk (p + (1 : Int) + (1 : Int) + (1 : Int))) (some (.go (Qu6t Qb57.fn 10) [.ptr 1 0,.ptr 2 0,.int .i64 (IntKind.i64.wrap ((12 : Int) + pickV bs (p + (1 : Int) + (1 : Int) + (1 : Int)) (2 : Int))),.int .i64 (0 : Int)] [.box [.sl .u8 bs,.int .i64 (p + (1 : Int) + (1 : Int) + (1 : Int) + (1 : Int))],.box [.nils,.nils,.nils],.box [.own 3 [] 0,.own 4 [] 0,.own 5 [] 0],.row .kind ks 0 0 0 .no,.row .point ps 0 0 0 .no,.row .entry es 1 0 0 .no])) (none))))))))) (none)) (none)) (none)) (none))) (none):=by kernel_rfl
theorem Qv3i (x0 : List (El .u8)) (x1 : Int) (x2 : List (El .kind)) (x3 : List (El .point)) (x4 : List (El .kind)) (x5 : List (El .point)) (x6 : List (El .entry)) : aRun Qb57 600 true (Qu6t Qb57.fn 3) (cutSt Qb57.fn (Q1m4 Qb57 (Qu6t Qb57.fn 3)) [.ptr 0 0,.ptr 1 0,.ptr 2 0] [.box [.sl .u8 x0,.int .i64 x1],.box [.sl .kind x2,.sl .point x3,.nils],.box [.sl .kind x4,.sl .point x5,.own 3 [] 0],.row .entry x6 1 0 0 .no]) =
 ifb (spK x0 x1 x4 x5) (some (.ret (.agg [.sl .kind ((dSp x0 x1 x4 x5).ks),.sl .point ((dSp x0 x1 x4 x5).ps),.sl .entry x6]) [.box [.sl .u8 x0,.int .i64 ((dSp x0 x1 x4 x5).p)]])) (none):=by kernel_rfl
theorem Qmd8 (x0 : List (El .u8)) (x1 : Int) (x2 : List (El .kind)) (x3 : List (El .point)) (x4 : List (El .kind)) (x5 : List (El .point)) (x6 : List (El .entry)) : aRun Qb57 600 true (Qu6t Qb57.fn 14) (cutSt Qb57.fn (Q1m4 Qb57 (Qu6t Qb57.fn 14)) [.ptr 0 0,.ptr 1 0,.ptr 2 0] [.box [.sl .u8 x0,.int .i64 x1],.box [.sl .kind x2,.sl .point x3,.nils],.box [.sl .kind x4,.sl .point x5,.own 3 [] 0],.row .entry x6 1 0 0 .no]) =
 ifb (spK x0 x1 x4 x5) (some (.ret (.agg [.sl .kind ((dSp x0 x1 x4 x5).ks),.sl .point ((dSp x0 x1 x4 x5).ps),.sl .entry x6]) [.box [.sl .u8 x0,.int .i64 ((dSp x0 x1 x4 x5).p)]])) (none):=by kernel_rfl
theorem Q57m (x0 : Int) (x1 : Int) (x2 : List (El .u8)) (x3 : Int) (x4 : List (El .kind)) (x5 : List (El .point)) (x6 : List (El .entry)) : aRun Qb57 600 true (Qu6t Qb57.fn 10) (cutSt Qb57.fn (Q1m4 Qb57 (Qu6t Qb57.fn 10)) [.ptr 1 0,.ptr 2 0,.int .i64 x0,.int .i64 x1] [.box [.sl .u8 x2,.int .i64 x3],.box [.nils,.nils,.nils],.box [.own 3 [] 0,.own 4 [] 0,.own 5 [] 0],.row .kind x4 0 0 0 .no,.row .point x5 0 0 0 .no,.row .entry x6 1 0 0 .no]) =
 ifb (decide ((↑x6.length : Int) < x0)) (ifb (decide ((0 : Int) ≤ IntKind.i64.wrap ((10 : Int) + x1)) && decide (IntKind.i64.wrap ((10 : Int) + x1) < (10 : Int) ^ ((4 : Nat) + (1 : Nat)))) (ifb (decide (#[(122 : UInt8)].toList.length + List.length (dDec (4 : Nat) (IntKind.i64.wrap ((10 : Int) + x1))) ≤ (9223372036854775807 : Nat))) (ifb (decide ((x6.length + [Entry.mk (#[(122 : UInt8)].toList ++ dDec (4 : Nat) (IntKind.i64.wrap ((10 : Int) + x1))) [Fld.mk (5 : Int) (1 : Int) #[(111 : UInt8),(112 : UInt8),(101 : UInt8),(110 : UInt8)].toList]].length) * Qbhn Qb57.P (92 : Nat) ≤ (140737488355328 : Nat))) (some (.go (Qu6t Qb57.fn 10) [.ptr 1 0,.ptr 2 0,.int .i64 x0,.int .i64 (IntKind.i64.wrap (x1 + (1 : Int)))] [.box [.sl .u8 x2,.int .i64 x3],.box [.nils,.nils,.nils],.box [.own 3 [] 0,.own 4 [] 0,.own 5 [] 0],.row .kind x4 0 0 0 .no,.row .point x5 0 0 0 .no,.row .entry (x6 ++ [Entry.mk (#[(122 : UInt8)].toList ++ dDec (4 : Nat) (IntKind.i64.wrap ((10 : Int) + x1))) [Fld.mk (5 : Int) (1 : Int) #[(111 : UInt8),(112 : UInt8),(101 : UInt8),(110 : UInt8)].toList]]) 1 0 0 .no])) (none)) (none)) (none)) (some (.ret (.agg [.sl .kind x4,.sl .point x5,.sl .entry x6]) [.box [.sl .u8 x2,.int .i64 x3]])):=by kernel_rfl
theorem Qamf (x0 : Int) (x1 : List (El .u8)) (x2 : Int) (x3 : List (El .kind)) (x4 : List (El .point)) (x5 : List (El .entry)) : aRun Qb57 600 true (Qu6t Qb57.fn 26) (cutSt Qb57.fn (Q1m4 Qb57 (Qu6t Qb57.fn 26)) [.ptr 1 0,.ptr 2 0,.int .i64 x0] [.box [.sl .u8 x1,.int .i64 x2],.box [.nils,.nils,.nils],.box [.own 3 [] 0,.own 4 [] 0,.own 5 [] 0],.row .kind x3 0 0 0 .no,.row .point x4 0 0 0 .no,.row .entry x5 0 0 0 .no]) =
 ifb (inb x0 x5.length) (ifb (decide ((x5.length + [x5.getD x0.toNat (Qb57.C.dflt Ty.entry)].length) * Qbhn Qb57.P (92 : Nat) ≤ (140737488355328 : Nat))) (some (.ret (.agg [.sl .kind x3,.sl .point x4,.sl .entry (x5 ++ [x5.getD x0.toNat (Qb57.C.dflt Ty.entry)])]) [.box [.sl .u8 x1,.int .i64 x2]])) (none)) (none):=by kernel_rfl
theorem Qn22 {bs : List Int} {p q : Int} {ks : List Kind} {ps : List Point} {es : List Entry} (h1 : goodS ks ps es = true) (h3 : p ≤ q) (h4 : q ≤ p + 100) : ∃ x : BookP,(AV.agg [.sl .kind ks,.sl .point ps,.sl .entry es] : AV Ty El) = (.agg [.sl .kind x.ks,.sl .point x.ps,.sl .entry x.es]) ∧ ([.box [.sl .u8 bs,.int .i64 q]] : List (AObj Ty El)) = [.box [.sl .u8 bs,.int .i64 x.p]] ∧ Qe4i p x:=⟨⟨ks,ps,es,q⟩,rfl,rfl,h1,h3,h4⟩
theorem Qtzz (bs : List Int) (hbs : Qf9o bs = true) (ks : List Kind) (ps : List Point) (es : List Entry) (k1 : 1 ≤ ks.length) (k2 : ks.length ≤ 10) (s1 : 1 ≤ ps.length) (s2 : ps.length ≤ 40) (h12 : es.length ≤ 12) (hs : ∀ x ∈ es,small x) (hn : Qeqt ps = true) (p q : Int) (h0 : 0 ≤ p) (h9 : p ≤ 870000) (h2 : p ≤ q) (h3 : q ≤ p + 10) :
  CutE Qb57 Qvef 3 [.ptr 0 0,.ptr 1 0,.ptr 2 0] [.box [.sl .u8 bs,.int .i64 q],.box [.sl .kind [],.sl .point [],.nils],.box [.sl .kind ks,.sl .point ps,.own 3 [] 0],.row .entry es 1 0 0 .no] (fun v h=>∃ x : BookP,v = (.agg [.sl .kind x.ks,.sl .point x.ps,.sl .entry x.es]) ∧ h = [.box [.sl .u8 bs,.int .i64 x.p]] ∧ Qe4i p x):=by
 refine CutE.of Qjmm rfl (Qv3i bs q [] [] ks ps es) ?_
 have hk : spK bs q ks ps = true:=by simp only [spK,Bool.and_eq_true,decide_eq_true_eq]; exact ⟨hbs,by omega,by omega,k1,k2,s1,s2,hn⟩
 obtain ⟨a1,a2,a3,a4,a5⟩:=(Qtjp bs q ks ps hk).2
 exact SatE.need hk (SatE.ret (Qn22 (Qieu (by omega) (by omega) (by omega) hs a5) (by omega) (by omega)))
theorem Qv3y (bs : List Int) (hbs : Qf9o bs = true) (ks : List Kind) (ps : List Point) (es : List Entry) (k1 : 1 ≤ ks.length) (k2 : ks.length ≤ 10) (s1 : 1 ≤ ps.length) (s2 : ps.length ≤ 40) (h12 : es.length ≤ 12) (hs : ∀ x ∈ es,small x) (hn : Qeqt ps = true) (p q : Int) (h0 : 0 ≤ p) (h9 : p ≤ 870000) (h2 : p ≤ q) (h3 : q ≤ p + 10) :
  CutE Qb57 Qvef 14 [.ptr 0 0,.ptr 1 0,.ptr 2 0] [.box [.sl .u8 bs,.int .i64 q],.box [.sl .kind [],.sl .point [],.nils],.box [.sl .kind ks,.sl .point ps,.own 3 [] 0],.row .entry es 1 0 0 .no] (fun v h=>∃ x : BookP,v = (.agg [.sl .kind x.ks,.sl .point x.ps,.sl .entry x.es]) ∧ h = [.box [.sl .u8 bs,.int .i64 x.p]] ∧ Qe4i p x):=by
 refine CutE.of Qjmm rfl (Qmd8 bs q [] [] ks ps es) ?_
 have hk : spK bs q ks ps = true:=by simp only [spK,Bool.and_eq_true,decide_eq_true_eq]; exact ⟨hbs,by omega,by omega,k1,k2,s1,s2,hn⟩
 obtain ⟨a1,a2,a3,a4,a5⟩:=(Qtjp bs q ks ps hk).2
 exact SatE.need hk (SatE.ret (Qn22 (Qieu (by omega) (by omega) (by omega) hs a5) (by omega) (by omega)))
theorem Q985 (bs : List Int) (ks : List Kind) (ps : List Point) (k2 : ks.length ≤ 10) (s2 : ps.length ≤ 40) (hnm : Qeqt ps = true) (p q n : Int) (hn : n ≤ 20) (h2 : p ≤ q) (h3 : q ≤ p + 10) : ∀ (d i : Nat) (es : List Entry),n ≤ es.length + d → i + d ≤ 50 → es.length ≤ 20 → (∀ x ∈ es,small x) →
  CutE Qb57 Qvef 10 [.ptr 1 0,.ptr 2 0,.int .i64 n,.int .i64 (i : Int)] [.box [.sl .u8 bs,.int .i64 q],.box [.nils,.nils,.nils],.box [.own 3 [] 0,.own 4 [] 0,.own 5 [] 0],.row .kind ks 0 0 0 .no,.row .point ps 0 0 0 .no,.row .entry es 1 0 0 .no] (fun v h=>∃ x : BookP,v = (.agg [.sl .kind x.ks,.sl .point x.ps,.sl .entry x.es]) ∧ h = [.box [.sl .u8 bs,.int .i64 x.p]] ∧ Qe4i p x):=by
 have hbb : Qbhn Qb57.P 92 ≤ 256:=of_decide_eq_true (by kernel_rfl)
 intro d
 induction d with
 | zero =>
  intro i es hl hi hm hs
  refine CutE.of Qjmm rfl (Q57m n i bs q ks ps es) ?_
  rw [show decide ((es.length : Int) < n) = false from decide_eq_false (by omega),Qk7y]
  exact SatE.ret (Qn22 (Qieu (by omega) (by omega) (by omega) hs hnm) (by omega) (by omega))
 | succ d ih =>
  intro i es hl hi hm hs
  refine CutE.of Qjmm rfl (Q57m n i bs q ks ps es) ?_
  have hw : IntKind.i64.wrap ((i : Int) + 1) = ((i + 1 : Nat) : Int):=by rw [Qbrg] <;> omega
  have hw2 : IntKind.i64.wrap (10 + (i : Int)) = 10 + (i : Int):=Qbrg (by omega) (by omega)
  obtain ⟨g1,l1⟩:=decs (n:=10 + (i : Int)) (by omega) (by omega)
  rw [hw,hw2]
  refine SatE.ifb (fun hlt=>?_) (fun _=>SatE.ret (Qn22 (Qieu (by omega) (by omega) (by omega) hs hnm) (by omega) (by omega)))
  have hlt:=of_decide_eq_true hlt
  refine SatE.need g1 (SatE.need (decide_eq_true (by simp; omega)) (SatE.need (Q1mk hbb (by simp; omega)) (SatE.cut (ih (i + 1) _ (by simp; omega) (by omega) (by simp; omega) ?_))))
  intro x hx
  rcases List.mem_append.1 hx with hx | hx
  ·exact hs x hx
  ·simp only [List.mem_singleton] at hx
   subst hx
   exact ⟨by simp,fun f hf=>by simp only [List.mem_singleton] at hf; subst hf; exact decide_eq_true (by simp)⟩
theorem Qzxv (bs : List Int) (p : Int) (ks : List Kind) (ps : List Point) (es : List Entry) (hg : slK bs p ks ps es = true) : Qewq Tryz.prog CP Qvef [.ptr 0 0,.agg [.sl .kind ks,.sl .point ps,.sl .entry es]] [.box [.sl .u8 bs,.int .i64 p]] (.agg [.sl .kind (Qkav bs p ks ps es).ks,.sl .point (Qkav bs p ks ps es).ps,.sl .entry (Qkav bs p ks ps es).es]) [.box [.sl .u8 bs,.int .i64 (Qkav bs p ks ps es).p]] ∧ Qe4i p (Qkav bs p ks ps es):=by
 simp only [slK,Bool.and_eq_true,decide_eq_true_eq] at hg
 obtain ⟨hbs,h0,h9,k1,s1,hge⟩:=hg
 have hge2:=hge
 simp only [goodE,goodB,Qn0o,Qib4,Bool.and_eq_true,decide_eq_true_eq] at hge2
 obtain ⟨⟨⟨k2,s2,_⟩,_⟩,_,ht⟩:=hge2
 obtain ⟨h12,hs⟩:=Qyyr hge
 have hnm : Qeqt ps = true:=by
  have h:=hge
  simp only [goodE,Qn0o,Bool.and_eq_true] at h
  exact (Qd1y h.1.1).2
 have hbb : Qbhn Qb57.P 92 ≤ 256:=of_decide_eq_true (by kernel_rfl)
 have ps0 : ∀ (q : Int),p ≤ q → q ≤ p + 10 → posOk q = true:=fun q h2 h3=>Q8s4 (by omega) (by omega)
 have pk : ∀ (q n : Int),p ≤ q → q ≤ p + 10 → 1 ≤ n → 0 ≤ pickV bs q n ∧ pickV bs q n < n:=fun q n h2 h3 h4=>Q5va hbs (ps0 q h2 h3) h4
 have rd0 : ∀ (q : Int),p ≤ q → q ≤ p + 10 → rdOk bs q = true:=fun q h2 h3=>by rw [rdOk,hbs,ps0 q h2 h3]; rfl
 have rd : ∀ (q : Int) (l : List Str),p ≤ q → q ≤ p + 10 → 0 < l.length → (rdOk bs q && decide (0 < l.length)) = true:=fun q l h2 h3 hl=>by rw [rd0 q h2 h3,decide_eq_true hl]; rfl
 have hE : CallE Qb57.P Qb57.C Qvef [.ptr 0 0,.agg [.sl .kind ks,.sl .point ps,.sl .entry es]] [.box [.sl .u8 bs,.int .i64 p]] (fun v h=>∃ x : BookP,v = (.agg [.sl .kind x.ks,.sl .point x.ps,.sl .entry x.es]) ∧ h = [.box [.sl .u8 bs,.int .i64 x.p]] ∧ Qe4i p x):=by
  refine CallE.of Qjmm (by kernel_rfl) (Qocw bs p ks ps es) ?_
  refine SatE.need ht (SatE.ifb (fun _=>SatE.cut (Qtzz bs hbs ks ps es k1 (by omega) s1 (by omega) h12 hs hnm p p h0 h9 (by omega) (by omega))) (fun hne=>?_))
  have hl1 : 1 ≤ es.length:=by
   have : ¬ ((es.length : Int) = 0):=by simpa using hne
   omega
  obtain ⟨i1,i2⟩:=pk p (es.length : Int) (by omega) (by omega) (by omega)
  have hi : inb (pickV bs p (es.length : Int)) es.length = true:=inbL ⟨i1,i2⟩
  have hm:=Q7q7 (es:=es) (i:=(pickV bs p (es.length : Int)).toNat) (by omega)
  have hsm:=hs _ hm
  have hfp:=Q23x hge _ hm
  refine SatE.need (ps0 _ (by omega) (by omega)) (SatE.need hi (SatE.need (ps0 _ (by omega) (by omega)) (SatE.need (ps0 _ (by omega) (by omega)) ?_)))
  have hf : inb (pickV bs (p + 1) ((es.getD (pickV bs p (es.length : Int)).toNat (dfltP .entry)).fields.length : Int)) (es.getD (pickV bs p (es.length : Int)).toNat (dfltP .entry)).fields.length = true:=inbL (pk (p + 1) _ (by omega) (by omega) (by omega))
  obtain ⟨f1,f2⟩:=pk (p + 1) ((es.getD (pickV bs p (es.length : Int)).toNat (dfltP .entry)).fields.length : Int) (by omega) (by omega) (by omega)
  have hfm:=Qfaa (l:=(es.getD (pickV bs p (es.length : Int)).toNat (dfltP .entry)).fields) (i:=(pickV bs (p + 1) ((es.getD (pickV bs p (es.length : Int)).toNat (dfltP .entry)).fields.length : Int)).toNat) (by omega)
  have hfz:=hsm.2 _ hfm
  have fin : ∀ (es' : List Entry) (q : Int),es'.length ≤ 20 → (∀ x ∈ es',small x) → p ≤ q → q ≤ p + 10 → SatE Qb57 Qvef (fun v h=>∃ x : BookP,v = (.agg [.sl .kind x.ks,.sl .point x.ps,.sl .entry x.es]) ∧ h = [.box [.sl .u8 bs,.int .i64 x.p]] ∧ Qe4i p x) (some (.ret (.agg [.sl .kind ks,.sl .point ps,.sl .entry es']) [.box [.sl .u8 bs,.int .i64 q]])):=fun es' q h1 h2 h3 h4=>SatE.ret (Qn22 (Qieu (by omega) (by omega) (by omega) h2 hnm) (by omega) (by omega))
  have hsl : ∀ (k : Nat) (e : Entry),(es.set k e).length ≤ 20:=fun k e=>by rw [List.length_set]; omega
  refine SatE.ifb (fun _=>?_) (fun _=>SatE.ifb (fun _=>?_) (fun _=>SatE.ifb (fun _=>?_) (fun _=>SatE.ifb (fun _=>?_) (fun _=>SatE.ifb (fun _=>?_) (fun _=>SatE.ifb (fun _=>?_) (fun _=>SatE.ifb (fun _=>?_) (fun _=>?_)))))))
  ·exact SatE.cut (Qv3y bs hbs ks ps es k1 (by omega) s1 (by omega) h12 hs hnm p _ h0 h9 (by omega) (by omega))
  ·exact SatE.need (rd _ _ (by omega) (by omega) (Nat.zero_lt_succ _)) (SatE.need hi (fin _ _ (hsl _ _) (Qt1v hs _ hsm) (by omega) (by omega)))
  ·exact SatE.need hi (fin _ _ (hsl _ _) (Qt1v hs _ ⟨Nat.zero_le _,fun f hf=>by cases hf⟩) (by omega) (by omega))
  ·exact SatE.need hi (SatE.need (ps0 _ (by omega) (by omega)) (SatE.need hf (fin _ _ (hsl _ _) (Qt1v hs _ (Qsfv hsm _ hfz)) (by omega) (by omega))))
  ·exact SatE.need hi (SatE.need (ps0 _ (by omega) (by omega)) (SatE.need (inb3 (pk (p + 1 + 1 + 1) 3 (by omega) (by omega) (by omega))) (SatE.need hf (fin _ _ (hsl _ _) (Qt1v hs _ (Qsfv hsm _ hfz)) (by omega) (by omega)))))
  ·exact SatE.need hi (SatE.need (rd0 _ (by omega) (by omega)) (SatE.need hf (fin _ _ (hsl _ _) (Qt1v hs _ (Qsfv hsm _ (decide_eq_true (Nat.le_trans (Qgo3 (M:=100) (by rfl)) (by omega))))) (by omega) (by omega))))
  ·refine SatE.cut (CutE.frz (r:=5) (d:=1) (d':=0) (T:=.entry) (xs:=es) CP_ok (by simp) rfl (by omega) ?_)
   refine CutE.of Qjmm rfl (Qamf _ bs _ ks ps es) ?_
   refine SatE.need hi (SatE.need (Q1mk hbb (by simp; omega)) (fin _ _ (by simp; omega) (fun x hx=>?_) (by omega) (by omega)))
   rcases List.mem_append.1 hx with hx | hx
   ·exact hs x hx
   ·simp only [List.mem_singleton] at hx
    subst hx
    exact hsm
  ·obtain ⟨n1,n2⟩:=pk (p + 1 + 1 + 1) 2 (by omega) (by omega) (by omega)
   have hw : IntKind.i64.wrap (12 + pickV bs (p + 1 + 1 + 1) 2) = 12 + pickV bs (p + 1 + 1 + 1) 2:=Qbrg (by omega) (by omega)
   rw [hw]
   exact SatE.need (ps0 _ (by omega) (by omega)) (SatE.cut (Q985 bs ks ps (by omega) (by omega) hnm p _ _ (by omega) (by omega) (by omega) 13 0 es (by omega) (by omega) (by omega) hs))
 obtain ⟨v,H',h,x,rfl,rfl,hx⟩:=hE
 exact Qk78 (p:=fun x : BookP=>Qewq Tryz.prog CP Qvef [.ptr 0 0,.agg [.sl .kind ks,.sl .point ps,.sl .entry es]] [.box [.sl .u8 bs,.int .i64 p]] (.agg [.sl .kind x.ks,.sl .point x.ps,.sl .entry x.es]) [.box [.sl .u8 bs,.int .i64 x.p]] ∧ Qe4i p x) ⟨x,h,hx⟩
theorem Qq5v (bs : List Int) (p : Int) (ks : List Kind) (ps : List Point) (es : List Entry) (hg : slK bs p ks ps es = true) : Qewq Tryz.prog CP Qvef [.ptr 0 0,.agg [.sl .kind ks,.sl .point ps,.sl .entry es]] [.box [.sl .u8 bs,.int .i64 p]] (.agg [.sl .kind (Qkav bs p ks ps es).ks,.sl .point (Qkav bs p ks ps es).ps,.sl .entry (Qkav bs p ks ps es).es]) [.box [.sl .u8 bs,.int .i64 (Qkav bs p ks ps es).p]]:=by
 exact (Qzxv bs p ks ps es hg).1
theorem Qql7 : EntOK Tryz.prog CP Qvef Qsb4:=by
 refine ⟨⟨Tryz.f143,by kernel_rfl,by kernel_rfl,by kernel_rfl⟩,fun args H res H' h=>?_⟩
 simp only [Qsb4] at h
 split at h
 ·simp only [Option.some.injEq,Prod.mk.injEq] at h
  obtain ⟨hg,rfl,rfl⟩:=h
  exact Qq5v _ _ _ _ _ hg
 ·cases h
end Lx
namespace Lx
open Go Go.Proofs
end Lx
namespace Lx
open Go Go.Proofs
end Lx
namespace Lx
open Go Go.Proofs
structure OvP where
 ks : List Kind
 ps : List Point
 es : List Entry
 n : Str
 q : Str
 deriving Inhabited
structure FlP where
 ks : List Kind
 ps : List Point
 es : List Entry
 n : Str
 l : List Int
 deriving Inhabited
structure CeP where
 ks : List Kind
 ps : List Point
 l : List Str
 deriving Inhabited
theorem Qz2g {c : List Int} (h : Qf9o c = true) (n : Nat) : Qf9o (c.take n) = true:=List.all_eq_true.2 fun b hb=>List.all_eq_true.1 h b (List.mem_of_mem_take hb)
end Lx
namespace Lx
open Go Go.Proofs
end Lx
namespace Lx
open Go Go.Proofs
end Lx
namespace Lx
open Go
section
variable {Ty : Type} {El : Ty → Type} {C : Cod Ty El} {P : Program}
def swC (k L : Nat) : AV Ty El → AV Ty El
 | .own r p v=>.own (if r = k then L else r) p v
 | c=>c
def swOk : AV Ty El → Bool
 | .own .. | .int .. | .bool .. | .str .. | .nils=>true
 | _=>false
def swO (k L : Nat) : AObj Ty El → AObj Ty El
 | .box cs=>.box (cs.map (swC k L))
 | o=>o
def swBox : AObj Ty El → Bool
 | .box cs=>cs.all swOk
 | .mp ..=>false
 | _=>true
theorem Qwzt {H : List (AObj Ty El)} {r : Nat} (h : H.length ≤ r) : hpOf H r = .gone:=by
 unfold hpOf; rw [List.getD_eq_getElem?_getD,List.getElem?_eq_none h]; rfl
theorem Qewq.moveAt (hC : CodOK P C) {g : FuncId} {args : List (AV Ty El)} {H : List (AObj Ty El)} {res : AV Ty El} {H' : List (AObj Ty El)} {T : Ty} {xs : List (El T)} {d : Nat} (h : Qewq P C g args H res H') (k : Nat) (hk : k < H'.length) (hlen : H.length ≤ H'.length)
  (hrow : hpOf H' k = .row T xs d 0 0 .no) (hres : noNm k 6 res = true) (hbox : H'.all swBox = true) : Qewq P C g args H res ((H'.map (swO k H'.length)).set k .out ++ [.row T xs d 0 0 .no]):=by
 intro w N vs hN hsz hrep
 refine (h w N vs hN hsz hrep).mono ?_
 rintro en w' ⟨v,N',rfl,hH,hv,hio,hroI,hroO,hfr,hF⟩
 have hL : hpOf H' H'.length = .gone:=Qwzt (Nat.le_refl _)
 have noF : ∀ b,¬ N'.F H'.length b:=fun b hb=>by
  have:=hH.obj H'.length
  rw [hL] at this
  exact this b hb
 have noG : ∀ p v u,¬ N'.G H'.length p v u:=fun p v u hg=>by
  have:=hH.reg H'.length p v u hg
  rw [hL] at this
  exact this

 have ob : ∀ r,hpOf ((H'.map (swO k H'.length)).set k .out ++ [.row T xs d 0 0 .no]) r = if r = k then .out else if r = H'.length then .row T xs d 0 0 .no else swO k H'.length (hpOf H' r):=fun r=>by
  unfold hpOf
  rw [List.getD_eq_getElem?_getD,List.getD_eq_getElem?_getD]
  by_cases h1 : r = k
  ·subst h1
   rw [List.getElem?_append_left (by simpa using hk),List.getElem?_set,if_pos rfl,if_pos (by simpa using hk),if_pos rfl]; rfl
  ·rw [if_neg h1]
   by_cases h2 : r = H'.length
   ·subst h2
    rw [if_pos rfl,List.getElem?_append_right (by simp)]
    simp
   ·rw [if_neg h2]
    by_cases h3 : r < H'.length
    ·rw [List.getElem?_append_left (by simpa using h3),List.getElem?_set,if_neg (fun e=>h1 e.symm),List.getElem?_map,List.getElem?_eq_getElem h3]
     rfl
    ·have : H'.length < r:=by omega
     rw [List.getElem?_append_right (by simp; omega),List.getElem?_eq_none (by simp; omega),List.getElem?_eq_none (by omega)]
     rfl
 let N2 : Nm:={ ν:=fun r=>if r = H'.length then N'.ν k else N'.ν r,F:=fun r b=>(r ≠ k ∧ r ≠ H'.length ∧ N'.F r b) ∨ (r = H'.length ∧ N'.F k b),G:=fun r p v u=>(r ≠ k ∧ r ≠ H'.length ∧ N'.G r p v u) ∨ (r = H'.length ∧ N'.G k p v u),ro:=N'.ro }
 have nek : k ≠ H'.length:=by omega
 have rC : ∀ (v : Value) (c : AV Ty El),swOk c = true → RepA C N' w' v c → RepA C N2 w' v (swC k H'.length c):=fun v c hc hr=>by
  cases hr with
  | own r p ver _ hx =>
   simp only [swC]
   by_cases e : r = k
   ·subst e; rw [if_pos rfl]; exact .own _ _ _ _ (.inr ⟨rfl,hx⟩)
   ·rw [if_neg e]
    exact .own _ _ _ _ (.inl ⟨e,fun e2=>noG p ver v (by rw [← e2]; exact hx),hx⟩)
  | int k n=>exact .int k n
  | bool b=>exact .bool b
  | str s l h=>exact .str s l h
  | nils=>exact .nils
  | _=>simp [swOk] at hc
 refine ⟨v,N2,rfl,⟨fun r=>?_,fun r p v u hg=>?_,fun r=>?_,fun r p v u hg=>?_,fun r r' b h1 h2=>?_,fun r b h1 h2=>?_,hH.roLt⟩, ?_,fun r hr hst=>?_,hroI,hroO,hfr,fun r b hb=>?_⟩
 ·rw [ob]
  by_cases h1 : r = k
  ·rw [if_pos h1]
   rintro b (hb | hb)
   ·exact hb.1 h1
   ·exact nek (h1.symm.trans hb.1)
  ·rw [if_neg h1]
   by_cases h2 : r = H'.length
   ·rw [if_pos h2]
    have ho:=hH.obj k
    rw [hrow] at ho
    have eν : N2.ν r = N'.ν k:=if_pos h2
    refine ⟨by rw [eν]; exact ho.1, ?_⟩
    rw [eν]
    exact (Deep.cast (N:=N') (N':=N2) hC (fun _ h=>h) (fun _ _=>rfl) _ _ _ _ _ _ ho.2 (fun _ _=>rfl)).blkEq (fun b=>⟨fun hb=>hb.elim (fun hb=>absurd h2 hb.2.1) (fun hb=>hb.2),fun hb=>.inr ⟨h2,hb⟩⟩)
   ·rw [if_neg h2]
    have ho:=hH.obj r
    have eν : N2.ν r = N'.ν r:=if_neg h2
    have eF : ∀ b,N2.F r b ↔ N'.F r b:=fun b=>⟨fun hb=>hb.elim (fun hb=>hb.2.2) (fun hb=>absurd hb.1 h2),fun hb=>.inl ⟨h1,h2,hb⟩⟩
    cases e : hpOf H' r with
    | box cs =>
     rw [e] at ho
     have hm:=Q13r e (by simp)
     have hn : cs.all swOk = true:=List.all_eq_true.1 hbox _ hm
     obtain ⟨b,arr,t,q1,q2,q3,q4,q5,q6⟩:=ho
     refine ⟨b,arr,t,eν.trans q1,q2,by rw [q3]; simp,q4,fun j v c hj hc=>?_,fun b'=>(eF b').trans (q6 b')⟩
     rw [List.getElem?_map] at hc
     cases e2 : cs[j]? with
     | none=>rw [e2] at hc; cases hc
     | some c0 =>
      rw [e2] at hc
      simp only [Option.map_some,Option.some.injEq] at hc
      subst hc
      exact rC v c0 (List.all_eq_true.1 hn c0 (List.mem_of_getElem? e2)) (q5 j v c0 hj e2)
    | row T' xs' d' vr vn m =>
     rw [e] at ho
     refine ⟨by rw [eν]; exact ho.1, ?_⟩
     rw [eν]
     exact (Deep.cast (N:=N') (N':=N2) hC (fun _ h=>h) (fun _ _=>rfl) _ _ _ _ _ _ ho.2 (fun _ _=>rfl)).blkEq eF
    | mp K V es =>
     have hm:=Q13r e (by simp)
     have hn:=List.all_eq_true.1 hbox _ hm
     simp [swBox] at hn
    | gone=>rw [e] at ho; exact fun b hb=>ho b ((eF b).1 hb)
    | out=>rw [e] at ho; exact fun b hb=>ho b ((eF b).1 hb)
 ·rw [ob]
  rcases hg with ⟨h1,h2,hg⟩ | ⟨rfl,hg⟩
  ·have eν : N2.ν r = N'.ν r:=if_neg h2
   rw [if_neg h1,if_neg h2,eν]
   have:=hH.reg r p v u hg
   cases e : hpOf H' r <;> rw [e] at this <;> exact this
  ·have eν : N2.ν H'.length = N'.ν k:=if_pos rfl
   rw [if_neg nek.symm,if_pos rfl,eν]
   have:=hH.reg k p v u hg
   rw [hrow] at this
   exact this
 ·rw [ob]
  by_cases h1 : r = k
  ·rw [if_pos h1]; trivial
  ·rw [if_neg h1]
   by_cases h2 : r = H'.length
   ·rw [if_pos h2]
    have hf:=hH.full k
    rw [hrow] at hf
    have eν : N2.ν r = N'.ν k:=if_pos h2
    refine ⟨.inr ⟨h2,by rw [eν]; exact hf.1⟩,fun p u q1 q2 q3 q4=>.inr ⟨h2,hf.2 p u q1 q2 q3 (by rw [← eν]; exact q4)⟩⟩
   ·rw [if_neg h2]
    have eν : N2.ν r = N'.ν r:=if_neg h2
    have hf:=hH.full r
    cases e : hpOf H' r with
    | box cs=>rw [e] at hf; exact .inl ⟨h1,h2,by rw [eν]; exact hf⟩
    | mp K V es=>rw [e] at hf; exact .inl ⟨h1,h2,by rw [eν]; exact hf⟩
    | row T' xs' d' vr vn m=>rw [e] at hf; exact ⟨.inl ⟨h1,h2,by rw [eν]; exact hf.1⟩,fun p u q1 q2 q3 q4=>.inl ⟨h1,h2,hf.2 p u q1 q2 q3 (by rw [← eν]; exact q4)⟩⟩
    | gone=>trivial
    | out=>trivial
 ·rcases hg with ⟨_,_,hg⟩ | ⟨_,hg⟩
  ·exact hH.one _ _ _ _ hg
  ·exact hH.one _ _ _ _ hg
 ·rcases h1 with ⟨a1,a2,a3⟩ | ⟨a1,a3⟩ <;> rcases h2 with ⟨b1,b2,b3⟩ | ⟨b1,b3⟩
  ·exact hH.dist r r' b a3 b3
  ·exact absurd (hH.dist r k b a3 b3) a1
  ·exact absurd (hH.dist r' k b b3 a3) b1
  ·exact a1.trans b1.symm
 ·rcases h1 with ⟨_,_,a3⟩ | ⟨_,a3⟩
  ·exact hH.roNot _ _ a3 h2
  ·exact hH.roNot _ _ a3 h2
 ·exact hv.noNm hC (N':=N2) (fun r p v u hr hg=>.inl ⟨hr,fun e=>noG p v u (by rw [← e]; exact hg),hg⟩) (fun _ h=>h) 6 hres
 ·have hrk : r ≠ k:=fun e=>by
   have : hpOf ((H'.map (swO k H'.length)).set k .out ++ [.row T xs d 0 0 .no]) r = .out:=by rw [ob,if_pos e]
   simp [stays,this] at hst
  have hrL : r ≠ H'.length:=by omega
  have eν : N2.ν r = N'.ν r:=if_neg hrL
  rw [eν]
  refine hio r hr ?_
  have e1 : hpOf ((H'.map (swO k H'.length)).set k .out ++ [.row T xs d 0 0 .no]) r = swO k H'.length (hpOf H' r):=by rw [ob,if_neg hrk,if_neg hrL]
  simp only [stays,e1] at hst ⊢
  cases e : hpOf H' r <;> rw [e] at hst <;> exact hst
 ·rcases hb with ⟨_,_,hb⟩ | ⟨_,hb⟩
  ·exact hF _ _ hb
  ·exact hF _ _ hb
theorem Qewq.args {g : FuncId} {args args' : List (AV Ty El)} {H : List (AObj Ty El)} {res : AV Ty El} {H' : List (AObj Ty El)} (h : Qewq P C g args H res H') (hl : args'.length = args.length)
  (hw : ∀ (j : Nat) x x',args[j]? = some x → args'[j]? = some x' → ∀ (N : Nm) (w : World) (v : Value),RepA C N w v x' → RepA C N w v x) : Qewq P C g args' H res H':=by
 intro w N vs hN hsz hrep
 refine h w N vs hN (hsz.trans hl) (fun j v x hv hx=>?_)
 have hj : j < args'.length:=by rw [hl]; exact (List.getElem?_eq_some_iff.1 hx).1
 exact hw j x _ hx (List.getElem?_eq_getElem hj) N w v (hrep j v _ hv (List.getElem?_eq_getElem hj))
theorem RepA.nilSl {N : Nm} {w : World} {v : Value} (T : Ty) (h : RepA C N w v .nils) : RepA C N w v (.sl T []):=by cases h; exact .sl0 T none 0
theorem RepA.aggMono {N : Nm} {w : World} {v : Value} {cs ds : List (AV Ty El)} (hl : ds.length = cs.length) (hm : ∀ (j : Nat) c d,cs[j]? = some c → ds[j]? = some d → ∀ u,RepA C N w u c → RepA C N w u d) (h : RepA C N w v (.agg cs)) : RepA C N w v (.agg ds):=by
 cases h with
 | agg vs cs hl' h =>
  refine .agg vs ds (hl'.trans hl.symm) (fun j u d hu hd=>?_)
  have hj : j < cs.length:=by rw [← hl]; exact (List.getElem?_eq_some_iff.1 hd).1
  exact hm j _ d (List.getElem?_eq_getElem hj) hd u (h j u _ hu (List.getElem?_eq_getElem hj))
end
end Lx
namespace Go.Proofs
open Go.Shelf
def Tryz.laysE_ren : Go.Shelf.Ren:=⟨fun | 6=>177 | 15=>232 | 14=>231 | 28=>268 | 29=>269 | 20=>260 | 21=>261 | 22=>262 | 23=>263 | 24=>264 | 25=>265 | 26=>266 | 27=>267 | 46=>317 | 47=>318 | 48=>319 | 49=>320 | 50=>321 | 57=>342 | n=>n,fun | 22=>27 | 24=>92 | 25=>225 | 3=>3 | 39=>261 | 0=>0 | 53=>296 | 55=>298 | 4=>4 | 46=>290 | 45=>289 | 50=>150 | 5=>5 | 9=>9 | 66=>332 | 70=>336 | 76=>356 | 77=>357 | n=>n,fun | n=>n⟩
theorem Tryz.laysE : Go.Proofs.SlLaysF0.n6 Tryz.prog Tryz.laysE_ren:={
 mixed:=by kernel_rfl
 f6:=⟨Tryz.f177.name,by decide,Tryz.func177.trans (congrArg some (by kernel_rfl))⟩
 f14:=⟨Tryz.f231.name,by decide,Tryz.func231.trans (congrArg some (by kernel_rfl))⟩
 f15:=Tryz.func232.trans (congrArg some (by kernel_rfl))
 f20:=⟨Tryz.f260.name,by decide,Tryz.func260.trans (congrArg some (by kernel_rfl))⟩
 f21:=⟨Tryz.f261.name,by decide,Tryz.func261.trans (congrArg some (by kernel_rfl))⟩
 f22:=⟨Tryz.f262.name,by decide,Tryz.func262.trans (congrArg some (by kernel_rfl))⟩
 f23:=⟨Tryz.f263.name,by decide,Tryz.func263.trans (congrArg some (by kernel_rfl))⟩
 f24:=⟨Tryz.f264.name,by decide,Tryz.func264.trans (congrArg some (by kernel_rfl))⟩
 f25:=⟨Tryz.f265.name,by decide,Tryz.func265.trans (congrArg some (by kernel_rfl))⟩
 f26:=⟨Tryz.f266.name,by decide,Tryz.func266.trans (congrArg some (by kernel_rfl))⟩
 f27:=⟨Tryz.f267.name,by decide,Tryz.func267.trans (congrArg some (by kernel_rfl))⟩
 f28:=Tryz.func268.trans (congrArg some (by kernel_rfl))
 f29:=Tryz.func269.trans (congrArg some (by kernel_rfl))
 f46:=⟨Tryz.f317.name,by decide,Tryz.func317.trans (congrArg some (by kernel_rfl))⟩
 f47:=Tryz.func318.trans (congrArg some (by kernel_rfl))
 f48:=Tryz.func319.trans (congrArg some (by kernel_rfl))
 f49:=⟨Tryz.f320.name,by decide,Tryz.func320.trans (congrArg some (by kernel_rfl))⟩
 f50:=⟨Tryz.f321.name,by decide,Tryz.func321.trans (congrArg some (by kernel_rfl))⟩
 f57:=⟨Tryz.f342.name,by decide,Tryz.func342.trans (congrArg some (by kernel_rfl))⟩
 t0:=Tryz.underlying0
 a0:=Tryz.isAgg0
 z0:=Tryz.sizeOf0
 v0:=Tryz.zeroValue0
 t3:=Tryz.underlying3
 a3:=Tryz.isAgg3
 z3:=Tryz.sizeOf3
 v3:=Tryz.zeroValue3
 t4:=Tryz.underlying4
 a4:=Tryz.isAgg4
 z4:=Tryz.sizeOf4
 v4:=Tryz.zeroValue4
 t5:=Tryz.underlying5
 a5:=Tryz.isAgg5
 z5:=Tryz.sizeOf5
 v5:=Tryz.zeroValue5
 t9:=Tryz.underlying9
 a9:=Tryz.isAgg9
 z9:=Tryz.sizeOf9
 v9:=Tryz.zeroValue9
 t22:=Tryz.underlying27
 a22:=Tryz.isAgg27
 z22:=Tryz.sizeOf27
 v22:=Tryz.zeroValue27
 t25:=Tryz.underlying225
 a25:=Tryz.isAgg225
 z25:=Tryz.sizeOf225
 v25:=Tryz.zeroValue225
 t39:=Tryz.underlying261
 a39:=Tryz.isAgg261
 z39:=Tryz.sizeOf261
 v39:=Tryz.zeroValue261
 t45:=Tryz.underlying289
 a45:=Tryz.isAgg289
 z45:=Tryz.sizeOf289
 v45:=Tryz.zeroValue289
 t46:=Tryz.underlying290
 a46:=Tryz.isAgg290
 z46:=Tryz.sizeOf290
 v46:=Tryz.zeroValue290
 t50:=Tryz.underlying150
 a50:=Tryz.isAgg150
 z50:=Tryz.sizeOf150
 v50:=Tryz.zeroValue150
 t53:=Tryz.underlying296
 a53:=Tryz.isAgg296
 z53:=Tryz.sizeOf296
 v53:=Tryz.zeroValue296
 t55:=Tryz.underlying298
 a55:=Tryz.isAgg298
 z55:=Tryz.sizeOf298
 v55:=Tryz.zeroValue298
 t66:=Tryz.underlying332
 a66:=Tryz.isAgg332
 z66:=Tryz.sizeOf332
 v66:=Tryz.zeroValue332
 t70:=Tryz.underlying336
 a70:=Tryz.isAgg336
 z70:=Tryz.sizeOf336
 v70:=Tryz.zeroValue336
 t76:=Tryz.underlying356
 a76:=Tryz.isAgg356
 z76:=Tryz.sizeOf356
 v76:=Tryz.zeroValue356
 t77:=Tryz.underlying357
 a77:=Tryz.isAgg357
 z77:=Tryz.sizeOf357
 v77:=Tryz.zeroValue357 }
def Tryz.laysF_ren : Go.Shelf.Ren:=⟨fun | 6=>180 | 15=>232 | 14=>234 | 28=>268 | 29=>269 | 20=>271 | 21=>272 | 22=>273 | 23=>274 | 24=>275 | 25=>276 | 26=>277 | 27=>278 | 46=>322 | 47=>318 | 48=>319 | 49=>323 | 50=>324 | 57=>343 | n=>n,fun | 22=>90 | 24=>94 | 25=>228 | 3=>3 | 39=>261 | 0=>0 | 53=>296 | 55=>298 | 4=>4 | 46=>290 | 45=>289 | 50=>150 | 5=>5 | 9=>9 | 66=>332 | 70=>336 | 76=>356 | 77=>357 | n=>n,fun | n=>n⟩
theorem Tryz.laysF : Go.Proofs.SlLaysF0.n6 Tryz.prog Tryz.laysF_ren:={
 mixed:=by kernel_rfl
 f6:=⟨Tryz.f180.name,by decide,Tryz.func180.trans (congrArg some (by kernel_rfl))⟩
 f14:=⟨Tryz.f234.name,by decide,Tryz.func234.trans (congrArg some (by kernel_rfl))⟩
 f15:=Tryz.func232.trans (congrArg some (by kernel_rfl))
 f20:=⟨Tryz.f271.name,by decide,Tryz.func271.trans (congrArg some (by kernel_rfl))⟩
 f21:=⟨Tryz.f272.name,by decide,Tryz.func272.trans (congrArg some (by kernel_rfl))⟩
 f22:=⟨Tryz.f273.name,by decide,Tryz.func273.trans (congrArg some (by kernel_rfl))⟩
 f23:=⟨Tryz.f274.name,by decide,Tryz.func274.trans (congrArg some (by kernel_rfl))⟩
 f24:=⟨Tryz.f275.name,by decide,Tryz.func275.trans (congrArg some (by kernel_rfl))⟩
 f25:=⟨Tryz.f276.name,by decide,Tryz.func276.trans (congrArg some (by kernel_rfl))⟩
 f26:=⟨Tryz.f277.name,by decide,Tryz.func277.trans (congrArg some (by kernel_rfl))⟩
 f27:=⟨Tryz.f278.name,by decide,Tryz.func278.trans (congrArg some (by kernel_rfl))⟩
 f28:=Tryz.func268.trans (congrArg some (by kernel_rfl))
 f29:=Tryz.func269.trans (congrArg some (by kernel_rfl))
 f46:=⟨Tryz.f322.name,by decide,Tryz.func322.trans (congrArg some (by kernel_rfl))⟩
 f47:=Tryz.func318.trans (congrArg some (by kernel_rfl))
 f48:=Tryz.func319.trans (congrArg some (by kernel_rfl))
 f49:=⟨Tryz.f323.name,by decide,Tryz.func323.trans (congrArg some (by kernel_rfl))⟩
 f50:=⟨Tryz.f324.name,by decide,Tryz.func324.trans (congrArg some (by kernel_rfl))⟩
 f57:=⟨Tryz.f343.name,by decide,Tryz.func343.trans (congrArg some (by kernel_rfl))⟩
 t0:=Tryz.underlying0
 a0:=Tryz.isAgg0
 z0:=Tryz.sizeOf0
 v0:=Tryz.zeroValue0
 t3:=Tryz.underlying3
 a3:=Tryz.isAgg3
 z3:=Tryz.sizeOf3
 v3:=Tryz.zeroValue3
 t4:=Tryz.underlying4
 a4:=Tryz.isAgg4
 z4:=Tryz.sizeOf4
 v4:=Tryz.zeroValue4
 t5:=Tryz.underlying5
 a5:=Tryz.isAgg5
 z5:=Tryz.sizeOf5
 v5:=Tryz.zeroValue5
 t9:=Tryz.underlying9
 a9:=Tryz.isAgg9
 z9:=Tryz.sizeOf9
 v9:=Tryz.zeroValue9
 t22:=Tryz.underlying90
 a22:=Tryz.isAgg90
 z22:=Tryz.sizeOf90
 v22:=Tryz.zeroValue90
 t25:=Tryz.underlying228
 a25:=Tryz.isAgg228
 z25:=Tryz.sizeOf228
 v25:=Tryz.zeroValue228
 t39:=Tryz.underlying261
 a39:=Tryz.isAgg261
 z39:=Tryz.sizeOf261
 v39:=Tryz.zeroValue261
 t45:=Tryz.underlying289
 a45:=Tryz.isAgg289
 z45:=Tryz.sizeOf289
 v45:=Tryz.zeroValue289
 t46:=Tryz.underlying290
 a46:=Tryz.isAgg290
 z46:=Tryz.sizeOf290
 v46:=Tryz.zeroValue290
 t50:=Tryz.underlying150
 a50:=Tryz.isAgg150
 z50:=Tryz.sizeOf150
 v50:=Tryz.zeroValue150
 t53:=Tryz.underlying296
 a53:=Tryz.isAgg296
 z53:=Tryz.sizeOf296
 v53:=Tryz.zeroValue296
 t55:=Tryz.underlying298
 a55:=Tryz.isAgg298
 z55:=Tryz.sizeOf298
 v55:=Tryz.zeroValue298
 t66:=Tryz.underlying332
 a66:=Tryz.isAgg332
 z66:=Tryz.sizeOf332
 v66:=Tryz.zeroValue332
 t70:=Tryz.underlying336
 a70:=Tryz.isAgg336
 z70:=Tryz.sizeOf336
 v70:=Tryz.zeroValue336
 t76:=Tryz.underlying356
 a76:=Tryz.isAgg356
 z76:=Tryz.sizeOf356
 v76:=Tryz.zeroValue356
 t77:=Tryz.underlying357
 a77:=Tryz.isAgg357
 z77:=Tryz.sizeOf357
 v77:=Tryz.zeroValue357 }
def Tryz.lays106_ren : Go.Shelf.Ren:=⟨fun | 106=>179 | 213=>233 | 265=>270 | n=>n,fun | 9=>9 | 3=>3 | n=>n,fun | n=>n⟩
theorem Tryz.lays106 : Go.Proofs.Lays.n106 Tryz.prog Tryz.lays106_ren:={
 mixed:=by kernel_rfl
 f106:=Tryz.func179.trans (congrArg some (by kernel_rfl))
 f213:=Tryz.func233.trans (congrArg some (by kernel_rfl))
 f265:=Tryz.func270.trans (congrArg some (by kernel_rfl))
 t3:=Tryz.underlying3
 a3:=Tryz.isAgg3
 z3:=Tryz.sizeOf3
 v3:=Tryz.zeroValue3
 t9:=Tryz.underlying9
 a9:=Tryz.isAgg9
 z9:=Tryz.sizeOf9
 v9:=Tryz.zeroValue9 }
end Go.Proofs
namespace Lx
open Go Go.Proofs
theorem Q9yw : ∀ a b : Str,Lib.compareBytes a b < 0 ↔ Q7zj a b = true
 | [],[]=>by simp [Lib.compareBytes,Q7zj]
 | [],b :: y=>by simp [Lib.compareBytes,Q7zj]
 | a :: x,[]=>by simp [Lib.compareBytes,Q7zj]
 | a :: x,b :: y=>by
  have ih:=Q9yw x y
  simp only [Lib.compareBytes,Q7zj,Bool.or_eq_true,Bool.and_eq_true,decide_eq_true_eq,beq_iff_eq]
  by_cases h1 : a < b
  ·simp [h1]
  ·rw [if_neg h1]
   by_cases h2 : b < a
   ·rw [if_pos h2]
    have : a ≠ b:=fun e=>by subst e; exact h1 h2
    simp [h1,this]
   ·rw [if_neg h2,ih]
    have : a = b:=by
     rw [UInt8.lt_iff_toNat_lt] at h1 h2
     exact UInt8.toNat_inj.1 (by omega)
    simp [h1,this]
theorem Qqw5 : ∀ a : Str,Q7zj a a = false
 | []=>rfl
 | a :: x=>by simp [Q7zj,Qqw5 x]
theorem Qi83 {a b : Str} (h : Q7zj a b = true) : Q7zj b a = false:=by
 have:=le_lt a b
 rw [h,Bool.true_or] at this
 simpa using this.symm
theorem lt_trans : ∀ {a b c : Str},Q7zj a b = true → Q7zj b c = true → Q7zj a c = true
 | a,[],c,h1,h2=>by cases a <;> simp [Q7zj] at h1
 | a,b :: y,[],h1,h2=>by simp [Q7zj] at h2
 | [],b :: y,c :: z,h1,h2=>rfl
 | a :: x,b :: y,c :: z,h1,h2=>by
  simp only [Q7zj,Bool.or_eq_true,Bool.and_eq_true,decide_eq_true_eq,beq_iff_eq] at h1 h2 ⊢
  rcases h1 with h1 | ⟨rfl,h1⟩ <;> rcases h2 with h2 | ⟨rfl,h2⟩
  ·left; rw [UInt8.lt_iff_toNat_lt] at *; omega
  ·exact .inl h1
  ·exact .inl h2
  ·exact .inr ⟨rfl,lt_trans h1 h2⟩
theorem Qj9t (a b : Str) (h1 : Q7zj a b = false) (h2 : Q7zj b a = false) : a = b:=by
 have:=le_lt a b
 rw [h1,h2] at this
 simpa using this
theorem Qgb6 {α : Type} [Inhabited α] (key : α → Str) : Go.Sort.SWO (fun x y : α=>Q7zj (key x) (key y)) :=
 ⟨fun x=>Qqw5 _,fun x y z=>lt_trans,fun x y z h1 h2=>by
  by_cases h3 : Q7zj (key y) (key x) = true
  ·by_cases h4 : Q7zj (key z) (key y) = true
   ·exact Qi83 (lt_trans h4 h3)
   ·have e:=Qj9t (key y) (key z) h2 (by simpa using h4)
    rw [← e]; exact h1
  ·have e:=Qj9t (key x) (key y) h1 (by simpa using h3)
   rw [e]; exact h2⟩
theorem Qy04 {α : Type} [Inhabited α] (key : α → Int) : Go.Sort.SWO (fun x y : α=>decide (key x < key y)) :=
 ⟨fun x=>by simp,fun x y z h1 h2=>by simp only [decide_eq_true_eq] at *; omega,fun x y z h1 h2=>by simp only [decide_eq_false_iff_not] at *; omega⟩
theorem Qrj0 {α β : Type} (key : α → β) : ∀ {l : List α},l.Pairwise (fun a b=>key a ≠ key b) → ∀ {a b : α},a ∈ l → b ∈ l → key a = key b → a = b
 | [],_,a,b,ha,_,_=>by cases ha
 | x :: l,h,a,b,ha,hb,he=>by
  rw [List.pairwise_cons] at h
  rcases List.mem_cons.1 ha with h1 | h1
  ·rcases List.mem_cons.1 hb with h2 | h2
   ·rw [h1,h2]
   ·exact absurd (by rw [← h1]; exact he) (h.1 b h2)
  ·rcases List.mem_cons.1 hb with h2 | h2
   ·exact absurd (by rw [← h2]; exact he.symm) (h.1 a h1)
   ·exact Qrj0 key h.2 h1 h2 he
theorem Qhss {α : Type} (key : α → Str) {zs ms : List α} (hm : ms.Pairwise fun a b=>Q7zj (key a) (key b) = true) (hp : zs.Perm ms) (hz : zs.Pairwise fun a b=>¬ Lib.compareBytes (key b) (key a) < 0) : zs = ms:=by
 have ne : ms.Pairwise fun a b=>key a ≠ key b:=hm.imp (fun {a b} h e=>by rw [e,Qqw5] at h; cases h)
 refine hp.eq_of_pairwise (le:=fun a b=>¬ Lib.compareBytes (key b) (key a) < 0) (fun a b ha hb h1 h2=>?_) hz (hm.imp fun {a b} h h2=>?_)
 ·rw [Q9yw] at h1 h2
  exact Qrj0 key ne (hp.mem_iff.1 ha) hb (Qj9t _ _ (by simpa using h2) (by simpa using h1))
 ·rw [Q9yw] at h2
  rw [Qi83 h] at h2; cases h2
theorem Qush {α : Type} (key : α → Int) {zs ms : List α} (hm : ms.Pairwise fun a b=>key a < key b) (hp : zs.Perm ms) (hz : zs.Pairwise fun a b=>¬ key b < key a) : zs = ms:=by
 have ne : ms.Pairwise fun a b=>key a ≠ key b:=hm.imp (fun {a b} h e=>by omega)
 refine hp.eq_of_pairwise (le:=fun a b=>¬ key b < key a) (fun a b ha hb h1 h2=>?_) hz (hm.imp fun {a b} h h2=>?_)
 ·exact Qrj0 key ne (hp.mem_iff.1 ha) hb (by omega)
 ·omega
theorem Q2xh (n : Str) (f : Fld) : ∀ es : List Entry,(insE es n f).Perm (es ++ [⟨n,[f]⟩])
 | []=>.refl _
 | e :: r=>by
  unfold insE
  split
  ·exact (Q2xh n f r).cons e
  ·exact (List.perm_append_comm (l₁:=[⟨n,[f]⟩]) (l₂:=e :: r))
theorem Q4rf {ks : List Kind} {ps : List Point} : ∀ {es : List Entry} {m : Str},Qgea ks ps (some m) es = true → ∀ e ∈ es,Q7zj m e.name = true
 | [],m,_,e,he=>by cases he
 | a :: r,m,h,e,he=>by
  simp only [Qgea,Bool.and_eq_true] at h
  rcases List.mem_cons.1 he with rfl | he
  ·exact h.2.1
  ·exact lt_trans h.2.1 (Q4rf h.2.2 e he)
theorem Q90k {ks : List Kind} {ps : List Point} : ∀ {es : List Entry} {q : Option Str},Qgea ks ps q es = true → es.Pairwise fun a b=>Q7zj a.name b.name = true
 | [],_,_=>.nil
 | a :: r,q,h=>by
  simp only [Qgea,Bool.and_eq_true] at h
  exact List.pairwise_cons.2 ⟨Q4rf h.2.2,Q90k h.2.2⟩
theorem Qncy (n : Str) (f : Fld) : ∀ {es : List Entry},(es.Pairwise fun a b=>Q7zj a.name b.name = true) → (∀ e ∈ es,e.name ≠ n) → (insE es n f).Pairwise fun a b=>Q7zj a.name b.name = true
 | [],_,_=>by simp [insE]
 | e :: r,h,hn=>by
  rw [List.pairwise_cons] at h
  unfold insE
  split
  ·rename_i hlt
   refine List.pairwise_cons.2 ⟨fun x hx=>?_,Qncy n f h.2 (fun e' he'=>hn e' (List.mem_cons_of_mem _ he'))⟩
   rcases Qwpl _ _ _ _ hx with rfl | hx
   ·exact hlt
   ·exact h.1 x hx
  ·rename_i hlt
   have h1 : Q7zj n e.name = true:=by
    cases h2 : Q7zj n e.name with
    | true=>rfl
    | false=>exact absurd (Qj9t _ _ (by simpa using hlt) h2) (hn e (List.mem_cons_self ..))
   refine List.pairwise_cons.2 ⟨fun x hx=>?_,List.pairwise_cons.2 h⟩
   rcases List.mem_cons.1 hx with rfl | hx
   ·exact h1
   ·exact lt_trans h1 (h.1 x hx)
theorem Qbw4 {es : List Entry} {n : Str} {f : Fld} (hs : es.Pairwise fun a b=>Q7zj a.name b.name = true) (hn : ∀ e ∈ es,e.name ≠ n) {zs : List Entry} (hp : zs.Perm (es ++ [⟨n,[f]⟩])) (hz : zs.Pairwise fun a b=>¬ Lib.compareBytes b.name a.name < 0) : zs = insE es n f :=
 Qhss Entry.name (Qncy n f hs hn) (hp.trans (Q2xh n f es).symm) hz
def Qvhg (l : List Fld) : Prop:=l.Pairwise fun a b=>a.what < b.what
theorem Qc5h {ks : List Kind} {ps : List Point} {n : Str} : ∀ {l : List Fld} {q : Int},Qt03 ks ps n (some q) l = true → ∀ f ∈ l,q < f.what
 | [],q,_,f,hf=>by cases hf
 | a :: r,q,h,f,hf=>by
  simp only [Qg5r,Qtv6,Bool.and_eq_true,decide_eq_true_eq] at h
  rcases List.mem_cons.1 hf with rfl | hf
  ·exact h.2.1
  ·have:=Qc5h h.2.2 f hf; omega
theorem Qh2w {ks : List Kind} {ps : List Point} {n : Str} : ∀ {l : List Fld} {q : Option Int},Qt03 ks ps n q l = true → Qvhg l
 | [],_,_=>.nil
 | a :: r,q,h=>by
  simp only [Qg5r,Bool.and_eq_true] at h
  exact List.pairwise_cons.2 ⟨Qc5h h.2.2,Qh2w h.2.2⟩
theorem Qk3m (f : Fld) : ∀ {l : List Fld},(∀ g ∈ l,g.what ≠ f.what) → (Qul0 l f).Perm (l ++ [f])
 | [],_=>.refl _
 | g :: r,h=>by
  unfold Qul0
  split
  ·exact (Qk3m f (fun g hg=>h g (List.mem_cons_of_mem _ hg))).cons g
  ·rw [if_neg (h g (List.mem_cons_self ..))]
   exact (List.perm_append_comm (l₁:=[f]) (l₂:=g :: r))
theorem Q0fd (f : Fld) : ∀ {l : List Fld},Qvhg l → Qvhg (Qul0 l f)
 | [],_=>by simp [Qul0,Qvhg]
 | g :: r,h=>by
  have h0:=h
  unfold Qvhg at h
  rw [List.pairwise_cons] at h
  unfold Qul0
  split
  ·rename_i hlt
   refine List.pairwise_cons.2 ⟨fun x hx=>?_,Q0fd f h.2⟩
   rcases Q0pd _ _ _ hx with rfl | hx
   ·exact hlt
   ·exact h.1 x hx
  ·split
   ·rename_i he
    split
    ·exact List.pairwise_cons.2 ⟨fun x hx=>by rw [← he]; exact h.1 x hx,h.2⟩
    ·exact h0
   ·refine List.pairwise_cons.2 ⟨fun x hx=>?_,h0⟩
    rcases List.mem_cons.1 hx with rfl | hx
    ·omega
    ·have:=h.1 x hx; omega
theorem Qbxf {l : List Fld} {f : Fld} (hs : Qvhg l) (hn : ∀ g ∈ l,g.what ≠ f.what) {zs : List Fld} (hp : zs.Perm (l ++ [f])) (hz : zs.Pairwise fun a b=>¬ b.what < a.what) : zs = Qul0 l f :=
 Qush Fld.what (Q0fd f hs) (hp.trans (Qk3m f hn).symm) hz
theorem Qlnx {f : Fld} : ∀ {l : List Fld} {k : Nat} (hk : k < l.length),Qvhg l → l[k].what = f.what → Qul0 l f = if Fld.later f l[k] = true then l.set k f else l
 | g :: r,0,hk,hs,he=>by
  simp only [List.getElem_cons_zero] at he ⊢
  rw [Qul0,if_neg (by omega),if_pos he]
  split <;> rfl
 | g :: r,k + 1,hk,hs,he=>by
  unfold Qvhg at hs
  rw [List.pairwise_cons] at hs
  simp only [List.getElem_cons_succ] at he ⊢
  have hk' : k < r.length:=by simpa using hk
  have hlt : g.what < f.what:=by rw [← he]; exact hs.1 _ (List.getElem_mem hk')
  rw [Qp68 hlt,Qlnx hk' hs.2 he]
  split <;> rfl
end Lx
namespace Lx
open Go Go.Proofs
def putS : List Entry → Str → Fld → List Entry
 | [],n,f=>[⟨n,[f]⟩]
 | e :: r,n,f=>if e.name = n then ⟨e.name,Qul0 e.fields f⟩ :: r else if Q7zj e.name n = true then e :: putS r n f else ⟨n,[f]⟩ :: e :: r
def Qurt (es : List Entry) : Prop:=es.Pairwise fun a b=>Q7zj a.name b.name = true
theorem Q6v6 (e : Entry) (r : List Entry) (n : Str) : entIx (e :: r) n = if e.name = n then 0 else if 0 ≤ entIx r n then entIx r n + 1 else -1:=by
 unfold entIx idxF
 rw [List.findIdx?_cons]
 by_cases h : e.name = n
 ·simp [h]
 ·have h2 : (e.name == n) = false:=by simpa using h
  rw [h2,if_neg h]
  cases r.findIdx? (fun e=>e.name == n) <;> simp
theorem Qsz7 : ∀ {es : List Entry} (n : Str) (f : Fld),Qurt es → putF es n f = putS es n f
 | [],n,f,_=>rfl
 | e :: r,n,f,hs=>by
  unfold Qurt at hs
  rw [List.pairwise_cons] at hs
  have ih:=Qsz7 (es:=r) n f hs.2
  unfold putS
  by_cases h : e.name = n
  ·have : entIx (e :: r) n = 0:=by rw [Q6v6,if_pos h]
   rw [if_pos h,Q5v6 (by omega),this]; rfl
  ·rw [if_neg h]
   by_cases h0 : 0 ≤ entIx r n
   ·have hix : entIx (e :: r) n = entIx r n + 1:=by rw [Q6v6,if_neg h,if_pos h0]
    have hm:=Qhwx h0
    have hlt : (entIx r n).toNat < r.length:=by have h2 : entIx r n < (r.length : Int):=Q1mf; omega
    have hnm:=Qn0g h0 (r.getD (entIx r n).toNat (dfltP .entry)) (by rw [List.getD_eq_getElem?_getD,List.getElem?_eq_getElem hlt]; rfl)
    have hl:=hs.1 _ hm
    rw [hnm] at hl
    rw [if_pos hl,Q5v6 (by omega),hix,← ih,Q5v6 h0,show (entIx r n + 1).toNat = (entIx r n).toNat + 1 by omega]
    rfl
   ·have hix : ¬ 0 ≤ entIx (e :: r) n:=by rw [Q6v6,if_neg h,if_neg h0]; omega
    rw [Qk9v hix]
    unfold insE
    rw [← ih,Qk9v h0]
def lk (es : List Entry) (n : Str) (w : Int) : Option Fld:=(es.find? fun e=>e.name == n).bind fun e=>e.fields.find? fun f=>f.what == w
def mx (o : Option Fld) (f : Fld) : Fld:=match o with
 | none=>f
 | some g=>if Fld.later f g = true then f else g
theorem Qqae (f : Fld) (w : Int) : ∀ {l : List Fld},Qvhg l → (Qul0 l f).find? (fun g=>g.what == w) = if w = f.what then some (mx (l.find? fun g=>g.what == w) f) else l.find? fun g=>g.what == w
 | [],_=>by
  by_cases h : w = f.what
  ·subst h; simp [Qul0,mx]
  ·have : (f.what == w) = false:=by simp; omega
   simp [Qul0,this,h]
 | g :: r,hs=>by
  have hs':=hs
  unfold Qvhg at hs'
  rw [List.pairwise_cons] at hs'
  have ih:=Qqae f w (l:=r) hs'.2
  unfold Qul0
  by_cases h1 : g.what < f.what
  ·rw [if_pos h1,List.find?_cons,List.find?_cons,ih]
   by_cases h2 : g.what = w
   ·have : (g.what == w) = true:=by simpa using h2
    rw [this]
    simp only
    rw [if_neg (by omega)]
   ·have : (g.what == w) = false:=by simpa using h2
    rw [this]
  ·rw [if_neg h1]
   by_cases h3 : g.what = f.what
   ·rw [if_pos h3]
    by_cases h2 : w = f.what
    ·subst h2
     have e1 : (g.what == f.what) = true:=by simpa using h3
     rw [if_pos rfl,List.find?_cons (a:=g),e1]
     simp only [mx]
     split <;> simp [e1]
    ·have e1 : (g.what == w) = false:=by simp; omega
     have e2 : (f.what == w) = false:=by simp; omega
     rw [if_neg h2,List.find?_cons (a:=g),e1]
     split <;> simp [e1,e2]
   ·rw [if_neg h3]
    by_cases h2 : w = f.what
    ·subst h2
     have : (g :: r).find? (fun g=>g.what == f.what) = none:=by
      rw [List.find?_eq_none]
      intro x hx
      rcases List.mem_cons.1 hx with rfl | hx
      ·simpa using h3
      ·have:=hs'.1 x hx
       simp; omega
     rw [if_pos rfl,this]
     simp [mx]
    ·have e2 : (f.what == w) = false:=by simp; omega
     rw [if_neg h2,List.find?_cons,e2]
def Q1re (es : List Entry) : Prop:=Qurt es ∧ ∀ e ∈ es,Qvhg e.fields ∧ e.fields ≠ []
theorem Qrkx (n : Str) (f : Fld) : ∀ (es : List Entry) (x : Entry),x ∈ putS es n f → x.name = n ∨ x ∈ es
 | [],x,h=>by simp [putS] at h; subst h; exact .inl rfl
 | e :: r,x,h=>by
  unfold putS at h
  split at h
  ·rename_i he
   rcases List.mem_cons.1 h with rfl | h
   ·exact .inl he
   ·exact .inr (List.mem_cons_of_mem _ h)
  ·split at h
   ·rcases List.mem_cons.1 h with rfl | h
    ·exact .inr (List.mem_cons_self ..)
    ·exact (Qrkx n f r x h).imp id (List.mem_cons_of_mem _)
   ·rcases List.mem_cons.1 h with rfl | h
    ·exact .inl rfl
    ·exact .inr h
theorem Qjuq (f : Fld) (l : List Fld) : Qul0 l f ≠ []:=by
 cases l with
 | nil=>simp [Qul0]
 | cons g r=>unfold Qul0; split <;> (try split) <;> (try split) <;> simp
theorem Qujd (n : Str) (f : Fld) : ∀ {es : List Entry},Q1re es → Q1re (putS es n f)
 | [],_=>⟨by simp [putS,Qurt],fun e he=>by simp [putS] at he; subst he; simp [Qvhg]⟩
 | e :: r,h=>by
  obtain ⟨h1,h2⟩:=h
  have h1':=h1
  unfold Qurt at h1'
  rw [List.pairwise_cons] at h1'
  have ih:=Qujd n f (es:=r) ⟨h1'.2,fun x hx=>h2 x (List.mem_cons_of_mem _ hx)⟩
  have he:=h2 e (List.mem_cons_self ..)
  unfold putS
  by_cases hn : e.name = n
  ·rw [if_pos hn]
   refine ⟨List.pairwise_cons.2 ⟨h1'.1,h1'.2⟩,fun x hx=>?_⟩
   rcases List.mem_cons.1 hx with rfl | hx
   ·exact ⟨Q0fd f he.1,Qjuq _ _⟩
   ·exact h2 x (List.mem_cons_of_mem _ hx)
  ·rw [if_neg hn]
   by_cases hl : Q7zj e.name n = true
   ·rw [if_pos hl]
    refine ⟨List.pairwise_cons.2 ⟨fun x hx=>?_,ih.1⟩,fun x hx=>?_⟩
    ·rcases Qrkx _ _ _ _ hx with hx | hx
     ·rw [hx]; exact hl
     ·exact h1'.1 x hx
    ·rcases List.mem_cons.1 hx with rfl | hx
     ·exact he
     ·exact ih.2 x hx
   ·rw [if_neg hl]
    have hlt : Q7zj n e.name = true:=by
     cases h3 : Q7zj n e.name with
     | true=>rfl
     | false=>exact absurd (Qj9t _ _ (by simpa using hl) h3) hn
    refine ⟨List.pairwise_cons.2 ⟨fun x hx=>?_,h1⟩,fun x hx=>?_⟩
    ·rcases List.mem_cons.1 hx with rfl | hx
     ·exact hlt
     ·exact lt_trans hlt (h1'.1 x hx)
    ·rcases List.mem_cons.1 hx with rfl | hx
     ·simp [Qvhg]
     ·exact h2 x hx
theorem Q9h5 (e : Entry) (r : List Entry) (n : Str) (w : Int) : lk (e :: r) n w = if e.name = n then e.fields.find? (fun f=>f.what == w) else lk r n w:=by
 unfold lk
 rw [List.find?_cons]
 by_cases h : e.name = n
 ·have : (e.name == n) = true:=by simpa using h
  rw [this,if_pos h]; rfl
 ·have : (e.name == n) = false:=by simpa using h
  rw [this,if_neg h]
theorem Q8ex {es : List Entry} {n : Str} (h : ∀ e ∈ es,e.name ≠ n) (w : Int) : lk es n w = none:=by
 unfold lk
 rw [List.find?_eq_none.2 (fun e he=>by simpa using h e he)]; rfl
theorem Qqy6 (n : Str) (f : Fld) (m : Str) (w : Int) : ∀ {es : List Entry},Q1re es → lk (putS es n f) m w = if m = n ∧ w = f.what then some (mx (lk es n w) f) else lk es m w
 | [],_=>by
  rw [putS,Q9h5]
  by_cases h : n = m
  ·subst h
   by_cases hw : w = f.what
   ·subst hw; simp [lk,mx]
   ·have : (f.what == w) = false:=by simp; omega
    simp [lk,hw,this]
  ·rw [if_neg h,if_neg (fun h2=>h h2.1.symm)]
 | e :: r,hb=>by
  obtain ⟨h1,h2⟩:=hb
  have h1':=h1
  unfold Qurt at h1'
  rw [List.pairwise_cons] at h1'
  have ih:=Qqy6 n f m w (es:=r) ⟨h1'.2,fun x hx=>h2 x (List.mem_cons_of_mem _ hx)⟩
  have he:=h2 e (List.mem_cons_self ..)
  unfold putS
  by_cases hn : e.name = n
  ·rw [if_pos hn,Q9h5,Q9h5,Q9h5]
   simp only
   rw [Qqae f w he.1]
   by_cases hm : e.name = m
   ·rw [if_pos hm,if_pos hm,if_pos hn]
    have : m = n:=hm.symm.trans hn
    by_cases hw : w = f.what <;> simp [hw,this]
   ·rw [if_neg hm,if_neg hm,if_neg (fun h=>hm (hn.trans h.1.symm))]
  ·rw [if_neg hn]
   by_cases hl : Q7zj e.name n = true
   ·rw [if_pos hl,Q9h5,Q9h5,Q9h5,ih,if_neg hn]
    by_cases hm : e.name = m
    ·rw [if_pos hm,if_pos hm,if_neg (fun h=>hn (hm.trans h.1))]
    ·rw [if_neg hm,if_neg hm]
   ·rw [if_neg hl,Q9h5]
    simp only
    have hlt : Q7zj n e.name = true:=by
     cases h3 : Q7zj n e.name with
     | true=>rfl
     | false=>exact absurd (Qj9t _ _ (by simpa using hl) h3) hn
    have no : lk (e :: r) n w = none:=Q8ex (fun x hx=>by
     rcases List.mem_cons.1 hx with rfl | hx
     ·exact hn
     ·intro e2
      have:=lt_trans hlt (h1'.1 x hx)
      rw [e2,Qqw5] at this; cases this) w
    by_cases hm : n = m
    ·subst hm
     rw [if_pos rfl,no]
     by_cases hw : w = f.what
     ·subst hw; simp [mx]
     ·have : (f.what == w) = false:=by simp; omega
      simp [hw,this]
    ·rw [if_neg hm,if_neg (fun h=>hm h.1.symm)]
theorem Qw35 {l : List Fld} (h : Qvhg l) (f : Fld) : f ∈ l ↔ l.find? (fun g=>g.what == f.what) = some f:=by
 constructor
 ·intro hf
  induction l with
  | nil=>cases hf
  | cons g r ih =>
   unfold Qvhg at h
   rw [List.pairwise_cons] at h
   rw [List.find?_cons]
   rcases List.mem_cons.1 hf with rfl | hf
   ·simp
   ·have:=h.1 f hf
    have e : (g.what == f.what) = false:=by simp; omega
    rw [e]; exact ih h.2 hf
 ·exact fun hf=>List.mem_of_find?_eq_some hf
theorem Q8nk {l m : List Fld} (hl : Qvhg l) (hm : Qvhg m) (h : ∀ w,l.find? (fun g=>g.what == w) = m.find? (fun g=>g.what == w)) : l = m:=by
 have nd : ∀ {l : List Fld},Qvhg l → l.Nodup:=fun h=>h.imp (fun {a b} h e=>by subst e; omega)
 refine Qush Fld.what hm ((List.perm_ext_iff_of_nodup (nd hl) (nd hm)).2 fun f=>by rw [Qw35 hl,Qw35 hm,h]) (hl.imp fun {a b} h=>by omega)
theorem Qe8a {es : List Entry} (h : Qurt es) {e : Entry} (he : e ∈ es) : es.find? (fun x=>x.name == e.name) = some e:=by
 induction es with
 | nil=>cases he
 | cons g r ih =>
  unfold Qurt at h
  rw [List.pairwise_cons] at h
  rw [List.find?_cons]
  rcases List.mem_cons.1 he with rfl | he
  ·simp
  ·have:=h.1 e he
   have e' : (g.name == e.name) = false:=by simp; intro e2; rw [e2,Qqw5] at this; cases this
   rw [e']; exact ih h.2 he
theorem Qn50 {a b : List Entry} (ha : Q1re a) (hb : Q1re b) (h : ∀ n w,lk a n w = lk b n w) : a = b:=by
 have sub : ∀ {a b : List Entry},Q1re a → Q1re b → (∀ n w,lk a n w = lk b n w) → ∀ e ∈ a,e ∈ b:=fun {a b} ha hb h e he=>by
  obtain ⟨hs,hne⟩:=ha.2 e he
  have la : ∀ w,lk a e.name w = e.fields.find? (fun f=>f.what == w):=fun w=>by rw [lk,Qe8a ha.1 he]; rfl
  obtain ⟨f,r,hf⟩:=List.exists_cons_of_ne_nil hne
  have h1 : lk b e.name f.what ≠ none:=by rw [← h,la,hf]; simp
  have : ∃ e',b.find? (fun x=>x.name == e.name) = some e':=by
   unfold lk at h1
   cases hx : b.find? (fun x=>x.name == e.name) with
   | none=>rw [hx] at h1; exact absurd rfl h1
   | some x=>exact ⟨x,rfl⟩
  obtain ⟨e',he'⟩:=this
  have hm:=List.mem_of_find?_eq_some he'
  have hn : e'.name = e.name:=by simpa using List.find?_some he'
  have hfe : e.fields = e'.fields:=Q8nk hs (hb.2 e' hm).1 (fun w=>by rw [← la,h,lk,he']; rfl)
  have : e = e':=by
   obtain ⟨n1,f1⟩:=e
   obtain ⟨n2,f2⟩:=e'
   simp only at hn hfe
   rw [hn,hfe]
  rw [this]; exact hm
 have nd : ∀ {l : List Entry},Qurt l → l.Nodup:=fun h=>h.imp (fun {a b} h e=>by subst e; rw [Qqw5] at h; cases h)
 refine Qhss Entry.name hb.1 ((List.perm_ext_iff_of_nodup (nd ha.1) (nd hb.1)).2 fun e=>⟨sub ha hb h e,sub hb ha (fun n w=>(h n w).symm) e⟩) (ha.1.imp fun {a b} h h2=>?_)
 rw [Q9yw,Qi83 h] at h2; cases h2
theorem Qwk3 {ks : List Kind} {ps : List Point} {es : List Entry} (h : Qn0o ks ps es = true) : Q1re es:=by
 simp only [Qn0o,Bool.and_eq_true] at h
 refine ⟨Q90k h.2.2,fun e he=>?_⟩
 have ho:=Qmra es _ h.2.2 e he
 simp only [Q7i7,Bool.and_eq_true,Bool.not_eq_true',decide_eq_false_iff_not] at ho
 exact ⟨Qh2w ho.2.2,fun e2=>ho.2.1 (by rw [e2]; rfl)⟩
theorem Qyfa (f : Fld) : Fld.later f f = false:=by simp [Fld.later,Qqw5]
theorem Qv46 {f g : Fld} (h : Fld.later f g = true) : Fld.later g f = false:=by
 unfold Fld.later at *
 by_cases e : f.number = g.number
 ·rw [if_pos e] at h
  rw [if_pos e.symm]; exact Qi83 h
 ·rw [if_neg e] at h
  rw [if_neg (fun h2=>e h2.symm)]
  simp only [decide_eq_true_eq] at h
  exact decide_eq_false (by omega)
theorem Qj2g {f g k : Fld} (h1 : Fld.later f g = true) (h2 : Fld.later g k = true) : Fld.later f k = true:=by
 unfold Fld.later at *
 by_cases e1 : f.number = g.number <;> by_cases e2 : g.number = k.number
 ·rw [if_pos e1] at h1; rw [if_pos e2] at h2; rw [if_pos (e1.trans e2)]; exact lt_trans h2 h1
 ·rw [if_pos e1] at h1; rw [if_neg e2] at h2
  simp only [decide_eq_true_eq] at h2
  rw [if_neg (by omega)]; exact decide_eq_true (by omega)
 ·rw [if_neg e1] at h1; rw [if_pos e2] at h2
  simp only [decide_eq_true_eq] at h1
  rw [if_neg (by omega)]; exact decide_eq_true (by omega)
 ·rw [if_neg e1] at h1; rw [if_neg e2] at h2
  simp only [decide_eq_true_eq] at h1 h2
  rw [if_neg (by omega)]; exact decide_eq_true (by omega)
theorem Qhof {f g : Fld} (h1 : Fld.later f g = false) (h2 : Fld.later g f = false) (hw : f.what = g.what) : f = g:=by
 have e : f.number = g.number:=by
  by_cases e : f.number = g.number
  ·exact e
  ·unfold Fld.later at h1 h2
   rw [if_neg e] at h1
   rw [if_neg (fun h=>e h.symm)] at h2
   simp only [decide_eq_false_iff_not] at h1 h2
   omega
 have ev : f.value = g.value:=by
  unfold Fld.later at h1 h2
  rw [if_pos e] at h1
  rw [if_pos e.symm] at h2
  exact Qj9t _ _ h2 h1
 obtain ⟨a,b,c⟩:=f
 obtain ⟨a',b',c'⟩:=g
 simp only at hw e ev
 rw [hw,e,ev]
theorem Qba1 {g f : Fld} (h : Fld.later f g = true) : mx (some g) f = f:=if_pos h
theorem Qqr0 {g f : Fld} (h : ¬ Fld.later f g = true) : mx (some g) f = g:=if_neg h
theorem Qg2a (o : Option Fld) (f : Fld) : mx (some (mx o f)) f = mx o f:=by
 have self : mx (some f) f = f:=Qqr0 (by rw [Qyfa]; simp)
 cases o with
 | none=>exact self
 | some g =>
  by_cases h : Fld.later f g = true
  ·rw [Qba1 h,self]
  ·rw [Qqr0 h,Qqr0 h]
theorem Qexb {o : Option Fld} {f g : Fld} (hw : f.what = g.what) (ho : ∀ x,o = some x → x.what = f.what) : mx (some (mx o f)) g = mx (some (mx o g)) f:=by
 have two : ∀ {f g : Fld},f.what = g.what → mx (some f) g = mx (some g) f:=fun {f g} hw=>by
  by_cases h : Fld.later g f = true
  ·rw [Qba1 h,Qqr0 (by rw [Qv46 h]; simp)]
  ·by_cases h2 : Fld.later f g = true
   ·rw [Qqr0 h,Qba1 h2]
   ·rw [Qqr0 h,Qqr0 h2]
    exact Qhof (by simpa using h2) (by simpa using h) hw
 cases o with
 | none=>exact two hw
 | some x =>
  by_cases h1 : Fld.later f x = true <;> by_cases h2 : Fld.later g x = true
  ·rw [Qba1 h1,Qba1 h2]; exact two hw
  ·rw [Qba1 h1,Qqr0 h2,Qba1 h1]
   exact Qqr0 (fun h3=>h2 (Qj2g h3 h1))
  ·rw [Qqr0 h1,Qba1 h2]
   exact (Qqr0 (fun h3=>h1 (Qj2g h3 h2))).symm
  ·rw [Qqr0 h1,Qqr0 h2,Qqr0 h1]
theorem Qpsk {es : List Entry} {n : Str} {w : Int} {f : Fld} (h : lk es n w = some f) : f.what = w:=by
 unfold lk at h
 cases hx : es.find? (fun e=>e.name == n) with
 | none=>rw [hx] at h; cases h
 | some e =>
  rw [hx] at h
  simpa using List.find?_some (show e.fields.find? (fun f=>f.what == w) = some f from h)
theorem Q1jd {es : List Entry} (hb : Q1re es) (n m : Str) (f g : Fld) : putS (putS es n f) m g = putS (putS es m g) n f:=by
 refine Qn50 (Qujd _ _ (Qujd _ _ hb)) (Qujd _ _ (Qujd _ _ hb)) fun k w=>?_
 rw [Qqy6 _ _ _ _ (Qujd _ _ hb),Qqy6 _ _ _ _ (Qujd _ _ hb),Qqy6 _ _ _ _ hb,Qqy6 _ _ _ _ hb,Qqy6 _ _ _ _ hb,Qqy6 _ _ _ _ hb]
 by_cases h1 : k = m ∧ w = g.what <;> by_cases h2 : k = n ∧ w = f.what
 ·obtain ⟨rfl,rfl⟩:=h1
  obtain ⟨rfl,hw⟩:=h2
  simp only [hw,and_self,if_true]
  rw [Qexb (by rw [hw]) (fun x hx=>by rw [Qpsk hx]; try exact hw)]
 ·obtain ⟨rfl,rfl⟩:=h1
  simp [h2]
 ·obtain ⟨rfl,rfl⟩:=h2
  simp [h1]
 ·simp [h1,h2]
theorem Qsi3 {es : List Entry} (hb : Q1re es) (n : Str) (f : Fld) : putS (putS es n f) n f = putS es n f:=by
 refine Qn50 (Qujd _ _ (Qujd _ _ hb)) (Qujd _ _ hb) fun k w=>?_
 rw [Qqy6 _ _ _ _ (Qujd _ _ hb),Qqy6 _ _ _ _ hb,Qqy6 _ _ _ _ hb]
 by_cases h : k = n ∧ w = f.what
 ·obtain ⟨rfl,rfl⟩:=h
  simp only [and_self,if_true,Qg2a]
 ·simp [h]
end Lx
namespace Lx
open Go Go.Sort Go.Proofs
section
variable {Ty : Type} {El : Ty → Type} {C : Cod Ty El} {P : Program}
def shal : AV Ty El → Value → Prop
 | .int k n,u=>u = .int k n
 | .bool b,u=>u = .bool b
 | .str l,u=>∃ s : ByteArray,u = .string s ∧ s.data.toList = l
 | .sl ..,_=>True
 | _,_=>False
structure SEl (C : Cod Ty El) (T : Ty) (p : El T → Bool) where
 i : Nat
 x : El T
 hp : p x = true
 vs : List Value
 len : vs.length = C.sz T
 one : ∀ v ∈ vs,v.oneCell' = true
 sh : ∀ (j : Nat) c u,(C.row T x)[j]? = some c → vs[j]? = some u → shal c u
def mkV : AV Ty El → Value
 | .int k n=>.int k n
 | .bool b=>.bool b
 | .str l=>.string ⟨⟨l⟩⟩
 | _=>.slice none 0 0
def SEl.dflt (hC : CodOK P C) (T : Ty) {p : El T → Bool} (h : p (C.dflt T) = true) : SEl C T p where
 i:=0
 x:=C.dflt T
 hp:=h
 vs:=(C.row T (C.dflt T)).map mkV
 len:=by simp [hC.len]
 one:=fun v hv=>by
  obtain ⟨c,_,rfl⟩:=List.mem_map.1 hv
  cases c <;> rfl
 sh:=fun j c u hc hu=>by
  rw [List.getElem?_map,hc] at hu
  simp only [Option.map_some,Option.some.injEq] at hu
  subst hu
  have:=hC.cell T _ c (List.mem_of_getElem? hc)
  cases c <;> first | rfl | trivial | exact ⟨_,rfl,rfl⟩ | (simp [Qvgi] at this)

theorem RowI.resort (hC : CodOK P C) {w w' : World} {K K' : Nat → Nat → Value → AV Ty El → (Nat → Prop) → Prop} {B : Nat → Prop} {v : Value} {S : Ty} {xs : List (El S)} {p : El S → Bool} [Inhabited (SEl C S p)] {e : TypeId} {cells : List Value} {Fs : Nat → Nat → Nat → Prop}
  (h : RowI C w K B v S xs e cells Fs) {g cap : Nat} {cur : Array Value} (hv : v = .slice (some ⟨g,0,none⟩) xs.length cap) (hcap : xs.length ≤ cap) (hml : cap ≤ maxLen) (hsz : cur.size = cap * C.sz S)
  (D D' : Array (SEl C S p)) (hD : D.size = xs.length) (hDi : ∀ i,i < xs.length → D[i]!.i = i ∧ D[i]!.x = xs.getD i (C.dflt S) ∧ D[i]!.vs = (cells.drop (i * C.sz S)).take (C.sz S)) (hp : D'.toList.Perm D.toList)
  (hg' : w'.heap[g]? = some (.cells (putCells id 0 (Go.Sort.flatK SEl.vs (C.sz S) D') cur) e (0,0)))
  (hK : ∀ i i' j u c F,Qvgi c = true → (∀ b,F b → B b ∧ b ≠ g) → K i j u c F → K' i' j u c F) : RowD C w' K' B v S (D'.toList.map SEl.x):=by
 have pos:=hC.pos S
 have hs' : D'.size = xs.length:=by rw [← hD]; simpa using hp.length_eq
 have hcl : cells.length = xs.length * C.sz S:=h.own.1
 have el : ∀ (A : Array (SEl C S p)) (i : Nat) (hi : i < A.size),A[i]! = A[i]:=fun A i hi=>getElem!_pos A i hi

 have mem : ∀ i,i < xs.length → D'[i]!.i < xs.length ∧ D'[i]! = D[D'[i]!.i]!:=fun i hi=>by
  have h1 : D'[i]! ∈ D'.toList:=by rw [el D' i (by omega)]; simp
  obtain ⟨k,hk,hk2⟩:=List.mem_iff_getElem.1 (hp.mem_iff.1 h1)
  have hk' : k < xs.length:=by rw [← hD]; simpa using hk
  have e1 : D[k]! = D'[i]!:=by rw [el D k (by omega)]; simpa using hk2
  have e2:=(hDi k hk').1
  rw [e1] at e2
  rw [e2]; exact ⟨hk',e1.symm⟩
 have lmap : D.toList.map SEl.i = List.range xs.length:=by
  apply List.ext_getElem
  ·simp [hD]
  ·intro i h1 h2
   simp only [List.length_range] at h2
   have:=(hDi i h2).1
   rw [el D i (by omega)] at this
   simpa using this
 have nd : (D'.toList.map SEl.i).Nodup:=(hp.map SEl.i).nodup_iff.2 (by rw [lmap]; exact List.nodup_range)
 have gi : ∀ i,i < xs.length → (D'.toList.map SEl.i)[i]? = some D'[i]!.i:=fun i hi=>by
  rw [List.getElem?_map,el D' i (by omega)]
  simp [hs',hi]
 have inj : ∀ i i',i < xs.length → i' < xs.length → D'[i]!.i = D'[i']!.i → i = i':=fun i i' hi hi' he=>by
  refine (List.getElem?_inj (by simp [hs']; exact hi) nd).1 ?_
  rw [gi i hi,gi i' hi',he]
 have surj : ∀ k,k < xs.length → ∃ i,i < xs.length ∧ D'[i]!.i = k:=fun k hk=>by
  have : k ∈ D'.toList.map SEl.i:=(hp.map SEl.i).mem_iff.2 (by rw [lmap]; simpa using hk)
  obtain ⟨i,hi,hi2⟩:=List.mem_iff_getElem.1 this
  have hi' : i < xs.length:=by simpa [hs'] using hi
  refine ⟨i,hi', ?_⟩
  have:=gi i hi'
  rw [List.getElem?_eq_getElem hi] at this
  simp only [Option.some.injEq] at this
  rw [← this]; exact hi2
 have yl : (D'.toList.map SEl.x).length = xs.length:=by simp [hs']
 have yg : ∀ i,i < xs.length → (D'.toList.map SEl.x).getD i (C.dflt S) = xs.getD D'[i]!.i (C.dflt S):=fun i hi=>by
  obtain ⟨h1,h2⟩:=mem i hi
  rw [← (hDi _ h1).2.1,← h2,el D' i (by omega)]
  simp [hs',hi]
 have fs : (Go.Sort.flatK SEl.vs (C.sz S) D').size = xs.length * C.sz S:=by rw [Go.Sort.size_flatK,hs']
 have lt : ∀ i j,i < xs.length → j < C.sz S → i * C.sz S + j < xs.length * C.sz S:=fun i j hi hj=>by
  have : (i + 1) * C.sz S ≤ xs.length * C.sz S:=Nat.mul_le_mul_right _ hi
  rw [Nat.succ_mul] at this; omega
 have fg : ∀ i j,i < xs.length → j < C.sz S → (Go.Sort.flatK SEl.vs (C.sz S) D')[i * C.sz S + j]! = D'[i]!.vs[j]!:=fun i j hi hj=>by
  rw [Go.Sort.get_flatK _ _ _ _ (by rw [hs']; exact lt i j hi hj)]
  have e1 : (i * C.sz S + j) / C.sz S = i:=(Go.Sort.blk_iff _ _ _ pos).1 ⟨by omega,by omega⟩
  have e2 : (i * C.sz S + j) % C.sz S = j:=by
   rw [Nat.add_comm,Nat.add_mul_mod_self_right]; exact Nat.mod_eq_of_lt hj
  rw [e1,e2]
 have vg : ∀ i j,i < xs.length → j < C.sz S → cells[D'[i]!.i * C.sz S + j]? = some (D'[i]!.vs[j]!):=fun i j hi hj=>by
  obtain ⟨h1,h2⟩:=mem i hi
  have h3:=(hDi _ h1).2.2
  rw [← h2] at h3
  have hlt:=lt _ j h1 hj
  rw [h3,List.getElem!_eq_getElem?_getD,List.getElem?_take_of_lt hj,List.getElem?_drop,List.getElem?_eq_getElem (by omega)]
  rfl
 refine ⟨e,(Go.Sort.flatK SEl.vs (C.sz S) D').toList,fun i j=>Fs D'[i]!.i j,h.ty,⟨?_,.inr ⟨g,cap,_, ?_,Nat.zero_le _,hg', ?_,hml, ?_, ?_⟩⟩,fun u hu=>?_,fun b=>?_,fun i j b hi hj=>?_,fun i j i' j' b hi hj hi' hj' h1 h2=>?_,fun i j c hi hc=>?_⟩
 ·rw [yl]; simpa using fs
 ·rw [yl]; exact hv
 ·rw [yl]; exact hcap
 ·simp only [putCells,Array.size_mapIdx]; exact hsz
 ·rw [yl]
  have hle : xs.length * C.sz S ≤ cur.size:=by rw [hsz]; exact Nat.mul_le_mul_right _ hcap
  apply List.ext_getElem
  ·simp only [putCells,List.length_take,Array.length_toList,Array.size_mapIdx,fs]; omega
  ·intro t h1 h2
   simp only [Array.length_toList,fs] at h2
   simp only [putCells,List.getElem_take,Array.getElem_toList,Array.getElem_mapIdx,Nat.zero_le,Nat.zero_add,fs,h2,and_self,if_true,Nat.sub_zero,id]
   exact getElem!_pos _ _ (by rw [fs]; exact h2)
 ·obtain ⟨t,ht,rfl⟩:=List.mem_iff_getElem.1 hu
  simp only [Array.length_toList,fs] at ht
  have hq : t / C.sz S < xs.length:=Nat.div_lt_of_lt_mul (by rw [Nat.mul_comm]; exact ht)
  have e1 : (Go.Sort.flatK SEl.vs (C.sz S) D')[t]! = D'[t / C.sz S]!.vs[t % C.sz S]!:=Go.Sort.get_flatK _ _ _ _ (by rw [hs']; exact ht)
  rw [getElem!_pos _ _ (by rw [fs]; exact ht)] at e1
  rw [Array.getElem_toList,e1]
  refine D'[t / C.sz S]!.one _ ?_
  have hm : t % C.sz S < D'[t / C.sz S]!.vs.length:=by rw [D'[t / C.sz S]!.len]; exact Nat.mod_lt _ pos
  rw [getElem!_pos D'[t / C.sz S]!.vs (t % C.sz S) hm]; exact List.getElem_mem _
 ·rw [h.blk b,yl]
  constructor
  ·rintro (hb | ⟨i,j,hi,hj,hb⟩)
   ·exact .inl hb
   ·obtain ⟨i',h1,h2⟩:=surj i hi
    exact .inr ⟨i',j,h1,hj,by rw [h2]; exact hb⟩
  ·rintro (hb | ⟨i,j,hi,hj,hb⟩)
   ·exact .inl hb
   ·exact .inr ⟨_,j,(mem i hi).1,hj,hb⟩
 ·rw [yl] at hi
  exact h.sep0 _ j b (mem i hi).1 hj
 ·rw [yl] at hi hi'
  have:=h.sep _ j _ j' b (mem i hi).1 hj (mem i' hi').1 hj' h1 h2
  exact ⟨inj i i' hi hi' this.1,this.2⟩
 ·rw [yl] at hi
  rw [yg i hi] at hc
  have hj:=RowI.sz hC hc
  obtain ⟨u,hu,hk⟩:=h.cell _ j c (mem i hi).1 hc
  have hu2:=vg i j hi hj
  rw [hu] at hu2
  refine ⟨u, ?_,hK _ i j u c _ (hC.cell _ _ c (List.mem_of_getElem? hc)) (fun b hb=>⟨(h.blk b).2 (.inr ⟨_,j,(mem i hi).1,hj,hb⟩),fun e=>?_⟩) hk⟩
  ·have hl:=lt i j hi hj
   rw [hu2,← fg i j hi hj,getElem!_pos _ _ (by rw [fs]; exact hl),← Array.getElem_toList,List.getElem?_eq_getElem (by rw [Array.length_toList,fs]; exact hl)]
  ·subst e
   exact h.sep0 _ j b (mem i hi).1 hj hb (by rw [hv]; rfl)
end
end Lx
namespace Lx
open Go Go.Sort Go.Proofs
section
variable {Ty : Type} {El : Ty → Type} {C : Cod Ty El} {P : Program}
def Qja8 (P : Program) (C : Cod Ty El) (T : Ty) (p : El T → Bool) [Inhabited (SEl C T p)] (cmp : El T → El T → Int) (f g : FuncId) : Prop :=
 ∀ (blk cap : Nat) (D : Array (SEl C T p)) (w : World),HoldsK SEl.vs (C.sz T) w blk 0 D → blk < w.heap.size → D.size < 4611686018427387904 →
  Calls P f #[.slice (some ⟨blk,0,none⟩) D.size cap,.func (.func g) #[] #[]] w fun e w'=>e = .returned (.tuple #[]) ∧ ∃ d' n os,PermIn 0 D.size D d' ∧ SortedIn (ltOf fun x y : SEl C T p=>cmp x.x y.x) 0 D.size d' ∧ w' = sortWorldK SEl.vs (C.sz T) w blk 0 n d' os

theorem Qjqt (hC : CodOK P C) {T : Ty} {p : El T → Bool} [Inhabited (SEl C T p)] {cmp : El T → El T → Int} {f g : FuncId} (hs : Qja8 P C T p cmp f g) {w : World} {K : Nat → Nat → Value → AV Ty El → (Nat → Prop) → Prop} (hKs : ∀ i j u c F,K i j u c F → Qvgi c = true → shal c u) {B : Nat → Prop} {v : Value} {xs ys : List (El T)}
  (h : RowD C w K B v T xs) (hall : ∀ x ∈ xs,p x = true) (h0 : 1 ≤ xs.length) (hbig : xs.length < 4611686018427387904) (hu : ∀ zs : List (El T),zs.Perm xs → zs.Pairwise (fun a b=>¬ cmp b a < 0) → zs = ys) :
  Calls P f #[v,.func (.func g) #[] #[]] w fun en w'=>en = .returned (.tuple #[]) ∧ (w'.os = w.os ∧ w'.tape = w.tape ∧ w'.output = w.output ∧ w.heap.size ≤ w'.heap.size) ∧ (∀ b,b < w.heap.size → v.ownBlock ≠ some b → w'.heap[b]? = w.heap[b]?) ∧
   ∀ K' : Nat → Nat → Value → AV Ty El → (Nat → Prop) → Prop,(∀ i i' j u c F,Qvgi c = true → (∀ b,F b → B b ∧ v.ownBlock ≠ some b) → K i j u c F → K' i' j u c F) → RowD C w' K' B v T ys:=by
 obtain ⟨e,cells,Fs,h⟩:=h
 have pos:=hC.pos T
 rcases h.own.2 with ⟨_,hn⟩ | ⟨blk,cap,cur,hv,_,hh,hcap,hml,hsz,htk⟩
 ·omega
 have hcl : cells.length = xs.length * C.sz T:=h.own.1
 have lt : ∀ i,i < xs.length → i * C.sz T + C.sz T ≤ xs.length * C.sz T:=fun i hi=>by
  have : (i + 1) * C.sz T ≤ xs.length * C.sz T:=Nat.mul_le_mul_right _ hi
  rw [Nat.succ_mul] at this; omega
 have mk : ∀ i : Fin xs.length,∃ z : SEl C T p,z.i = i.1 ∧ z.x = xs.getD i.1 (C.dflt T) ∧ z.vs = (cells.drop (i.1 * C.sz T)).take (C.sz T):=fun ⟨i,hi⟩=>by
  have hl:=lt i hi
  refine ⟨⟨i,xs.getD i (C.dflt T),hall _ (by rw [List.getD_eq_getElem?_getD,List.getElem?_eq_getElem hi]; exact List.getElem_mem hi),(cells.drop (i * C.sz T)).take (C.sz T),by rw [List.length_take,List.length_drop,hcl]; omega,fun u hu=>h.one u (List.mem_of_mem_drop (List.mem_of_mem_take hu)),fun j c u hc hju=>?_⟩,rfl,rfl,rfl⟩
  have hj:=RowI.sz hC hc
  obtain ⟨u',hu',hk⟩:=h.cell i j c hi hc
  rw [List.getElem?_take_of_lt hj,List.getElem?_drop,hu'] at hju
  simp only [Option.some.injEq] at hju
  subst hju
  exact hKs _ _ _ _ _ hk (hC.cell _ _ c (List.mem_of_getElem? hc))
 let D : Array (SEl C T p):=Array.ofFn fun i=>(mk i).choose
 have hD : D.size = xs.length:=by simp [D]
 have hDi : ∀ i,i < xs.length → D[i]!.i = i ∧ D[i]!.x = xs.getD i (C.dflt T) ∧ D[i]!.vs = (cells.drop (i * C.sz T)).take (C.sz T):=fun i hi=>by
  rw [getElem!_pos D i (by rw [hD]; exact hi)]
  have:=(mk ⟨i,hi⟩).choose_spec
  simp only [D,Array.getElem_ofFn]
  exact this
 have hmap : D.toList.map SEl.x = xs:=by
  apply List.ext_getElem
  ·simp [hD]
  ·intro i h1 h2
   have:=(hDi i h2).2.1
   rw [getElem!_pos D i (by rw [hD]; exact h2)] at this
   simpa [h2] using this
 have hflat : Go.Sort.flatK SEl.vs (C.sz T) D = cells.toArray:=by
  refine ext_get! (by rw [Go.Sort.size_flatK,hD]; simpa using hcl.symm) fun t ht=>?_
  rw [Go.Sort.size_flatK] at ht
  rw [Go.Sort.get_flatK _ _ _ _ ht]
  rw [hD] at ht
  have hq : t / C.sz T < xs.length:=Nat.div_lt_of_lt_mul (by rw [Nat.mul_comm]; exact ht)
  have hm : t % C.sz T < C.sz T:=Nat.mod_lt _ pos
  have e1 : t / C.sz T * C.sz T + t % C.sz T = t:=by rw [Nat.mul_comm]; exact Nat.div_add_mod _ _
  rw [(hDi _ hq).2.2,List.getElem!_eq_getElem?_getD,List.getElem?_take_of_lt hm,List.getElem?_drop,e1]
  simp [hcl,ht]
 have hblk : blk < w.heap.size:=(Array.getElem?_eq_some_iff.1 hh).1
 have hH : HoldsK SEl.vs (C.sz T) w blk 0 D:=fun j hj=>by
  rw [hflat] at hj ⊢
  have hj' : j < cells.length:=by simpa using hj
  have hjc : j < cur.size:=by
   rw [hsz]
   exact Nat.lt_of_lt_of_le (by rw [← hcl]; exact hj') (Nat.mul_le_mul_right _ hcap)
  have ec : cells[j]? = cur.toList[j]?:=by rw [← htk,List.getElem?_take_of_lt (by rw [← hcl]; exact hj')]
  constructor
  ·simp only [World.cell?,Nat.zero_add,hh,id]
   rw [getElem!_pos cells.toArray j hj]
   rw [List.getElem?_eq_getElem hj'] at ec
   simp only [Array.getElem?_toList] at ec
   simpa using ec.symm
  ·simp [World.frozen?,hh]
 rw [show (v : Value) = .slice (some ⟨blk,0,none⟩) D.size cap by rw [hD]; exact hv]
 refine (hs blk cap D w hH hblk (by rw [hD]; exact hbig)).mono ?_
 rintro en w' ⟨he,D',n,os,hperm,hsort,hw⟩
 rw [hD] at hperm hsort
 have hsz' : D'.size = xs.length:=by rw [hperm.1,hD]
 have ex : ∀ A : Array (SEl C T p),A.size = xs.length → A.extract 0 xs.length = A:=fun A hA=>by rw [← hA]; simp
 have hp : D'.toList.Perm D.toList:=by
  have:=hperm.2.2
  rwa [ex D hD,ex D' hsz'] at this
 have hblks : w'.heap[blk]? = some (.cells (putCells id 0 (Go.Sort.flatK SEl.vs (C.sz T) D') cur) e (0,0)):=by
  subst hw
  unfold sortWorldK grow putRowK putRow mapBlock
  simp only
  rw [Array.getElem?_append_left (by simp [Sort.ahead]; exact hblk),Array.getElem?_modify]
  simp [Sort.ahead,hh,onCells]
 have hys : D'.toList.map SEl.x = ys:=by
  refine hu _ (by rw [← hmap]; exact hp.map SEl.x) ?_
  rw [List.pairwise_map]
  rw [List.pairwise_iff_getElem]
  intro i j hi hj hij
  have:=hsort i j (Nat.zero_le _) hij (by rw [← hsz']; simpa using hj)
  rw [getElem!_pos D' i (by simpa using hi),getElem!_pos D' j (by simpa using hj)] at this
  simpa [ltOf] using this
 refine ⟨he, ?_,fun b hb hne=>?_,fun K' hK'=>?_⟩
 ·subst hw
  refine ⟨rfl,rfl,rfl, ?_⟩
  unfold sortWorldK
  rw [size_grow]
  unfold putRowK
  rw [Go.Sort.size_putRow]
  exact Nat.le_add_right _ _
 ·have hne' : blk ≠ b:=fun e=>hne (by rw [e]; rfl)
  subst hw
  unfold sortWorldK grow putRowK putRow mapBlock
  simp only
  rw [Array.getElem?_append_left (by simp [Sort.ahead]; exact hb),Array.getElem?_modify,if_neg hne']
  rfl
 ·rw [← hys]
  have hv' : Value.slice (some ⟨blk,0,none⟩) D.size cap = v:=by rw [hD]; exact hv.symm
  rw [hv'] at hK' ⊢
  refine RowI.resort hC h hv hcap hml hsz D D' hD hDi hp hblks (fun i i' j u c F hc hF hk=>hK' i i' j u c F hc (fun b hb=>⟨(hF b hb).1,fun e=>(hF b hb).2 ?_⟩) hk)
  rw [hv] at e
  simp only [Value.ownBlock,Option.some.injEq] at e
  exact e.symm

theorem Qp5u {N : Nm} {w : World} {u : Value} {c : AV Ty El} (h : RepA C N w u c) (hc : Qvgi c = true) : shal c u:=by
 cases h <;> first | rfl | trivial | (rename_i h; exact ⟨_,rfl,h⟩) | (simp [Qvgi] at hc)

theorem Qewq.sortFunc (hC : CodOK P C) {T : Ty} {p : El T → Bool} [Inhabited (SEl C T p)] {cmp : El T → El T → Int} {f g : FuncId} (hs : Qja8 P C T p cmp f g) {xs ys : List (El T)} {d : Nat}
  (hall : ∀ x ∈ xs,p x = true) (h0 : 1 ≤ xs.length) (hbig : xs.length < 4611686018427387904) (hu : ∀ zs : List (El T),zs.Perm xs → zs.Pairwise (fun a b=>¬ cmp b a < 0) → zs = ys) :
  Qewq P C f [.own 0 [] 0,.fn (.func g) []] [.row T xs d 0 0 .no] (.tup []) [.row T ys d 0 0 .no]:=by
 intro w N vs hN hsz hrep
 have ho:=hN.obj 0
 have hh0 : hpOf ([.row T xs d 0 0 .no] : List (AObj Ty El)) 0 = .row T xs d 0 0 .no:=rfl
 have hh0' : hpOf ([.row T ys d 0 0 .no] : List (AObj Ty El)) 0 = .row T ys d 0 0 .no:=rfl
 have hhs : ∀ (zs : List (El T)) r,hpOf ([.row T zs d 0 0 .no] : List (AObj Ty El)) (r + 1) = .gone:=fun zs r=>by simp [hpOf]
 rw [hh0] at ho
 obtain ⟨hone,hdeep⟩:=ho
 have hl0 : 0 < vs.size:=by rw [hsz]; simp
 have hl1 : 1 < vs.size:=by rw [hsz]; simp
 have r0:=(hrep 0 _ _ (Array.getElem?_eq_getElem hl0) rfl).inv_own
 have r1:=hrep 1 _ _ (Array.getElem?_eq_getElem hl1) rfl
 have e0 : vs[0] = N.ν 0:=by
  have:=hN.reg 0 _ _ _ r0
  rw [hh0] at this
  exact this.2 rfl
 have e1 : vs[1] = .func (.func g) #[] #[]:=by
  generalize vs[1] = u at r1
  cases r1 with
  | fn f vs cs hl h =>
   have : vs = #[]:=Array.size_eq_zero_iff.1 (by simpa using hl)
   rw [this]
 have ev : vs = #[N.ν 0,.func (.func g) #[] #[]]:=arr2 (by rw [hsz]; rfl) (by rw [Array.getElem?_eq_getElem hl0,e0]) (by rw [Array.getElem?_eq_getElem hl1,e1])
 rw [ev]
 have hlt : ∀ b,N.F 0 b → b < w.heap.size:=fun b hb=>Deep.lt hC _ _ _ _ _ _ hdeep b hb

 have main : Calls P f #[N.ν 0,.func (.func g) #[] #[]] w fun en w'=>en = .returned (.tuple #[]) ∧ (w'.os = w.os ∧ w'.tape = w.tape ∧ w'.output = w.output ∧ w.heap.size ≤ w'.heap.size) ∧ (∀ b,b < w.heap.size → (N.ν 0).ownBlock ≠ some b → w'.heap[b]? = w.heap[b]?) ∧
   ((∀ b,N.ro b → w'.heap[b]? = w.heap[b]?) → ∀ N' : Nm,(∀ b,N.ro b → N'.ro b) → Deep C N' w' d mskNo (N.F 0) (N.ν 0) T ys):=by
  cases d with
  | zero =>
   refine (Qjqt hC hs (K:=fun _ _ u c F=>flatK C N w u c F) (fun i j u c F hk hc=>Qp5u hk.1 hc) hdeep hall h0 hbig hu).mono ?_
   rintro en w' ⟨h1,h2,h3,h4⟩
   refine ⟨h1,h2,h3,fun hro N' hN'=>h4 (fun _ _ u c F=>flatK C N' w' u c F) (fun i i' j u c F hc hF hk=>⟨hk.1.rfm hC hN' hro 1 (Qo9s hc 0),hk.2⟩)⟩
  | succ d =>
   refine (Qjqt hC hs (K:=fun i j u c F=>deepK C N w (Deep C N w d) (mskP .no) i j u c F) (fun i j u c F hk hc=>?_) hdeep hall h0 hbig hu).mono ?_
   ·cases c <;> first | trivial | exact Qp5u hk.1 hc
   rintro en w' ⟨h1,h2,h3,h4⟩
   refine ⟨h1,h2,h3,fun hro N' hN'=>h4 (fun i j u c F=>deepK C N' w' (Deep C N' w' d) mskNo i j u c F) (fun i i' j u c F hc hF hk=>?_)⟩
   cases c with
   | sl U zs =>
    rcases hk with hk | hk
    ·exact hk.1.elim
    ·refine .inr ⟨fun h=>h, ?_⟩
     exact Deep.cast hC hN' hro d _ F u U zs hk.2 (fun b hb=>h3 b (hlt b (hF b hb).1) (hF b hb).2)
   | _=>exact ⟨hk.1.rfm hC hN' hro 1 (Qo9s hc 0),hk.2⟩
 refine main.mono ?_
 rintro en w' ⟨rfl,⟨hos,htp,hout,hsize⟩,hblk,hdp⟩
 have hown : ∀ b,(N.ν 0).ownBlock = some b → N.F 0 b:=fun b hb=>by
  cases d with
  | zero=>obtain ⟨e,cells,Fs,h⟩:=hdeep; exact (h.blk b).2 (.inl hb)
  | succ d=>obtain ⟨e,cells,Fs,h⟩:=hdeep; exact (h.blk b).2 (.inl hb)
 have hro : ∀ b,N.ro b → w'.heap[b]? = w.heap[b]?:=fun b hb=>hblk b (hN.roLt b hb) (fun e=>hN.roNot 0 b (hown b e) hb)
 let N2 : Nm:={ ν:=N.ν,F:=N.F,G:=fun r p v u=>r = 0 ∧ rowG C w' T ys (N.ν 0) d 0 0 .no p v u,ro:=N.ro }
 have hd2 : Deep C N2 w' d mskNo (N.F 0) (N.ν 0) T ys:=hdp hro N2 (fun _ h=>h)
 refine ⟨.tuple #[],N2,rfl,⟨fun r=>?_,fun r p v u hg=>?_,fun r=>?_,fun r p v u hg=>?_,fun r r' b h1 h2=>hN.dist r r' b h1 h2,fun r b h1 h2=>hN.roNot r b h1 h2,fun b hb=>Nat.lt_of_lt_of_le (hN.roLt b hb) hsize⟩,.tup _ _ rfl (fun j v c hv=>by simp at hv),fun r hr hst=>rfl,fun b hb=>hb,fun b hb=>.inl hb,⟨hos,htp,hout,hsize,fun b hb hn=>hblk b hb (fun e=>hn ⟨0,hown b e⟩)⟩,fun k b hb=>.inr ⟨k,hb⟩⟩
 ·match r with
  | 0=>rw [hh0']; exact ⟨hone,hd2⟩
  | r + 1 =>
   rw [hhs]
   have:=hN.obj (r + 1)
   rw [hhs] at this
   exact this
 ·obtain ⟨rfl,hg⟩:=hg
  rw [hh0']
  rcases hg with ⟨rfl,rfl,rfl⟩ | ⟨hp,hpd,_,rfl,hh⟩
  ·exact ⟨Nat.le_refl _,fun _=>rfl⟩
  ·cases p with
   | nil=>exact absurd rfl hp
   | cons q p=>exact ⟨Nat.le_refl _,fun _ _ _=>hh⟩
 ·match r with
  | 0 =>
   rw [hh0']
   exact ⟨⟨rfl,.inl ⟨rfl,rfl,rfl⟩⟩,fun p u h1 h2 h3 h4=>⟨rfl,.inr ⟨h1,h2,rfl,rfl,h4⟩⟩⟩
  | r + 1=>rw [hhs]; trivial
 ·obtain ⟨rfl,hg⟩:=hg
  rcases hg with ⟨_,_,rfl⟩ | ⟨hp,hpd,_,_,hh⟩
  ·exact hone
  ·exact Qgbe p d _ _ _ _ _ u hd2 (fun _ h=>h) hone hpd hh
end
end Lx
namespace Lx
open Go Go.Proofs
def Qvr6 : Ent Ty El:=Qf5p
def Q2gg : Ent Ty El:=Qc1o
def sortE (l : List Entry) : List Entry:=l.mergeSort fun a b=>!Q7zj b.name a.name
def sortF (l : List Fld) : List Fld:=l.mergeSort fun a b=>!decide (b.what < a.what)
def srtEK (xs : List Entry) : Bool:=decide (1 ≤ xs.length) && (decide (xs.length ≤ 1000000) && decide ((xs.map Entry.name).Nodup))
def srtFK (xs : List Fld) : Bool:=decide (1 ≤ xs.length) && (decide (xs.length ≤ 1000000) && (decide ((xs.map Fld.what).Nodup) && xs.all fun f=>inR f.what (-1000) 1000))
def Qlpg : Ent Ty El:=⟨[.io,.ro],0,fun a h=>match a,h with
 | [.own 0 [] 0,.fn (.func g) []],[.row .entry xs 1 0 0 .no]=>some (decide (g = Qs8v) && srtEK xs,.tup [],[.row .entry (sortE xs) 1 0 0 .no])
 | _,_=>none⟩
def Qpic : Ent Ty El:=⟨[.io,.ro],0,fun a h=>match a,h with
 | [.own 0 [] 0,.fn (.func g) []],[.row .fld xs 0 0 0 .no]=>some (decide (g = Qy91) && srtFK xs,.tup [],[.row .fld (sortF xs) 0 0 0 .no])
 | _,_=>none⟩
def layB (es : List Entry) (n : Str) : Bool:=!(decide (entIx es n < 0) && decide (12 ≤ es.length))
def layF (es : List Entry) (n : Str) (f : Fld) : List Entry:=if layB es n = true then putF es n f else es
def layK (ks : List Kind) (ps : List Point) (es : List Entry) (w : Int) : Bool:=Qn0o ks ps es && (goodB ks ps es && inR w (-1000) 1000)
def Q7p0 : Ent Ty El:=⟨[.io,.ro,.ro],1,fun a h=>match a,h with
 | [.ptr 0 0,.str n,.agg [.int .i64 w,.int .i64 m,.str v]],[.box [.own 1 [] 0,.own 2 [] 0,.own 3 [] 0],.row .kind ks 0 0 0 .no,.row .point ps 0 0 0 .no,.row .entry es 1 0 0 .no] =>
  some (layK ks ps es w,.bool (layB es n),[.box [.own 1 [] 0,.own 2 [] 0,.own 4 [] 0],.row .kind ks 0 0 0 .no,.row .point ps 0 0 0 .no,.out,.row .entry (layF es n ⟨w,m,v⟩) 1 0 0 .no])
 | _,_=>none⟩
theorem Q2ne (l : List Entry) : (sortE l).Perm l ∧ (sortE l).Pairwise (fun a b=>¬ Lib.compareBytes b.name a.name < 0):=by
 refine ⟨List.mergeSort_perm _ _,(List.pairwise_mergeSort (le:=fun a b : Entry=>!Q7zj b.name a.name) (fun a b c h1 h2=>?_) (fun a b=>?_) l).imp fun {a b} h=>?_⟩
 ·simp only [Bool.not_eq_true'] at *
  exact (Qgb6 Entry.name).ntrans c b a h2 h1
 ·simp only [Bool.or_eq_true,Bool.not_eq_true']
  cases h : Q7zj b.name a.name with
  | false=>exact .inl rfl
  | true=>exact .inr (Qi83 h)
 ·rw [Q9yw]; simpa using h
theorem Qcsw (l : List Fld) : (sortF l).Perm l ∧ (sortF l).Pairwise (fun a b=>¬ b.what < a.what):=by
 refine ⟨List.mergeSort_perm _ _,(List.pairwise_mergeSort (le:=fun a b : Fld=>!decide (b.what < a.what)) (fun a b c h1 h2=>?_) (fun a b=>?_) l).imp fun {a b} h=>?_⟩
 ·simp only [Bool.not_eq_true',decide_eq_false_iff_not] at *; omega
 ·simp only [Bool.or_eq_true,Bool.not_eq_true',decide_eq_false_iff_not]; omega
 ·simpa using h
end Lx
namespace Lx
open Go Go.Proofs Go.Sort Go.RowKit
theorem Qzus (a b : ByteArray) (w : World) : Calls Tryz.prog 179 #[.string a,.string b] w fun e w'=>e = .returned (.int .i64 (Lib.compareBytes a.data.toList b.data.toList)) ∧ w' = w:=Any.strings_Compare Tryz.lays106 a b w
theorem grow2 (w : World) (o o' : Obj) : (w.alloc o).alloc o' = grow (w.drewN 0) #[o,o']:=by
 rw [alloc_eq_grow,alloc_eq_grow,grow_grow]; rfl
set_option maxRecDepth 100000 in
theorem Qgyc (a b : ByteArray) (u v : Value) (w : World) (hu : u.oneCell' = true) (hv : v.oneCell' = true) :
  Calls Tryz.prog 178 #[.agg #[.string a,u],.agg #[.string b,v]] w fun e w'=>e = .returned (.int .i64 (Lib.compareBytes a.data.toList b.data.toList)) ∧ ∃ q os',w' = grow (w.drewN q) os':=by
 go_enter Tryz.func178,Tryz.ntmps178
 go_wp2_with (go_at_call 179; refine (Qzus _ _ _).mono ?_; rintro e w' ⟨rfl,rfl⟩)
 go_ret
 exact ⟨rfl,0,_,grow2 _ _ _⟩
set_option maxRecDepth 100000 in
theorem Qjsb (a b c d : Int) (s t : ByteArray) (w : World) (h1 : -1000 ≤ a) (h2 : a ≤ 1000) (h3 : -1000 ≤ c) (h4 : c ≤ 1000) :
  Calls Tryz.prog 181 #[.agg #[.int .i64 a,.int .i64 b,.string s],.agg #[.int .i64 c,.int .i64 d,.string t]] w fun e w'=>e = .returned (.int .i64 (a - c)) ∧ ∃ q os',w' = grow (w.drewN q) os':=by
 go_enter Tryz.func181,Tryz.ntmps181
 go_wp2
 go_ret
 exact ⟨by first | rfl | (rw [Qbrg (by omega) (by omega)]),0,_,grow2 _ _ _⟩
instance : Inhabited (SEl CP .entry (fun _=>true)):=⟨SEl.dflt CP_ok .entry rfl⟩
def okW (f : Fld) : Bool:=inR f.what (-1000) 1000
instance : Inhabited (SEl CP .fld okW):=⟨SEl.dflt CP_ok .fld rfl⟩
theorem list2 {α : Type} {l : List α} (h : l.length = 2) : ∃ a b,l = [a,b]:=by
 match l,h with
 | [a,b],_=>exact ⟨a,b,rfl⟩
theorem list3 {α : Type} {l : List α} (h : l.length = 3) : ∃ a b c,l = [a,b,c]:=by
 match l,h with
 | [a,b,c],_=>exact ⟨a,b,c,rfl⟩
theorem Q488 {p : Entry → Bool} (x : SEl CP .entry p) : ∃ s u,x.vs = [.string s,u] ∧ s.data.toList = x.x.name ∧ u.oneCell' = true:=by
 obtain ⟨a,b,e⟩:=list2 (show x.vs.length = 2 from x.len)
 obtain ⟨s,rfl,hs⟩:=x.sh 0 (.str x.x.name) a rfl (by rw [e]; rfl)
 exact ⟨s,b,e,hs,x.one b (by rw [e]; simp)⟩
theorem Qcbp {p : Fld → Bool} (x : SEl CP .fld p) : ∃ n s,x.vs = [.int .i64 x.x.what,.int .i64 n,.string s]:=by
 obtain ⟨a,b,c,e⟩:=list3 (show x.vs.length = 3 from x.len)
 have h0 : a = .int .i64 x.x.what:=x.sh 0 (.int .i64 x.x.what) a rfl (by rw [e]; rfl)
 have h1 : b = .int .i64 x.x.number:=x.sh 1 (.int .i64 x.x.number) b rfl (by rw [e]; rfl)
 obtain ⟨s,h2,_⟩:=x.sh 2 (.str x.x.value) c rfl (by rw [e]; rfl)
 exact ⟨_,s,by rw [e,h0,h1,h2]⟩
theorem Qnjx : Qja8 Tryz.prog CP .entry (fun _=>true) (fun a b : Entry=>Lib.compareBytes a.name b.name) Qq3g Qs8v:=by
 intro blk cap D w hH hblk hsz
 have hlt : (ltOf fun x y : SEl CP .entry (fun _=>true)=>Lib.compareBytes x.x.name y.x.name) = fun x y=>Q7zj x.x.name y.x.name:=by
  funext x y
  unfold ltOf
  have:=Q9yw x.x.name y.x.name
  cases h : Q7zj x.x.name y.x.name with
  | true=>exact decide_eq_true (this.2 h)
  | false=>exact decide_eq_false (fun h2=>by rw [this.1 h2] at h; cases h)
 refine AnyQ.slices_SortFunc Tryz.laysE 2 Tryz.isAgg92 Tryz.sizeOf92 SEl.vs (fun x : SEl CP .entry (fun _=>true)=>x.len) (fun x=>x.one) (fun x y=>Lib.compareBytes x.x.name y.x.name) (by rw [hlt]; exact Qgb6 fun x : SEl CP .entry (fun _=>true)=>x.x.name) 178 #[] blk 0 cap D w (enters_of Tryz.func178 (by kernel_rfl) rfl) ?_ hH hblk hsz
 intro m os dk hs x y
 obtain ⟨s,u,e1,e2,e3⟩:=Q488 x
 obtain ⟨s',u',f1,f2,f3⟩:=Q488 y
 have hw:=Qgyc s s' u u' (sortWorldK SEl.vs 2 w blk 0 m dk os) e3 f3
 rw [e2,f2] at hw
 rw [e1,f1]
 exact hw
theorem Qmd2 : Qja8 Tryz.prog CP .fld okW (fun a b : Fld=>a.what - b.what) Qbq3 Qy91:=by
 intro blk cap D w hH hblk hsz
 have hlt : (ltOf fun x y : SEl CP .fld okW=>x.x.what - y.x.what) = fun x y=>decide (x.x.what < y.x.what):=by
  funext x y
  unfold ltOf
  rw [decide_eq_decide]; show x.x.what - y.x.what < 0 ↔ _; omega
 refine AnyQ.slices_SortFunc Tryz.laysF 3 Tryz.isAgg94 Tryz.sizeOf94 SEl.vs (fun x : SEl CP .fld okW=>x.len) (fun x=>x.one) (fun x y=>x.x.what - y.x.what) (by rw [hlt]; exact Qy04 fun x : SEl CP .fld okW=>x.x.what) 181 #[] blk 0 cap D w (enters_of Tryz.func181 (by kernel_rfl) rfl) ?_ hH hblk hsz
 intro m os dk hs x y
 obtain ⟨n,s,e⟩:=Qcbp x
 obtain ⟨n',s',e'⟩:=Qcbp y
 have hx:=x.hp
 have hy:=y.hp
 simp only [okW,inR,Bool.and_eq_true,decide_eq_true_eq] at hx hy
 rw [e,e']
 exact Qjsb _ _ _ _ _ _ _ hx.1 hx.2 hy.1 hy.2
theorem Qudc {α β : Type} (key : α → β) {l : List α} (h : (l.map key).Nodup) : l.Pairwise fun a b=>key a ≠ key b:=List.pairwise_map.1 h
theorem Qct0 (xs : List Entry) (hg : srtEK xs = true) : Qewq Tryz.prog CP Qq3g [.own 0 [] 0,.fn (.func Qs8v) []] [.row .entry xs 1 0 0 .no] (.tup []) [.row .entry (sortE xs) 1 0 0 .no]:=by
 simp only [srtEK,Bool.and_eq_true,decide_eq_true_eq] at hg
 obtain ⟨h1,h2,h3⟩:=hg
 have ne:=Qudc Entry.name h3
 refine Qewq.sortFunc CP_ok Qnjx (fun _ _=>rfl) h1 (Nat.lt_of_le_of_lt h2 (by decide)) (fun zs hp hz=>?_)
 obtain ⟨hp2,hs2⟩:=Q2ne xs
 refine (hp.trans hp2.symm).eq_of_pairwise (le:=fun a b : Entry=>¬ Lib.compareBytes b.name a.name < 0) (fun a b ha hb q1 q2=>?_) hz hs2
 rw [Q9yw] at q1 q2
 exact Qrj0 Entry.name ne (hp.mem_iff.1 ha) (hp2.mem_iff.1 hb) (Qj9t _ _ (by simpa using q2) (by simpa using q1))
theorem Q15v (xs : List Fld) (hg : srtFK xs = true) : Qewq Tryz.prog CP Qbq3 [.own 0 [] 0,.fn (.func Qy91) []] [.row .fld xs 0 0 0 .no] (.tup []) [.row .fld (sortF xs) 0 0 0 .no]:=by
 simp only [srtFK,Bool.and_eq_true,decide_eq_true_eq] at hg
 obtain ⟨h1,h2,h3,h4⟩:=hg
 have ne:=Qudc Fld.what h3
 refine Qewq.sortFunc CP_ok Qmd2 (fun x hx=>List.all_eq_true.1 h4 x hx) h1 (Nat.lt_of_le_of_lt h2 (by decide)) (fun zs hp hz=>?_)
 obtain ⟨hp2,hs2⟩:=Qcsw xs
 refine (hp.trans hp2.symm).eq_of_pairwise (le:=fun a b : Fld=>¬ b.what < a.what) (fun a b ha hb q1 q2=>?_) (hz.imp fun {a b} h=>by omega) hs2
 exact Qrj0 Fld.what ne (hp.mem_iff.1 ha) (hp2.mem_iff.1 hb) (by omega)
theorem Q9pe : EntOK Tryz.prog CP Qq3g Qlpg:=by
 refine ⟨⟨Tryz.f177,by kernel_rfl,by kernel_rfl,by kernel_rfl⟩,fun args H res H' h=>?_⟩
 simp only [Qlpg] at h
 split at h
 ·simp only [Option.some.injEq,Prod.mk.injEq,Bool.and_eq_true,decide_eq_true_eq] at h
  obtain ⟨⟨rfl,hg⟩,rfl,rfl⟩:=h
  exact Qct0 _ hg
 ·cases h
theorem Qp8x : EntOK Tryz.prog CP Qbq3 Qpic:=by
 refine ⟨⟨Tryz.f180,by kernel_rfl,by kernel_rfl,by kernel_rfl⟩,fun args H res H' h=>?_⟩
 simp only [Qpic] at h
 split at h
 ·simp only [Option.some.injEq,Prod.mk.injEq,Bool.and_eq_true,decide_eq_true_eq] at h
  obtain ⟨⟨rfl,hg⟩,rfl,rfl⟩:=h
  exact Q15v _ hg
 ·cases h
end Lx
namespace Lx
open Go Go.Proofs
noncomputable def Qmyl : RE Ty El:=⟨Tryz.prog,CP,[],Tryz.f148,0,[],[]⟩
theorem Qzd8 : REOK Qmyl Qcg7:=⟨CP_ok,Qye1,by kernel_rfl,by kernel_rfl⟩
theorem Qizp (a b c d : Int) (s t : Str) : aRun Qmyl 600 false (body0 Qmyl.fn) (Q4gm Qmyl.fn [.agg [.int .i64 a,.int .i64 b,.str s],.agg [.int .i64 c,.int .i64 d,.str t]] []) =
 ifb (decide (b > d)) (some (.ret (.bool true) [])) (ifb (b == d) (some (.ret (.bool (!(Q7zj s t || s == t))) [])) (some (.ret (.bool false) []))):=by kernel_rfl
theorem Qfh4 (a b c d : Int) (s t : Str) : Qewq Tryz.prog CP Qcg7 [.agg [.int .i64 a,.int .i64 b,.str s],.agg [.int .i64 c,.int .i64 d,.str t]] [] (.bool (Fld.later ⟨a,b,s⟩ ⟨c,d,t⟩)) []:=by
 refine Qewq.of Qzd8 (by kernel_rfl) (Qizp a b c d s t) ?_
 rw [le_lt,Bool.not_not]
 by_cases h : b = d
 ·subst h
  rw [show decide (b > b) = false by simp,show (b == b) = true by simp,show Fld.later ⟨a,b,s⟩ ⟨c,b,t⟩ = Q7zj t s from if_pos rfl]
  exact Sat.ret rfl rfl
 ·rw [show (b == d) = false by simp [h],show Fld.later ⟨a,b,s⟩ ⟨c,d,t⟩ = decide (b > d) from if_neg h]
  cases decide (b > d) <;> exact Sat.ret rfl rfl
theorem Q2xi : EntOK Tryz.prog CP Qcg7 Qdx1:=by
 refine ⟨⟨Tryz.f148,by kernel_rfl,by kernel_rfl,by kernel_rfl⟩,fun args H res H' h=>?_⟩
 simp only [Qdx1,Q7bn] at h
 split at h
 ·simp only [Option.some.injEq,Prod.mk.injEq] at h
  obtain ⟨hg,rfl,rfl⟩:=h
  exact Qfh4 _ _ _ _ _ _
 ·cases h

noncomputable def Q75r : RE Ty El:=⟨Tryz.prog,CP,[],Tryz.f175,0,[.agg [.own .kind,.own .point]],[]⟩
theorem Qqki : REOK Q75r Qr5h:=⟨CP_ok,Qye1,by kernel_rfl,by kernel_rfl⟩
theorem Qcd3 (ks : List Kind) (ps : List Point) : aRun Q75r 600 false (body0 Q75r.fn) (Q4gm Q75r.fn [.agg [.sl .kind ks,.sl .point ps]] []) =
 ifb (decide (ks.length * Qbhn Q75r.P (40 : Nat) ≤ (140737488355328 : Nat))) (ifb (decide (ps.length * Qbhn Q75r.P (160 : Nat) ≤ (140737488355328 : Nat))) (some (.ret (.agg [.own 0 [] 0,.own 1 [] 0]) [.row .kind ks 0 0 0 .no,.row .point ps 0 0 0 .no])) (none)) (none):=by kernel_rfl
theorem Qqpn (ks : List Kind) (ps : List Point) (hg : Qzta ks ps = true) : Qewq Tryz.prog CP Qr5h [.agg [.sl .kind ks,.sl .point ps]] [] (.agg [.own 0 [] 0,.own 1 [] 0]) [.row .kind ks 0 0 0 .no,.row .point ps 0 0 0 .no]:=by
 refine Qewq.of Qqki (by kernel_rfl) (Qcd3 ks ps) ?_
 simp only [Qzta,Q6lz,Qjyp,Bool.and_eq_true,decide_eq_true_eq] at hg
 obtain ⟨⟨g0,_⟩,⟨g1,_⟩,_⟩:=hg
 have hb40 : Qbhn Q75r.P 40 ≤ 256:=of_decide_eq_true (by kernel_rfl)
 have hb160 : Qbhn Q75r.P 160 ≤ 256:=of_decide_eq_true (by kernel_rfl)
 rw [Q1mk hb40 (by first | omega | (simp; omega)),Q1mk hb160 (by first | omega | (simp; omega))]
 exact Sat.ret rfl rfl
theorem Qwwc : EntOK Tryz.prog CP Qr5h Qvr6:=by
 refine ⟨⟨Tryz.f175,by kernel_rfl,by kernel_rfl,by kernel_rfl⟩,fun args H res H' h=>?_⟩
 simp only [Qvr6,Qf5p] at h
 split at h
 ·simp only [Option.some.injEq,Prod.mk.injEq] at h
  obtain ⟨hg,rfl,rfl⟩:=h
  exact Qqpn _ _ hg
 ·cases h

noncomputable def Q6c7 : RE Ty El:=⟨Tryz.prog,CP,[(Qr5h,Qvr6)],Tryz.f97,0,[.agg [.own .kind,.own .point,.own .entry]],[(3,[(2,.any),(3,.any),(11,.any),(12,.any),(13,.any)])]⟩
theorem Qzme : REOK Q6c7 Qlpu:=⟨CP_ok,(TabOK.cons Qwwc Qye1),by kernel_rfl,by kernel_rfl⟩
theorem Qcot (ks : List Kind) (ps : List Point) (es : List Entry) : aRun Q6c7 600 false (body0 Q6c7.fn) (Q4gm Q6c7.fn [.agg [.sl .kind ks,.sl .point ps,.sl .entry es]] []) =
 ifb (Qzta ks ps) (some (.go (Qu6t Q6c7.fn 3) [.ptr 0 0,.ptr 1 0,.sl .entry es,.int .i64 (↑es.length : Int),.int .i64 (0 : Int)] [.box [.nils,.nils,.nils],.box [.own 2 [] 0,.own 3 [] 0,.nils],.row .kind ks 0 0 0 .no,.row .point ps 0 0 0 .no])) (none):=by kernel_rfl
theorem Q4dj (x0 : List (El .entry)) (x1 : Int) (x2 : Int) (x3 : List (El .kind)) (x4 : List (El .point)) : aRun Q6c7 600 true (Qu6t Q6c7.fn 3) (cutSt Q6c7.fn (Q1m4 Q6c7 (Qu6t Q6c7.fn 3)) [.ptr 0 0,.ptr 1 0,.sl .entry x0,.int .i64 x1,.int .i64 x2] [.box [.nils,.nils,.nils],.box [.own 2 [] 0,.own 3 [] 0,.nils],.row .kind x3 0 0 0 .no,.row .point x4 0 0 0 .no]) =
 ifb (decide (x2 < x1)) (ifb (inb x2 x0.length) (ifb (decide ((x0.getD x2.toNat (Q6c7.C.dflt Ty.entry)).fields.length * Qbhn Q6c7.P (94 : Nat) ≤ (140737488355328 : Nat))) (some (.go (Qu6t Q6c7.fn 3) [.ptr 0 0,.ptr 1 0,.sl .entry x0,.int .i64 x1,.int .i64 (IntKind.i64.wrap (x2 + (1 : Int)))] [.box [.nils,.nils,.nils],.box [.own 2 [] 0,.own 3 [] 0,.own 4 [] 0],.row .kind x3 0 0 0 .no,.row .point x4 0 0 0 .no,.row .entry [x0.getD x2.toNat (Q6c7.C.dflt Ty.entry)] 1 0 0 .no])) (none)) (none)) (some (.ret (.agg [.own 0 [] 0,.own 1 [] 0,.own 2 [] 0]) [.row .kind x3 0 0 0 .no,.row .point x4 0 0 0 .no,.row .entry [] 1 0 0 .no])):=by kernel_rfl
theorem Qksv (x0 : List (El .entry)) (x1 : Int) (x2 : Int) (x3 : List (El .kind)) (x4 : List (El .point)) (x5 : List (El .entry)) : aRun Q6c7 600 true (Qu6t Q6c7.fn 3) (cutSt Q6c7.fn (Q1m4 Q6c7 (Qu6t Q6c7.fn 3)) [.ptr 0 0,.ptr 1 0,.sl .entry x0,.int .i64 x1,.int .i64 x2] [.box [.nils,.nils,.nils],.box [.own 2 [] 0,.own 3 [] 0,.own 4 [] 0],.row .kind x3 0 0 0 .no,.row .point x4 0 0 0 .no,.row .entry x5 1 0 0 .no]) =
 ifb (decide (x2 < x1)) (ifb (inb x2 x0.length) (ifb (decide ((x0.getD x2.toNat (Q6c7.C.dflt Ty.entry)).fields.length * Qbhn Q6c7.P (94 : Nat) ≤ (140737488355328 : Nat))) (ifb (decide ((x5.length + [x0.getD x2.toNat (Q6c7.C.dflt Ty.entry)].length) * Qbhn Q6c7.P (92 : Nat) ≤ (140737488355328 : Nat))) (some (.go (Qu6t Q6c7.fn 3) [.ptr 0 0,.ptr 1 0,.sl .entry x0,.int .i64 x1,.int .i64 (IntKind.i64.wrap (x2 + (1 : Int)))] [.box [.nils,.nils,.nils],.box [.own 2 [] 0,.own 3 [] 0,.own 4 [] 0],.row .kind x3 0 0 0 .no,.row .point x4 0 0 0 .no,.row .entry (x5 ++ [x0.getD x2.toNat (Q6c7.C.dflt Ty.entry)]) 1 0 0 .no])) (none)) (none)) (none)) (some (.ret (.agg [.own 0 [] 0,.own 1 [] 0,.own 2 [] 0]) [.row .kind x3 0 0 0 .no,.row .point x4 0 0 0 .no,.row .entry x5 1 0 0 .no])):=by kernel_rfl
theorem Qzou (ks : List Kind) (ps : List Point) (es : List Entry) (g0 : es.length ≤ 1000000000) (g1 : es.all (fun z : Entry=>Qytc z.name z.fields) = true) : ∀ (d i : Nat),i + d = es.length →
  Cut Q6c7 Qlpu 3 [.ptr 0 0,.ptr 1 0,.sl .entry es,.int .i64 (es.length : Int),.int .i64 (i : Int)] [.box [.nils,.nils,.nils],.box [.own 2 [] 0,.own 3 [] 0,.own 4 [] 0],.row .kind ks 0 0 0 .no,.row .point ps 0 0 0 .no,.row .entry (es.take i) 1 0 0 .no] (.agg [.own 0 [] 0,.own 1 [] 0,.own 2 [] 0]) [.row .kind ks 0 0 0 .no,.row .point ps 0 0 0 .no,.row .entry es 1 0 0 .no]:=by
 have hb92 : Qbhn Q6c7.P 92 ≤ 256:=of_decide_eq_true (by kernel_rfl)
 have hb94 : Qbhn Q6c7.P 94 ≤ 256:=of_decide_eq_true (by kernel_rfl)
 intro d
 induction d with
 | zero =>
  intro i hi
  refine Cut.of Qzme rfl (Qksv es es.length i ks ps _) ?_
  rw [show decide ((i : Int) < (es.length : Int)) = false from decide_eq_false (by omega),List.take_of_length_le (by omega)]
  exact Sat.ret rfl rfl
 | succ d ih =>
  intro i hi
  refine Cut.of Qzme rfl (Qksv es es.length i ks ps _) ?_
  have hlt : i < es.length:=by omega
  have hw : IntKind.wrap .i64 ((i : Int) + 1) = ((i + 1 : Nat) : Int):=by rw [Qbrg] <;> omega
  have hw1 : IntKind.wrap .i64 ((i : Int) - 1) = (i : Int) - 1:=by rw [Qbrg] <;> omega
  have hd : es.drop i = es[i] :: es.drop (i + 1):=List.drop_eq_getElem_cons hlt
  have hx : es.getD (i : Int).toNat (Q6c7.C.dflt .entry) = es[i]:=by simp [hlt]
  have hin : inb (i : Int) es.length = true:=by simp only [inb,Bool.and_eq_true,decide_eq_true_eq]; omega
  have hlo : decide ((i : Int) < (es.length : Int)) = true:=decide_eq_true (by omega)
  have htk:=List.take_succ_eq_append_getElem hlt
  have hl : (es.take (i + 1)).getLast? = some es[i]:=by rw [List.take_succ_eq_append_getElem hlt,List.getLast?_concat]
  have hz:=List.all_eq_true.1 g1 es[i] (List.getElem_mem hlt)
  simp only [Qytc,Qckx,Bool.and_eq_true,decide_eq_true_eq] at hz
  rw [hlo,hin,hx,hw,Q1mk hb94 (by first | omega | (simp; omega)),Q1mk hb92 (by first | omega | (simp; omega))]
  simp only [Qd8q,List.nil_append]
  have nx:=ih (i + 1) (by omega)
  rw [htk] at nx
  exact Sat.cut nx
theorem Ql8o (ks : List Kind) (ps : List Point) (es : List Entry) (g0 : es.length ≤ 1000000000) (g1 : es.all (fun z : Entry=>Qytc z.name z.fields) = true) :
  Cut Q6c7 Qlpu 3 [.ptr 0 0,.ptr 1 0,.sl .entry es,.int .i64 (es.length : Int),.int .i64 (0 : Int)] [.box [.nils,.nils,.nils],.box [.own 2 [] 0,.own 3 [] 0,.nils],.row .kind ks 0 0 0 .no,.row .point ps 0 0 0 .no] (.agg [.own 0 [] 0,.own 1 [] 0,.own 2 [] 0]) [.row .kind ks 0 0 0 .no,.row .point ps 0 0 0 .no,.row .entry es 1 0 0 .no]:=by
 have hb92 : Qbhn Q6c7.P 92 ≤ 256:=of_decide_eq_true (by kernel_rfl)
 have hb94 : Qbhn Q6c7.P 94 ≤ 256:=of_decide_eq_true (by kernel_rfl)
 refine Cut.of Qzme rfl (Q4dj es es.length 0 ks ps) ?_
 cases es with
 | nil=>exact Sat.ret rfl rfl
 | cons e es =>
  have hz:=g1
  rw [List.all_cons,Bool.and_eq_true] at hz
  replace hz:=hz.1
  simp only [Qytc,Qckx,Bool.and_eq_true,decide_eq_true_eq] at hz
  have hi0 : inb (0 : Int) (e :: es).length = true:=by simp only [inb,Bool.and_eq_true,decide_eq_true_eq,List.length_cons]; omega
  have hx0 : (e :: es).getD (Int.toNat 0) (Q6c7.C.dflt .entry) = e:=rfl
  rw [show decide ((0 : Int) < ((e :: es).length : Int)) = true from decide_eq_true (by simp only [List.length_cons]; omega),hi0,hx0,Q1mk hb94 (by first | omega | (simp; omega))]
  simp only [Qd8q,List.nil_append]
  exact Sat.cut (Qzou ks ps (e :: es) g0 g1 es.length 1 (by simp only [List.length_cons]; omega))
theorem Qe6m (ks : List Kind) (ps : List Point) (es : List Entry) (hg : Q8cx ks ps es = true) : Qewq Tryz.prog CP Qlpu [.agg [.sl .kind ks,.sl .point ps,.sl .entry es]] [] (.agg [.own 0 [] 0,.own 1 [] 0,.own 2 [] 0]) [.row .kind ks 0 0 0 .no,.row .point ps 0 0 0 .no,.row .entry es 1 0 0 .no]:=by
 refine Qewq.of Qzme (by kernel_rfl) (Qcot ks ps es) ?_
 simp only [Q8cx,Bool.and_eq_true] at hg
 obtain ⟨g0,g1,g2,_⟩:=hg
 rw [show Qzta ks ps = true by simp only [Qzta,g0,g1,Bool.and_true]]
 simp only [Qnwa,Bool.and_eq_true,decide_eq_true_eq] at g2
 exact Sat.cut (Ql8o ks ps es g2.1 g2.2)
theorem Qusr : EntOK Tryz.prog CP Qlpu Q2gg:=by
 refine ⟨⟨Tryz.f97,by kernel_rfl,by kernel_rfl,by kernel_rfl⟩,fun args H res H' h=>?_⟩
 simp only [Q2gg,Qc1o] at h
 split at h
 ·simp only [Option.some.injEq,Prod.mk.injEq] at h
  obtain ⟨hg,rfl,rfl⟩:=h
  exact Qe6m _ _ _ hg
 ·cases h

noncomputable def Qnpa : RE Ty El:=⟨Tryz.prog,CP,[(Q659,Qb5f),(Qcg7,Qdx1),(Qq3g,Qlpg),(Qbq3,Qpic)],Tryz.f98,4,[],[(10,[(5,.any),(8,.any),(51,.any),(52,.any)])]⟩
theorem Q9op : REOK Qnpa Qg00:=⟨CP_ok,(TabOK.cons Q4vp (TabOK.cons Q2xi (TabOK.cons Q9pe (TabOK.cons Qp8x Qye1)))),by kernel_rfl,by kernel_rfl⟩
theorem Qqqo (ks : List Kind) (ps : List Point) (es : List Entry) (n : Str) (w m : Int) (v : Str) : aRun Qnpa 600 false (body0 Qnpa.fn) (Q4gm Qnpa.fn [.ptr 0 0,.str n,.agg [.int .i64 w,.int .i64 m,.str v]] [.box [.own 1 [] 0,.own 2 [] 0,.own 3 [] 0],.row .kind ks 0 0 0 .no,.row .point ps 0 0 0 .no,.row .entry es 1 0 0 .no]) =
 ifb (decide (es.length < (1000000000 : Nat))) (ifb (decide (idxF (fun p=>p.name == n) es < (0 : Int))) (ifb (decide ((↑es.length : Int) ≥ (12 : Int))) (some (.ret (.bool false) [.box [.own 1 [] 0,.own 2 [] 0,.own 3 [] 0],.row .kind ks 0 0 0 .no,.row .point ps 0 0 0 .no,.row .entry es 1 0 0 .no])) (ifb (decide ((es.length + [Entry.mk n [Fld.mk w m v]].length) * Qbhn Qnpa.P (92 : Nat) ≤ (140737488355328 : Nat))) (ifb (decide ((178 : Nat) = Qs8v) && srtEK (es ++ [Entry.mk n [Fld.mk w m v]])) (some (.ret (.bool true) [.box [.own 1 [] 0,.own 2 [] 0,.own 4 [] 0],.row .kind ks 0 0 0 .no,.row .point ps 0 0 0 .no,.out,.row .entry (sortE (es ++ [Entry.mk n [Fld.mk w m v]])) 1 0 0 .no])) (none)) (none))) (ifb (inb (idxF (fun p=>p.name == n) es) es.length) (some (.go (Qu6t Qnpa.fn 10) [.ptr 4 0,.eptr 3 [] 0 2 (Int.toNat (idxF (fun p=>p.name == n) es)) 0,.int .i64 ((↑(es.getD (idxF (fun p=>p.name == n) es).toNat (Qnpa.C.dflt Ty.entry)).fields.length : Int)),.int .i64 (0 : Int)] [.box [.own 1 [] 0,.own 2 [] 0,.own 3 [] 0],.row .kind ks 0 0 0 .no,.row .point ps 0 0 0 .no,.row .entry es 1 0 0 .no,.box [.int .i64 w,.int .i64 m,.str v]])) (none))) (none):=by kernel_rfl
theorem Qv3c (x0 : Nat) (x1 : Int) (x2 : Int) (x3 : List (El .kind)) (x4 : List (El .point)) (x5 : List (El .entry)) (x6 : Int) (x7 : Int) (x8 : Str) : aRun Qnpa 600 true (Qu6t Qnpa.fn 10) (cutSt Qnpa.fn (Q1m4 Qnpa (Qu6t Qnpa.fn 10)) [.ptr 4 0,.eptr 3 [] 0 2 x0 0,.int .i64 x1,.int .i64 x2] [.box [.own 1 [] 0,.own 2 [] 0,.own 3 [] 0],.row .kind x3 0 0 0 .no,.row .point x4 0 0 0 .no,.row .entry x5 1 0 0 .no,.box [.int .i64 x6,.int .i64 x7,.str x8]]) =
 ifb (decide (x2 < x1)) (ifb (inb x2 (x5.getD x0 (Qnpa.C.dflt Ty.entry)).fields.length) (ifb (((x5.getD x0 (Qnpa.C.dflt Ty.entry)).fields.getD x2.toNat (Qnpa.C.dflt Ty.fld)).what == x6) (ifb (inb x2 (x5.getD x0 (Qnpa.C.dflt Ty.entry)).fields.length) (ifb ((Fld.mk x6 x7 x8).later ((x5.getD x0 (Qnpa.C.dflt Ty.entry)).fields.getD x2.toNat (Qnpa.C.dflt Ty.fld))) (ifb (inb x2 (x5.getD x0 (Qnpa.C.dflt Ty.entry)).fields.length) (some (.ret (.bool true) [.box [.own 1 [] 0,.own 2 [] 0,.own 3 [] 0],.row .kind x3 0 0 0 .no,.row .point x4 0 0 0 .no,.row .entry (x5.set x0 (Entry.mk (x5.getD x0 (Qnpa.C.dflt Ty.entry)).name ((x5.getD x0 (Qnpa.C.dflt Ty.entry)).fields.set x2.toNat (Fld.mk x6 x7 x8)))) 1 0 0 .no])) (none)) (some (.ret (.bool true) [.box [.own 1 [] 0,.own 2 [] 0,.own 3 [] 0],.row .kind x3 0 0 0 .no,.row .point x4 0 0 0 .no,.row .entry x5 1 0 0 .no]))) (none)) (some (.go (Qu6t Qnpa.fn 10) [.ptr 4 0,.eptr 3 [] 0 2 x0 0,.int .i64 x1,.int .i64 (IntKind.i64.wrap (x2 + (1 : Int)))] [.box [.own 1 [] 0,.own 2 [] 0,.own 3 [] 0],.row .kind x3 0 0 0 .no,.row .point x4 0 0 0 .no,.row .entry x5 1 0 0 .no,.box [.int .i64 x6,.int .i64 x7,.str x8]]))) (none)) (ifb (decide (((x5.getD x0 (Qnpa.C.dflt Ty.entry)).fields.length + [Fld.mk x6 x7 x8].length) * Qbhn Qnpa.P (94 : Nat) ≤ (140737488355328 : Nat))) (ifb (decide (x0 = x0)) (ifb (decide ((181 : Nat) = Qy91) && srtFK (((x5.set x0 (Entry.mk (x5.getD x0 (Qnpa.C.dflt Ty.entry)).name [])).set x0 (Entry.mk ((x5.set x0 (Entry.mk (x5.getD x0 (Qnpa.C.dflt Ty.entry)).name [])).getD x0 (Qnpa.C.dflt Ty.entry)).name ((x5.getD x0 (Qnpa.C.dflt Ty.entry)).fields ++ [Fld.mk x6 x7 x8]))).getD x0 (Qnpa.C.dflt Ty.entry)).fields) (some (.ret (.bool true) [.box [.own 1 [] 0,.own 2 [] 0,.own 3 [] 0],.row .kind x3 0 0 0 .no,.row .point x4 0 0 0 .no,.row .entry (((x5.set x0 (Entry.mk (x5.getD x0 (Qnpa.C.dflt Ty.entry)).name [])).set x0 (Entry.mk ((x5.set x0 (Entry.mk (x5.getD x0 (Qnpa.C.dflt Ty.entry)).name [])).getD x0 (Qnpa.C.dflt Ty.entry)).name ((x5.getD x0 (Qnpa.C.dflt Ty.entry)).fields ++ [Fld.mk x6 x7 x8]))).set x0 (Entry.mk (((x5.set x0 (Entry.mk (x5.getD x0 (Qnpa.C.dflt Ty.entry)).name [])).set x0 (Entry.mk ((x5.set x0 (Entry.mk (x5.getD x0 (Qnpa.C.dflt Ty.entry)).name [])).getD x0 (Qnpa.C.dflt Ty.entry)).name ((x5.getD x0 (Qnpa.C.dflt Ty.entry)).fields ++ [Fld.mk x6 x7 x8]))).getD x0 (Qnpa.C.dflt Ty.entry)).name (sortF (((x5.set x0 (Entry.mk (x5.getD x0 (Qnpa.C.dflt Ty.entry)).name [])).set x0 (Entry.mk ((x5.set x0 (Entry.mk (x5.getD x0 (Qnpa.C.dflt Ty.entry)).name [])).getD x0 (Qnpa.C.dflt Ty.entry)).name ((x5.getD x0 (Qnpa.C.dflt Ty.entry)).fields ++ [Fld.mk x6 x7 x8]))).getD x0 (Qnpa.C.dflt Ty.entry)).fields))) 1 0 0 .no])) (none)) (none)) (none)):=by kernel_rfl
theorem Qm9i (ks : List Kind) (ps : List Point) (es : List Entry) (n : Str) (w m : Int) (v : Str) (i : Nat) (hi : i < es.length) (hs : Qvhg (es.getD i (dfltP .entry)).fields) (h5 : (es.getD i (dfltP .entry)).fields.length ≤ 5) (hw1 : ∀ g ∈ (es.getD i (dfltP .entry)).fields,1 ≤ g.what ∧ g.what ≤ 5) (hw : -1000 ≤ w ∧ w ≤ 1000) : ∀ (d k : Nat),k + d = (es.getD i (dfltP .entry)).fields.length → (∀ g ∈ (es.getD i (dfltP .entry)).fields.take k,g.what ≠ w) →
  Cut Qnpa Qg00 10 [.ptr 4 0,.eptr 3 [] 0 2 i 0,.int .i64 ((es.getD i (dfltP .entry)).fields.length : Int),.int .i64 (k : Int)] [.box [.own 1 [] 0,.own 2 [] 0,.own 3 [] 0],.row .kind ks 0 0 0 .no,.row .point ps 0 0 0 .no,.row .entry es 1 0 0 .no,.box [.int .i64 w,.int .i64 m,.str v]] (.bool true) [.box [.own 1 [] 0,.own 2 [] 0,.own 3 [] 0],.row .kind ks 0 0 0 .no,.row .point ps 0 0 0 .no,.row .entry (es.set i ⟨(es.getD i (dfltP .entry)).name,Qul0 (es.getD i (dfltP .entry)).fields ⟨w,m,v⟩⟩) 1 0 0 .no]:=by
 have hb92 : Qbhn Qnpa.P 92 ≤ 256:=of_decide_eq_true (by kernel_rfl)
 have hb94 : Qbhn Qnpa.P 94 ≤ 256:=of_decide_eq_true (by kernel_rfl)
 have hdd : Qnpa.C.dflt Ty.entry = dfltP .entry:=rfl
 intro d
 induction d with
 | zero =>
  intro k hk hno
  refine Cut.of Q9op rfl (Qv3c i _ k ks ps es w m v) ?_
  rw [hdd]
  have g1 : ∀ y : Entry,(es.set i y).getD i (dfltP .entry) = y:=fun y=>by rw [List.getD_eq_getElem?_getD,List.getElem?_set_self hi]; rfl
  simp only [List.set_set,g1]
  generalize es.getD i (dfltP .entry) = e at *
  rw [List.take_of_length_le (by omega)] at hno
  have hK : srtFK (e.fields ++ [⟨w,m,v⟩]) = true:=by
   simp only [srtFK,Bool.and_eq_true,decide_eq_true_eq]
   refine ⟨by simp,by simp; omega, ?_,List.all_eq_true.2 fun g hg=>?_⟩
   ·rw [List.map_append,List.nodup_append]
    refine ⟨List.pairwise_map.2 (hs.imp fun {a b} h=>by omega),by simp,fun a ha b hb=>?_⟩
    obtain ⟨g,hg,rfl⟩:=List.mem_map.1 ha
    simp only [List.map_cons,List.map_nil,List.mem_singleton] at hb
    subst hb
    exact hno g hg
   ·simp only [inR,Bool.and_eq_true,decide_eq_true_eq]
    rcases List.mem_append.1 hg with hg | hg
    ·have:=hw1 g hg; omega
    ·simp only [List.mem_singleton] at hg; subst hg; exact hw
  rw [show decide ((k : Int) < (e.fields.length : Int)) = false from decide_eq_false (by omega),Q1mk hb94 (by first | omega | (simp; omega)),hK]
  simp only [Qd8q,Qk7y,decide_true,Bool.and_true]
  obtain ⟨p1,p2⟩:=Qcsw (e.fields ++ [⟨w,m,v⟩])
  have hf : sortF (e.fields ++ [⟨w,m,v⟩]) = Qul0 e.fields ⟨w,m,v⟩:=Qbxf hs hno p1 p2
  rw [hf]
  exact Sat.ret rfl rfl
 | succ d ih =>
  intro k hk hno
  refine Cut.of Q9op rfl (Qv3c i _ k ks ps es w m v) ?_
  rw [hdd]
  have nx:=ih (k + 1) (by omega)
  generalize he : es.getD i (dfltP .entry) = e at *
  generalize hef : e.fields = l at *
  have hlt : k < l.length:=by omega
  have hw : IntKind.wrap .i64 ((k : Int) + 1) = ((k + 1 : Nat) : Int):=by rw [Qbrg] <;> omega
  have hw1 : IntKind.wrap .i64 ((k : Int) - 1) = (k : Int) - 1:=by rw [Qbrg] <;> omega
  have hd : l.drop k = l[k] :: l.drop (k + 1):=List.drop_eq_getElem_cons hlt
  have hx : l.getD (k : Int).toNat (Qnpa.C.dflt .fld) = l[k]:=by simp [hlt]
  have hin : inb (k : Int) l.length = true:=by simp only [inb,Bool.and_eq_true,decide_eq_true_eq]; omega
  have hlo : decide ((k : Int) < (l.length : Int)) = true:=decide_eq_true (by omega)
  have htk:=List.take_succ_eq_append_getElem hlt
  have hl : (l.take (k + 1)).getLast? = some l[k]:=by rw [List.take_succ_eq_append_getElem hlt,List.getLast?_concat]
  rw [hlo,hin,hx,hw]
  simp only [Qd8q]
  by_cases h1 : l[k].what = w
  ·rw [show (l[k].what == w) = true by simp [h1]]
   simp only [Qd8q]
   have hh:=Qlnx (f:=⟨w,m,v⟩) hlt hs h1
   cases h3 : Fld.later ⟨w,m,v⟩ l[k] with
   | true =>
    rw [h3,if_pos rfl] at hh
    rw [hh]
    exact Sat.ret rfl rfl
   | false =>
    rw [h3,if_neg (by simp)] at hh
    rw [hh]
    refine Sat.ret rfl ?_
    have : (Entry.mk e.name l) = es.getD i (dfltP .entry):=by rw [he,← hef]
    rw [this]
    have e2 : es.set i (es.getD i (dfltP .entry)) = es:=by
     rw [List.getD_eq_getElem?_getD,List.getElem?_eq_getElem hi]; exact List.set_getElem_self hi
    rw [e2]
  ·rw [show (l[k].what == w) = false by simp [h1]]
   refine Sat.cut (nx (fun g hg=>?_))
   rw [htk] at hg
   rcases List.mem_append.1 hg with hg | hg
   ·exact hno g hg
   ·simp only [List.mem_singleton] at hg; subst hg; exact h1
theorem Qafw (ks : List Kind) (ps : List Point) (es : List Entry) (n : Str) (w m : Int) (v : Str) (hg : layK ks ps es w = true) : Qewq Tryz.prog CP Qg00 [.ptr 0 0,.str n,.agg [.int .i64 w,.int .i64 m,.str v]] [.box [.own 1 [] 0,.own 2 [] 0,.own 3 [] 0],.row .kind ks 0 0 0 .no,.row .point ps 0 0 0 .no,.row .entry es 1 0 0 .no] (.bool (layB es n)) [.box [.own 1 [] 0,.own 2 [] 0,.own 4 [] 0],.row .kind ks 0 0 0 .no,.row .point ps 0 0 0 .no,.out,.row .entry (layF es n ⟨w,m,v⟩) 1 0 0 .no]:=by
 simp only [layK,Bool.and_eq_true] at hg
 obtain ⟨hb,hgd,hw⟩:=hg
 simp only [inR,Bool.and_eq_true,decide_eq_true_eq] at hw
 have hb92 : Qbhn Qnpa.P 92 ≤ 256:=of_decide_eq_true (by kernel_rfl)
 have hb94 : Qbhn Qnpa.P 94 ≤ 256:=of_decide_eq_true (by kernel_rfl)
 obtain ⟨h12,hf5⟩:=Qm34 hb
 obtain ⟨hes,hfs⟩:=Qwk3 hb
 have mv : ∀ (b : Bool) (zs : List Entry),Qewq Tryz.prog CP Qg00 [.ptr 0 0,.str n,.agg [.int .i64 w,.int .i64 m,.str v]] [.box [.own 1 [] 0,.own 2 [] 0,.own 3 [] 0],.row .kind ks 0 0 0 .no,.row .point ps 0 0 0 .no,.row .entry es 1 0 0 .no] (.bool b) [.box [.own 1 [] 0,.own 2 [] 0,.own 3 [] 0],.row .kind ks 0 0 0 .no,.row .point ps 0 0 0 .no,.row .entry zs 1 0 0 .no] → Qewq Tryz.prog CP Qg00 [.ptr 0 0,.str n,.agg [.int .i64 w,.int .i64 m,.str v]] [.box [.own 1 [] 0,.own 2 [] 0,.own 3 [] 0],.row .kind ks 0 0 0 .no,.row .point ps 0 0 0 .no,.row .entry es 1 0 0 .no] (.bool b) [.box [.own 1 [] 0,.own 2 [] 0,.own 4 [] 0],.row .kind ks 0 0 0 .no,.row .point ps 0 0 0 .no,.out,.row .entry zs 1 0 0 .no]:=fun b zs h=>Qewq.moveAt CP_ok h 3 (by simp) (by simp) rfl rfl rfl
 have hlen : decide (es.length < 1000000000) = true:=decide_eq_true (by omega)
 by_cases h0 : entIx es n < 0
 ·have hix : decide (idxF (fun p=>p.name == n) es < (0 : Int)) = true:=decide_eq_true h0
  by_cases h1 : 12 ≤ es.length
  ·have hB : layB es n = false:=by simp only [layB,decide_eq_true h0,decide_eq_true h1]; rfl
   have hF : layF es n ⟨w,m,v⟩ = es:=by rw [layF,hB]; rfl
   rw [hB,hF]
   refine mv false es (Qewq.of Q9op (by kernel_rfl) (Qqqo ks ps es n w m v) ?_)
   rw [hlen,hix,show decide ((es.length : Int) ≥ 12) = true from decide_eq_true (by omega)]
   exact Sat.ret rfl rfl
  ·have hB : layB es n = true:=by simp only [layB,decide_eq_true h0,decide_eq_false h1]; rfl
   have hno:=Q853 h0
   have hK : srtEK (es ++ [Entry.mk n [Fld.mk w m v]]) = true:=by
    simp only [srtEK,Bool.and_eq_true,decide_eq_true_eq]
    refine ⟨by simp,by simp; omega, ?_⟩
    rw [List.map_append,List.nodup_append]
    refine ⟨List.pairwise_map.2 (hes.imp fun {a b} h e=>by rw [e,Qqw5] at h; cases h),by simp,fun a ha b hb=>?_⟩
    obtain ⟨g,hg,rfl⟩:=List.mem_map.1 ha
    simp only [List.map_cons,List.map_nil,List.mem_singleton] at hb
    subst hb
    exact hno g hg
   obtain ⟨p1,p2⟩:=Q2ne (es ++ [Entry.mk n [Fld.mk w m v]])
   have hS : sortE (es ++ [Entry.mk n [Fld.mk w m v]]) = insE es n ⟨w,m,v⟩:=Qbw4 hes hno p1 p2
   have hF : layF es n ⟨w,m,v⟩ = insE es n ⟨w,m,v⟩:=by rw [layF,hB,if_pos rfl,Qk9v (by omega)]
   rw [hB,hF]
   refine Qewq.of Q9op (by kernel_rfl) (Qqqo ks ps es n w m v) ?_
   rw [hlen,hix,show decide ((es.length : Int) ≥ 12) = false from decide_eq_false (by omega),Q1mk hb92 (by first | omega | (simp; omega)),hK,hS]
   exact Sat.ret rfl rfl
 ·have h0' : 0 ≤ entIx es n:=by omega
  have hB : layB es n = true:=by simp only [layB,decide_eq_false h0]; rfl
  have hF : layF es n ⟨w,m,v⟩ = putF es n ⟨w,m,v⟩:=by rw [layF,hB,if_pos rfl]
  rw [hB,hF,Q5v6 h0']
  refine mv true _ (Qewq.of Q9op (by kernel_rfl) (Qqqo ks ps es n w m v) ?_)
  have hi:=Qohw h0'
  have hlt : (entIx es n).toNat < es.length:=by have h2 : entIx es n < (es.length : Int):=Q1mf; omega
  have hm:=Qhwx h0'
  have hok : ∀ g ∈ (es.getD (entIx es n).toNat (dfltP .entry)).fields,1 ≤ g.what ∧ g.what ≤ 5:=fun g hg=>by
   simp only [Qn0o,Bool.and_eq_true] at hb
   have ho:=Qmra es _ hb.2.2 _ hm
   simp only [Q7i7,Bool.and_eq_true] at ho
   exact Q3ut (Qx66 ho.2.2 g hg)
  rw [hlen,show decide (idxF (fun p=>p.name == n) es < (0 : Int)) = false from decide_eq_false h0]
  simp only [Qd8q,Qk7y]
  refine Sat.ifb (fun _=>?_) (fun e=>absurd (hi.symm.trans e) (by simp))
  exact Sat.cut (Qm9i ks ps es n w m v _ hlt (hfs _ hm).1 (hf5 _ hm) hok hw (es.getD (entIx es n).toNat (dfltP .entry)).fields.length 0 (by omega) (by simp))
theorem Qtc1 : EntOK Tryz.prog CP Qg00 Q7p0:=by
 refine ⟨⟨Tryz.f98,by kernel_rfl,by kernel_rfl,by kernel_rfl⟩,fun args H res H' h=>?_⟩
 simp only [Q7p0] at h
 split at h
 ·simp only [Option.some.injEq,Prod.mk.injEq] at h
  obtain ⟨hg,rfl,rfl⟩:=h
  exact Qafw _ _ _ _ _ _ _ hg
 ·cases h
end Lx
namespace Lx
open Go Go.Proofs
def Qy84 : Ent Ty El:=⟨[.ro,.ro],3,fun a h=>match a,h with
 | [.agg [.sl .kind ks,.sl .point ps,.sl .entry es],.agg [.str fl,.int .i64 w,.int .i64 m,.str v]],[] =>
  some (goodB ks ps es && szV v,.tup [.agg [.own 0 [] 0,.own 1 [] 0,.own 2 [] 0],.int .i64 (takeF ks ps es ⟨fl,w,m,v⟩).code],[.row .kind (takeF ks ps es ⟨fl,w,m,v⟩).ks 0 0 0 .no,.row .point (takeF ks ps es ⟨fl,w,m,v⟩).ps 0 0 0 .no,.row .entry (takeF ks ps es ⟨fl,w,m,v⟩).es 1 0 0 .no])
 | _,_=>none⟩
end Lx
namespace Lx
open Go Go.Proofs
noncomputable def Qch5 : RE Ty El:=⟨Tryz.prog,CP,[(Qaev,Qjv4),(Qlpu,Q2gg),(Q4bs,Qna9),(Qg00,Q7p0)],Tryz.f25,0,[.agg [.own .kind,.own .point,.own .entry],.any],[]⟩
theorem Q8tr : REOK Qch5 Q64l:=⟨CP_ok,(TabOK.cons Qwza (TabOK.cons Qusr (TabOK.cons Q0ms (TabOK.cons Qtc1 Qye1)))),by kernel_rfl,by kernel_rfl⟩
theorem Q004 (ks : List Kind) (ps : List Point) (es : List Entry) (fl : Str) (w m : Int) (v : Str) : aRun Qch5 600 false (body0 Qch5.fn) (Q4gm Qch5.fn [.agg [.sl .kind ks,.sl .point ps,.sl .entry es],.agg [.str fl,.int .i64 w,.int .i64 m,.str v]] []) =
 ifb (szB es) (ifb (!Qn0o ks ps es) (some (.ret (.tup [.agg [.own 0 [] 0,.own 1 [] 0,.own 2 [] 0],.int .i64 (1 : Int)]) [.row .kind [] 0 0 0 .no,.row .point [] 0 0 0 .no,.row .entry [] 1 0 0 .no])) (ifb (Q8cx ks ps es) (ifb (szV v && (decide (ks.length < (1000000000 : Nat)) && decide (ps.length < (1000000000 : Nat)))) (ifb (!Qh2h ks ps fl w m v) (some (.ret (.tup [.agg [.own 0 [] 0,.own 1 [] 0,.own 2 [] 0],.int .i64 (2 : Int)]) [.row .kind ks 0 0 0 .no,.row .point ps 0 0 0 .no,.row .entry es 1 0 0 .no])) (ifb (layK ks ps es w) (ifb (!layB es fl) (some (.ret (.tup [.agg [.own 0 [] 0,.own 1 [] 0,.own 2 [] 0],.int .i64 (3 : Int)]) [.row .kind ks 0 0 0 .no,.row .point ps 0 0 0 .no,.row .entry (layF es fl (Fld.mk w m v)) 1 0 0 .no])) (some (.ret (.tup [.agg [.own 0 [] 0,.own 1 [] 0,.own 2 [] 0],.int .i64 (0 : Int)]) [.row .kind ks 0 0 0 .no,.row .point ps 0 0 0 .no,.row .entry (layF es fl (Fld.mk w m v)) 1 0 0 .no]))) (none))) (none)) (none))) (none):=by kernel_rfl
theorem Qzoi (ks : List Kind) (ps : List Point) (es : List Entry) (fl : Str) (w m : Int) (v : Str) (hg : (goodB ks ps es && szV v) = true) : Qewq Tryz.prog CP Q64l [.agg [.sl .kind ks,.sl .point ps,.sl .entry es],.agg [.str fl,.int .i64 w,.int .i64 m,.str v]] [] (.tup [.agg [.own 0 [] 0,.own 1 [] 0,.own 2 [] 0],.int .i64 (takeF ks ps es ⟨fl,w,m,v⟩).code]) [.row .kind (takeF ks ps es ⟨fl,w,m,v⟩).ks 0 0 0 .no,.row .point (takeF ks ps es ⟨fl,w,m,v⟩).ps 0 0 0 .no,.row .entry (takeF ks ps es ⟨fl,w,m,v⟩).es 1 0 0 .no]:=by
 refine Qewq.of Q8tr (by kernel_rfl) (Q004 ks ps es fl w m v) ?_
 simp only [Bool.and_eq_true] at hg
 obtain ⟨g0,g1⟩:=hg
 have g2:=g0
 simp only [goodB,Bool.and_eq_true] at g2
 rw [g2.1,g2.2,g1]
 simp only [Qd8q]
 cases hb : Qn0o ks ps es with
 | false =>
  simp only [Bool.not_false,Qd8q]
  rw [takeF,if_neg (by simp [hb])]
  exact Sat.ret rfl rfl
 | true =>
  simp only [Bool.not_true,Qk7y]
  have hbase : Qib4 ks ps = true:=(Qg6k hb).1
  have hlen:=hbase
  simp only [Qib4,Bool.and_eq_true,decide_eq_true_eq] at hlen
  rw [takeF,if_pos hb,decide_eq_true (show ks.length < 1000000000 by omega),decide_eq_true (show ps.length < 1000000000 by omega)]
  simp only [Bool.and_self,Qd8q]
  have hcc : Qs7k ks ps ⟨fl,w,m,v⟩ = Qh2h ks ps fl w m v:=by simp only [Qs7k,Qh2h,hbase,Bool.true_and]
  cases hc : Qh2h ks ps fl w m v with
  | false =>
   rw [if_neg (by rw [hcc,hc]; simp)]
   exact Sat.ret rfl rfl
  | true =>
   rw [if_pos (hcc.trans hc)]
   have hw : layK ks ps es w = true:=by
    simp only [Qh2h,Bool.and_eq_true] at hc
    have:=Q3ut hc.2.2
    simp only [layK,hb,g0,inR,Bool.true_and,Bool.and_eq_true,decide_eq_true_eq]; omega
   rw [hw]
   simp only [Bool.not_true,Qd8q,Qk7y]
   by_cases h2 : entIx es fl < 0 ∧ 12 ≤ es.length
   ·have hB : layB es fl = false:=by simp only [layB,decide_eq_true h2.1,decide_eq_true h2.2]; rfl
    rw [if_pos h2,layF,hB]
    exact Sat.ret rfl rfl
   ·have hB : layB es fl = true:=by
     simp only [layB,Bool.not_eq_true',Bool.and_eq_false_iff,decide_eq_false_iff_not]
     by_cases h3 : entIx es fl < 0
     ·exact .inr (fun h4=>h2 ⟨h3,h4⟩)
     ·exact .inl h3
    rw [if_neg h2,layF,hB]
    exact Sat.ret rfl rfl
theorem Q7d1 : EntOK Tryz.prog CP Q64l Qy84:=by
 refine ⟨⟨Tryz.f25,by kernel_rfl,by kernel_rfl,by kernel_rfl⟩,fun args H res H' h=>?_⟩
 simp only [Qy84] at h
 split at h
 ·simp only [Option.some.injEq,Prod.mk.injEq] at h
  obtain ⟨hg,rfl,rfl⟩:=h
  exact Qzoi _ _ _ _ _ _ _ hg
 ·cases h
end Lx
namespace Lx
open Go Go.Proofs
theorem take_zero {ks : List Kind} {ps : List Point} {es : List Entry} {c : Chg} (h : (takeF ks ps es c).code = 0) : Qn0o ks ps es = true ∧ Qs7k ks ps c = true ∧ ¬ (entIx es c.flight < 0 ∧ 12 ≤ es.length) ∧ takeF ks ps es c = ⟨ks,ps,putF es c.flight ⟨c.what,c.number,c.value⟩,0⟩:=by
 unfold takeF at h ⊢
 by_cases h1 : Qn0o ks ps es = true
 ·rw [if_pos h1] at h ⊢
  by_cases h2 : Qs7k ks ps c = true
  ·rw [if_pos h2] at h ⊢
   by_cases h3 : entIx es c.flight < 0 ∧ 12 ≤ es.length
   ·rw [if_pos h3] at h; cases h
   ·rw [if_neg h3]; exact ⟨h1,h2,h3,rfl⟩
  ·rw [if_neg h2] at h; cases h
 ·rw [if_neg h1] at h; cases h
end Lx
namespace Lx
open Go Go.Proofs
noncomputable def dSpC (bs : List Int) (p : Int) (c : Chg) : ChgP:=drawn (fun x=>Qewq Tryz.prog CP Qpj2 [.ptr 0 0,.agg [.str c.flight,.int .i64 c.what,.int .i64 c.number,.str c.value]] [.box [.sl .u8 bs,.int .i64 p]] (.agg [.str x.c.flight,.int .i64 x.c.what,.int .i64 x.c.number,.str x.c.value]) [.box [.sl .u8 bs,.int .i64 x.p]] ∧ Qi1t p x)
def spcK (bs : List Int) (p : Int) (v : Str) : Bool:=Qf9o bs && (decide (0 ≤ p) && (decide (p ≤ 890000) && szV v))
noncomputable def Qxsi : Ent Ty El:=⟨[.io,.ro],0,fun a h=>match a,h with
 | [.ptr 0 0,.agg [.str fl,.int .i64 w,.int .i64 n,.str v]],[.box [.sl .u8 bs,.int .i64 p]]=>some (spcK bs p v,.agg [.str (dSpC bs p ⟨fl,w,n,v⟩).c.flight,.int .i64 (dSpC bs p ⟨fl,w,n,v⟩).c.what,.int .i64 (dSpC bs p ⟨fl,w,n,v⟩).c.number,.str (dSpC bs p ⟨fl,w,n,v⟩).c.value],[.box [.sl .u8 bs,.int .i64 (dSpC bs p ⟨fl,w,n,v⟩).p]])
 | _,_=>none⟩
def sameK (ks ks' : List Kind) (ps ps' : List Point) : Bool:=(decide (ks.length ≤ 1000000000) && decide (ps.length ≤ 1000000000)) && (decide (ks = ks') && decide (ps = ps'))
def Q2xe (ks ks' : List Kind) (ps ps' : List Point) (es es' : List Entry) : Bool:=sameK ks ks' ps ps' && (Qnwa es && decide (es = es'))
def Qdkm : Ent Ty El:=⟨[.ro,.ro],0,fun a h=>match a,h with
 | [.agg [.sl .kind ks,.sl .point ps],.agg [.sl .kind ks',.sl .point ps']],[]=>some (sameK ks ks' ps ps',.bool true,[])
 | _,_=>none⟩
def Qz24 : Ent Ty El:=⟨[.ro,.ro],0,fun a h=>match a,h with
 | [.agg [.sl .kind ks,.sl .point ps,.sl .entry es],.agg [.sl .kind ks',.sl .point ps',.sl .entry es']],[]=>some (Q2xe ks ks' ps ps' es es',.bool true,[])
 | [.agg [.sl .kind ks,.sl .point ps,.sl .entry es],.agg [.nils,.nils,.nils]],[]=>some (Q2xe ks [] ps [] es [],.bool true,[])
 | _,_=>none⟩
end Lx
namespace Lx
open Go Go.Proofs
noncomputable def Q6fp : RE Ty El:=⟨Tryz.prog,CP,[(Qpxs,Q7v2),(Qchm,Q2vb),(Q1eg,Qvc4),(Q0nv,Qwn9)],Tryz.f91,1,[],[]⟩
theorem Qi6u : REOK Q6fp Qpj2:=⟨CP_ok,(TabOK.cons Q0e7 (TabOK.cons Qyvd (TabOK.cons Q8hv (TabOK.cons Q83y Qye1)))),by kernel_rfl,by kernel_rfl⟩
theorem Q2cc (bs : List Int) (p : Int) (fl : Str) (w n : Int) (v : Str) : aRun Q6fp 600 false (body0 Q6fp.fn) (Q4gm Q6fp.fn [.ptr 0 0,.agg [.str fl,.int .i64 w,.int .i64 n,.str v]] [.box [.sl .u8 bs,.int .i64 p]]) =
 ifb (posOk p) (ifb (pickV bs p (5 : Int) == (0 : Int)) (ifb (posOk (p + (1 : Int))) (ifb (decide (#[(102 : UInt8)].toList.length ≤ (1 : Nat)) && decide (IntKind.i64.wrap ((8 : Int) + pickV bs (p + (1 : Int)) (2 : Int)) < (64 : Int))) (ifb (rdOk bs (p + (1 : Int) + (1 : Int)) && decide ((0 : Nat) < [#[].toList, #[(75 : UInt8)].toList,dMany #[(102 : UInt8)].toList (IntKind.i64.wrap ((8 : Int) + pickV bs (p + (1 : Int)) (2 : Int)))].length)) (some (.ret (.agg [.str (ofV bs (p + (1 : Int) + (1 : Int)) [#[].toList, #[(75 : UInt8)].toList,dMany #[(102 : UInt8)].toList (IntKind.i64.wrap ((8 : Int) + pickV bs (p + (1 : Int)) (2 : Int)))]),.int .i64 w,.int .i64 n,.str v]) [.box [.sl .u8 bs,.int .i64 (p + (1 : Int) + (1 : Int) + (1 : Int))]])) (none)) (none)) (none)) (ifb (pickV bs p (5 : Int) == (1 : Int)) (ifb (posOk (p + (1 : Int))) (some (.ret (.agg [.str fl,.int .i64 (IntKind.i64.wrap (pickV bs (p + (1 : Int)) (8 : Int) - (1 : Int))),.int .i64 n,.str v]) [.box [.sl .u8 bs,.int .i64 (p + (1 : Int) + (1 : Int))]])) (none)) (ifb (pickV bs p (5 : Int) == (2 : Int)) (ifb (posOk (p + (1 : Int))) (ifb (inb (pickV bs (p + (1 : Int)) (4 : Int)) [(0 : Int),(-1 : Int),(1000000 : Int),(1000001 : Int)].length) (some (.ret (.agg [.str fl,.int .i64 w,.int .i64 ([(0 : Int),(-1 : Int),(1000000 : Int),(1000001 : Int)].getD (pickV bs (p + (1 : Int)) (4 : Int)).toNat (Q6fp.C.dflt Ty.int)),.str v]) [.box [.sl .u8 bs,.int .i64 (p + (1 : Int) + (1 : Int))]])) (none)) (none)) (ifb (rdOk bs (p + (1 : Int))) (some (.ret (.agg [.str fl,.int .i64 w,.int .i64 n,.str (ofV bs (p + (1 : Int)) bad12)]) [.box [.sl .u8 bs,.int .i64 (p + (1 : Int) + (1 : Int))]])) (none))))) (none):=by kernel_rfl
theorem Q395 {bs : List Int} {p q w n : Int} {f v : Str} (h1 : szV v = true) (h2 : p ≤ q) (h3 : q ≤ p + 30) : ∃ x : ChgP,(AV.agg [.str f,.int .i64 w,.int .i64 n,.str v] : AV Ty El) = (.agg [.str x.c.flight,.int .i64 x.c.what,.int .i64 x.c.number,.str x.c.value]) ∧ ([.box [.sl .u8 bs,.int .i64 q]] : List (AObj Ty El)) = [.box [.sl .u8 bs,.int .i64 x.p]] ∧ Qi1t p x:=⟨⟨⟨f,w,n,v⟩,q⟩,rfl,rfl,h1,h2,h3⟩
theorem Qz1w (bs : List Int) (p : Int) (fl : Str) (w n : Int) (v : Str) (hg : spcK bs p v = true) : Qewq Tryz.prog CP Qpj2 [.ptr 0 0,.agg [.str fl,.int .i64 w,.int .i64 n,.str v]] [.box [.sl .u8 bs,.int .i64 p]] (.agg [.str (dSpC bs p ⟨fl,w,n,v⟩).c.flight,.int .i64 (dSpC bs p ⟨fl,w,n,v⟩).c.what,.int .i64 (dSpC bs p ⟨fl,w,n,v⟩).c.number,.str (dSpC bs p ⟨fl,w,n,v⟩).c.value]) [.box [.sl .u8 bs,.int .i64 (dSpC bs p ⟨fl,w,n,v⟩).p]] ∧ Qi1t p (dSpC bs p ⟨fl,w,n,v⟩):=by
 simp only [spcK,Bool.and_eq_true,decide_eq_true_eq] at hg
 obtain ⟨hbs,h0,h9,hv⟩:=hg
 have ps0 : ∀ (q : Int),p ≤ q → q ≤ p + 10 → posOk q = true:=fun q h2 h3=>Q8s4 (by omega) (by omega)
 have pk : ∀ (q n : Int),p ≤ q → q ≤ p + 10 → 1 ≤ n → 0 ≤ pickV bs q n ∧ pickV bs q n < n:=fun q n h2 h3 h4=>Q5va hbs (ps0 q h2 h3) h4
 have rd0 : ∀ (q : Int),p ≤ q → q ≤ p + 10 → rdOk bs q = true:=fun q h2 h3=>by rw [rdOk,hbs,ps0 q h2 h3]; rfl
 have hE : CallE Q6fp.P Q6fp.C Qpj2 [.ptr 0 0,.agg [.str fl,.int .i64 w,.int .i64 n,.str v]] [.box [.sl .u8 bs,.int .i64 p]] (fun v h=>∃ x : ChgP,v = (.agg [.str x.c.flight,.int .i64 x.c.what,.int .i64 x.c.number,.str x.c.value]) ∧ h = [.box [.sl .u8 bs,.int .i64 x.p]] ∧ Qi1t p x):=by
  refine CallE.of Qi6u (by kernel_rfl) (Q2cc bs p fl w n v) ?_
  refine SatE.need (ps0 _ (by omega) (by omega)) (SatE.ifb (fun _=>?_) (fun _=>SatE.ifb (fun _=>?_) (fun _=>SatE.ifb (fun _=>?_) (fun _=>?_))))
  ·obtain ⟨a1,a2⟩:=pk (p + 1) 2 (by omega) (by omega) (by omega)
   have hw : IntKind.i64.wrap (8 + pickV bs (p + 1) 2) = 8 + pickV bs (p + 1) 2:=Qbrg (by omega) (by omega)
   rw [hw]
   exact SatE.need (ps0 _ (by omega) (by omega)) (SatE.need (by rw [Bool.and_eq_true]; exact ⟨decide_eq_true (by simp),decide_eq_true (by omega)⟩) (SatE.need (by rw [rd0 _ (by omega) (by omega)]; rfl) (SatE.ret (Q395 hv (by omega) (by omega)))))
  ·exact SatE.need (ps0 _ (by omega) (by omega)) (SatE.ret (Q395 hv (by omega) (by omega)))
  ·have hi : inb (pickV bs (p + 1) 4) [(0 : Int),(-1 : Int),(1000000 : Int),(1000001 : Int)].length = true:=inbL (pk (p + 1) 4 (by omega) (by omega) (by omega))
   exact SatE.need (ps0 _ (by omega) (by omega)) (SatE.need hi (SatE.ret (Q395 hv (by omega) (by omega))))
  ·exact SatE.need (rd0 _ (by omega) (by omega)) (SatE.ret (Q395 (decide_eq_true (Nat.le_trans (Qgo3 (M:=100) (by rfl)) (by omega))) (by omega) (by omega)))
 obtain ⟨v',H',h,x,rfl,rfl,hx⟩:=hE
 unfold dSpC
 exact Qk78 (p:=fun x : ChgP=>Qewq Tryz.prog CP Qpj2 [.ptr 0 0,.agg [.str fl,.int .i64 w,.int .i64 n,.str v]] [.box [.sl .u8 bs,.int .i64 p]] (.agg [.str x.c.flight,.int .i64 x.c.what,.int .i64 x.c.number,.str x.c.value]) [.box [.sl .u8 bs,.int .i64 x.p]] ∧ Qi1t p x) ⟨x,h,hx⟩
theorem Q1qe (bs : List Int) (p : Int) (fl : Str) (w n : Int) (v : Str) (hg : spcK bs p v = true) : Qewq Tryz.prog CP Qpj2 [.ptr 0 0,.agg [.str fl,.int .i64 w,.int .i64 n,.str v]] [.box [.sl .u8 bs,.int .i64 p]] (.agg [.str (dSpC bs p ⟨fl,w,n,v⟩).c.flight,.int .i64 (dSpC bs p ⟨fl,w,n,v⟩).c.what,.int .i64 (dSpC bs p ⟨fl,w,n,v⟩).c.number,.str (dSpC bs p ⟨fl,w,n,v⟩).c.value]) [.box [.sl .u8 bs,.int .i64 (dSpC bs p ⟨fl,w,n,v⟩).p]]:=by
 exact (Qz1w bs p fl w n v hg).1
theorem Qie6 : EntOK Tryz.prog CP Qpj2 Qxsi:=by
 refine ⟨⟨Tryz.f91,by kernel_rfl,by kernel_rfl,by kernel_rfl⟩,fun args H res H' h=>?_⟩
 simp only [Qxsi] at h
 split at h
 ·simp only [Option.some.injEq,Prod.mk.injEq] at h
  obtain ⟨hg,rfl,rfl⟩:=h
  exact Q1qe _ _ _ _ _ _ hg
 ·cases h

noncomputable def Q08f : RE Ty El:=⟨Tryz.prog,CP,[],Tryz.f140,0,[],[(4,[(2,.any),(3,.any),(5,.any)]),(9,[(2,.any),(3,.any),(6,.any)])]⟩
theorem Qcbr : REOK Q08f Qq3w:=⟨CP_ok,Qye1,by kernel_rfl,by kernel_rfl⟩
theorem Q0nu (ks ks' : List Kind) (ps ps' : List Point) : aRun Q08f 600 false (body0 Q08f.fn) (Q4gm Q08f.fn [.agg [.sl .kind ks,.sl .point ps],.agg [.sl .kind ks',.sl .point ps']] []) =
 ifb ((↑ks.length : Int) != (↑ks'.length : Int)) (some (.ret (.bool false) [])) (ifb ((↑ps.length : Int) != (↑ps'.length : Int)) (some (.ret (.bool false) [])) (some (.go (Qu6t Q08f.fn 4) [.ptr 0 0,.ptr 1 0,.int .i64 (0 : Int)] [.box [.sl .kind ks,.sl .point ps],.box [.sl .kind ks',.sl .point ps']]))):=by kernel_rfl
theorem Qmrs (x0 : Int) (x1 : List (El .kind)) (x2 : List (El .point)) (x3 : List (El .kind)) (x4 : List (El .point)) : aRun Q08f 600 true (Qu6t Q08f.fn 4) (cutSt Q08f.fn (Q1m4 Q08f (Qu6t Q08f.fn 4)) [.ptr 0 0,.ptr 1 0,.int .i64 x0] [.box [.sl .kind x1,.sl .point x2],.box [.sl .kind x3,.sl .point x4]]) =
 ifb (decide (x0 < (↑x1.length : Int))) (ifb (inb x0 x1.length) (ifb (inb x0 x3.length) (ifb (!((x1.getD x0.toNat (Q08f.C.dflt Ty.kind)).name == (x3.getD x0.toNat (Q08f.C.dflt Ty.kind)).name && ((x1.getD x0.toNat (Q08f.C.dflt Ty.kind)).quick == (x3.getD x0.toNat (Q08f.C.dflt Ty.kind)).quick && ((x1.getD x0.toNat (Q08f.C.dflt Ty.kind)).slow == (x3.getD x0.toNat (Q08f.C.dflt Ty.kind)).slow && true)))) (some (.ret (.bool false) [])) (some (.go (Qu6t Q08f.fn 4) [.ptr 0 0,.ptr 1 0,.int .i64 (IntKind.i64.wrap (x0 + (1 : Int)))] [.box [.sl .kind x1,.sl .point x2],.box [.sl .kind x3,.sl .point x4]]))) (none)) (none)) (some (.go (Qu6t Q08f.fn 9) [.ptr 0 0,.ptr 1 0,.int .i64 (0 : Int)] [.box [.sl .kind x1,.sl .point x2],.box [.sl .kind x3,.sl .point x4]])):=by kernel_rfl
theorem Q0m7 (x0 : Int) (x1 : List (El .kind)) (x2 : List (El .point)) (x3 : List (El .kind)) (x4 : List (El .point)) : aRun Q08f 600 true (Qu6t Q08f.fn 9) (cutSt Q08f.fn (Q1m4 Q08f (Qu6t Q08f.fn 9)) [.ptr 0 0,.ptr 1 0,.int .i64 x0] [.box [.sl .kind x1,.sl .point x2],.box [.sl .kind x3,.sl .point x4]]) =
 ifb (decide (x0 < (↑x2.length : Int))) (ifb (inb x0 x2.length) (ifb (inb x0 x4.length) (ifb (!((x2.getD x0.toNat (Q08f.C.dflt Ty.point)).name == (x4.getD x0.toNat (Q08f.C.dflt Ty.point)).name && ((x2.getD x0.toNat (Q08f.C.dflt Ty.point)).x == (x4.getD x0.toNat (Q08f.C.dflt Ty.point)).x && ((x2.getD x0.toNat (Q08f.C.dflt Ty.point)).y == (x4.getD x0.toNat (Q08f.C.dflt Ty.point)).y && true)))) (some (.ret (.bool false) [])) (some (.go (Qu6t Q08f.fn 9) [.ptr 0 0,.ptr 1 0,.int .i64 (IntKind.i64.wrap (x0 + (1 : Int)))] [.box [.sl .kind x1,.sl .point x2],.box [.sl .kind x3,.sl .point x4]]))) (none)) (none)) (some (.ret (.bool true) [])):=by kernel_rfl
theorem Qfuj (ks : List Kind) (ps : List Point) (g1 : ks.length ≤ 1000000000) (g2 : ps.length ≤ 1000000000) : ∀ (d i : Nat),i + d = ps.length → Cut Q08f Qq3w 9 [.ptr 0 0,.ptr 1 0,.int .i64 (i : Int)] [.box [.sl .kind ks,.sl .point ps],.box [.sl .kind ks,.sl .point ps]] (.bool true) []:=by
 intro d
 induction d with
 | zero =>
  intro i hi
  refine Cut.of Qcbr rfl (Q0m7 i ks ps ks ps) ?_
  rw [show decide ((i : Int) < (ps.length : Int)) = false from decide_eq_false (by omega)]
  exact Sat.ret rfl rfl
 | succ d ih =>
  intro i hi
  refine Cut.of Qcbr rfl (Q0m7 i ks ps ks ps) ?_
  have hlt : i < ps.length:=by omega
  have hw : IntKind.wrap .i64 ((i : Int) + 1) = ((i + 1 : Nat) : Int):=by rw [Qbrg] <;> omega
  have hw1 : IntKind.wrap .i64 ((i : Int) - 1) = (i : Int) - 1:=by rw [Qbrg] <;> omega
  have hd : ps.drop i = ps[i] :: ps.drop (i + 1):=List.drop_eq_getElem_cons hlt
  have hx : ps.getD (i : Int).toNat (Q08f.C.dflt .point) = ps[i]:=by simp [hlt]
  have hin : inb (i : Int) ps.length = true:=by simp only [inb,Bool.and_eq_true,decide_eq_true_eq]; omega
  have hlo : decide ((i : Int) < (ps.length : Int)) = true:=decide_eq_true (by omega)
  have htk:=List.take_succ_eq_append_getElem hlt
  have hl : (ps.take (i + 1)).getLast? = some ps[i]:=by rw [List.take_succ_eq_append_getElem hlt,List.getLast?_concat]
  rw [hlo,hin,hx,hw]
  simp only [Qd8q,beq_self_eq_true,Bool.and_self,Bool.not_true,Qk7y]
  exact Sat.cut (ih (i + 1) (by omega))
theorem Q2g7 (ks : List Kind) (ps : List Point) (g1 : ks.length ≤ 1000000000) (g2 : ps.length ≤ 1000000000) : ∀ (d i : Nat),i + d = ks.length → Cut Q08f Qq3w 4 [.ptr 0 0,.ptr 1 0,.int .i64 (i : Int)] [.box [.sl .kind ks,.sl .point ps],.box [.sl .kind ks,.sl .point ps]] (.bool true) []:=by
 intro d
 induction d with
 | zero =>
  intro i hi
  refine Cut.of Qcbr rfl (Qmrs i ks ps ks ps) ?_
  rw [show decide ((i : Int) < (ks.length : Int)) = false from decide_eq_false (by omega)]
  exact Sat.cut (Qfuj ks ps g1 g2 ps.length 0 (by omega))
 | succ d ih =>
  intro i hi
  refine Cut.of Qcbr rfl (Qmrs i ks ps ks ps) ?_
  have hlt : i < ks.length:=by omega
  have hw : IntKind.wrap .i64 ((i : Int) + 1) = ((i + 1 : Nat) : Int):=by rw [Qbrg] <;> omega
  have hw1 : IntKind.wrap .i64 ((i : Int) - 1) = (i : Int) - 1:=by rw [Qbrg] <;> omega
  have hd : ks.drop i = ks[i] :: ks.drop (i + 1):=List.drop_eq_getElem_cons hlt
  have hx : ks.getD (i : Int).toNat (Q08f.C.dflt .kind) = ks[i]:=by simp [hlt]
  have hin : inb (i : Int) ks.length = true:=by simp only [inb,Bool.and_eq_true,decide_eq_true_eq]; omega
  have hlo : decide ((i : Int) < (ks.length : Int)) = true:=decide_eq_true (by omega)
  have htk:=List.take_succ_eq_append_getElem hlt
  have hl : (ks.take (i + 1)).getLast? = some ks[i]:=by rw [List.take_succ_eq_append_getElem hlt,List.getLast?_concat]
  rw [hlo,hin,hx,hw]
  simp only [Qd8q,beq_self_eq_true,Bool.and_self,Bool.not_true,Qk7y]
  exact Sat.cut (ih (i + 1) (by omega))

theorem Qbnm (ks ks' : List Kind) (ps ps' : List Point) (hg : sameK ks ks' ps ps' = true) : Qewq Tryz.prog CP Qq3w [.agg [.sl .kind ks,.sl .point ps],.agg [.sl .kind ks',.sl .point ps']] [] (.bool true) []:=by
 refine Qewq.of Qcbr (by kernel_rfl) (Q0nu ks ks' ps ps') ?_
 simp only [sameK,Bool.and_eq_true,decide_eq_true_eq] at hg
 obtain ⟨⟨g1,g2⟩,rfl,rfl⟩:=hg
 simp only [bne_self_eq_false,Qk7y]
 exact Sat.cut (Q2g7 ks ps g1 g2 ks.length 0 (by omega))
theorem Qvay : EntOK Tryz.prog CP Qq3w Qdkm:=by
 refine ⟨⟨Tryz.f140,by kernel_rfl,by kernel_rfl,by kernel_rfl⟩,fun args H res H' h=>?_⟩
 simp only [Qdkm] at h
 split at h
 ·simp only [Option.some.injEq,Prod.mk.injEq] at h
  obtain ⟨hg,rfl,rfl⟩:=h
  exact Qbnm _ _ _ _ hg
 ·cases h

noncomputable def Q0bx : RE Ty El:=⟨Tryz.prog,CP,[(Qq3w,Qdkm)],Tryz.f47,0,[],[(4,[(2,.any),(3,.any),(5,.any)]),(9,[(2,.any),(3,.any),(5,.any),(6,.any)])]⟩
theorem Q17e : REOK Q0bx Q5ho:=⟨CP_ok,(TabOK.cons Qvay Qye1),by kernel_rfl,by kernel_rfl⟩
theorem Q4xw (ks ks' : List Kind) (ps ps' : List Point) (es es' : List Entry) : aRun Q0bx 600 false (body0 Q0bx.fn) (Q4gm Q0bx.fn [.agg [.sl .kind ks,.sl .point ps,.sl .entry es],.agg [.sl .kind ks',.sl .point ps',.sl .entry es']] []) =
 ifb (sameK ks ks' ps ps') (ifb ((↑es.length : Int) != (↑es'.length : Int)) (some (.ret (.bool false) [])) (some (.go (Qu6t Q0bx.fn 4) [.ptr 0 0,.ptr 1 0,.int .i64 (0 : Int)] [.box [.sl .kind ks,.sl .point ps,.sl .entry es],.box [.sl .kind ks',.sl .point ps',.sl .entry es']]))) (none):=by kernel_rfl
theorem Qh8x (x0 : Int) (x1 : List (El .kind)) (x2 : List (El .point)) (x3 : List (El .entry)) (x4 : List (El .kind)) (x5 : List (El .point)) (x6 : List (El .entry)) : aRun Q0bx 600 true (Qu6t Q0bx.fn 4) (cutSt Q0bx.fn (Q1m4 Q0bx (Qu6t Q0bx.fn 4)) [.ptr 0 0,.ptr 1 0,.int .i64 x0] [.box [.sl .kind x1,.sl .point x2,.sl .entry x3],.box [.sl .kind x4,.sl .point x5,.sl .entry x6]]) =
 ifb (decide (x0 < (↑x3.length : Int))) (ifb (inb x0 x3.length) (ifb (inb x0 x6.length) (ifb (!(x3.getD x0.toNat (Q0bx.C.dflt Ty.entry)).name == (x6.getD x0.toNat (Q0bx.C.dflt Ty.entry)).name) (some (.ret (.bool false) [])) (ifb (inb x0 x3.length) (ifb (inb x0 x6.length) (ifb ((↑(x3.getD x0.toNat (Q0bx.C.dflt Ty.entry)).fields.length : Int) != (↑(x6.getD x0.toNat (Q0bx.C.dflt Ty.entry)).fields.length : Int)) (some (.ret (.bool false) [])) (some (.go (Qu6t Q0bx.fn 9) [.ptr 0 0,.ptr 1 0,.int .i64 x0,.int .i64 (0 : Int)] [.box [.sl .kind x1,.sl .point x2,.sl .entry x3],.box [.sl .kind x4,.sl .point x5,.sl .entry x6]]))) (none)) (none))) (none)) (none)) (some (.ret (.bool true) [])):=by kernel_rfl
theorem Qlhg (x0 : Int) (x1 : Int) (x2 : List (El .kind)) (x3 : List (El .point)) (x4 : List (El .entry)) (x5 : List (El .kind)) (x6 : List (El .point)) (x7 : List (El .entry)) : aRun Q0bx 600 true (Qu6t Q0bx.fn 9) (cutSt Q0bx.fn (Q1m4 Q0bx (Qu6t Q0bx.fn 9)) [.ptr 0 0,.ptr 1 0,.int .i64 x0,.int .i64 x1] [.box [.sl .kind x2,.sl .point x3,.sl .entry x4],.box [.sl .kind x5,.sl .point x6,.sl .entry x7]]) =
 ifb (inb x0 x4.length) (ifb (decide (x1 < (↑(x4.getD x0.toNat (Q0bx.C.dflt Ty.entry)).fields.length : Int))) (ifb (inb x0 x4.length) (ifb (inb x1 (x4.getD x0.toNat (Q0bx.C.dflt Ty.entry)).fields.length) (ifb (inb x0 x7.length) (ifb (inb x1 (x7.getD x0.toNat (Q0bx.C.dflt Ty.entry)).fields.length) (ifb (!(((x4.getD x0.toNat (Q0bx.C.dflt Ty.entry)).fields.getD x1.toNat (Q0bx.C.dflt Ty.fld)).what == ((x7.getD x0.toNat (Q0bx.C.dflt Ty.entry)).fields.getD x1.toNat (Q0bx.C.dflt Ty.fld)).what && (((x4.getD x0.toNat (Q0bx.C.dflt Ty.entry)).fields.getD x1.toNat (Q0bx.C.dflt Ty.fld)).number == ((x7.getD x0.toNat (Q0bx.C.dflt Ty.entry)).fields.getD x1.toNat (Q0bx.C.dflt Ty.fld)).number && (((x4.getD x0.toNat (Q0bx.C.dflt Ty.entry)).fields.getD x1.toNat (Q0bx.C.dflt Ty.fld)).value == ((x7.getD x0.toNat (Q0bx.C.dflt Ty.entry)).fields.getD x1.toNat (Q0bx.C.dflt Ty.fld)).value && true)))) (some (.ret (.bool false) [])) (some (.go (Qu6t Q0bx.fn 9) [.ptr 0 0,.ptr 1 0,.int .i64 x0,.int .i64 (IntKind.i64.wrap (x1 + (1 : Int)))] [.box [.sl .kind x2,.sl .point x3,.sl .entry x4],.box [.sl .kind x5,.sl .point x6,.sl .entry x7]]))) (none)) (none)) (none)) (none)) (some (.go (Qu6t Q0bx.fn 4) [.ptr 0 0,.ptr 1 0,.int .i64 (IntKind.i64.wrap (x0 + (1 : Int)))] [.box [.sl .kind x2,.sl .point x3,.sl .entry x4],.box [.sl .kind x5,.sl .point x6,.sl .entry x7]]))) (none):=by kernel_rfl
theorem Qdqt (ks : List Kind) (ps : List Point) (es : List Entry) (i : Nat) (hlt : i < es.length) (g5 : es[i].fields.length ≤ 1000000000) (g3 : es.length ≤ 1000000000) (nx : Cut Q0bx Q5ho 4 [.ptr 0 0,.ptr 1 0,.int .i64 ((i + 1 : Nat) : Int)] [.box [.sl .kind ks,.sl .point ps,.sl .entry es],.box [.sl .kind ks,.sl .point ps,.sl .entry es]] (.bool true) []) : ∀ (d k : Nat),k + d = es[i].fields.length → Cut Q0bx Q5ho 9 [.ptr 0 0,.ptr 1 0,.int .i64 (i : Int),.int .i64 (k : Int)] [.box [.sl .kind ks,.sl .point ps,.sl .entry es],.box [.sl .kind ks,.sl .point ps,.sl .entry es]] (.bool true) []:=by
 have hxe : es.getD (i : Int).toNat (Q0bx.C.dflt .entry) = es[i]:=by simp [hlt]
 have hie : inb (i : Int) es.length = true:=by simp only [inb,Bool.and_eq_true,decide_eq_true_eq]; omega
 have hwe : IntKind.wrap .i64 ((i : Int) + 1) = ((i + 1 : Nat) : Int):=by rw [Qbrg] <;> omega
 intro d
 induction d with
 | zero =>
  intro k hk
  refine Cut.of Q17e rfl (Qlhg i k ks ps es ks ps es) ?_
  rw [hxe,hie,hwe,show decide ((k : Int) < (es[i].fields.length : Int)) = false from decide_eq_false (by omega)]
  exact Sat.cut nx
 | succ d ih =>
  intro k hk
  refine Cut.of Q17e rfl (Qlhg i k ks ps es ks ps es) ?_
  have n2:=ih (k + 1) (by omega)
  rw [hxe,hie]
  generalize es[i].fields = l at *
  have hlt2 : k < l.length:=by omega
  have hw2 : IntKind.wrap .i64 ((k : Int) + 1) = ((k + 1 : Nat) : Int):=by rw [Qbrg] <;> omega
  have hw12 : IntKind.wrap .i64 ((k : Int) - 1) = (k : Int) - 1:=by rw [Qbrg] <;> omega
  have hd2 : l.drop k = l[k] :: l.drop (k + 1):=List.drop_eq_getElem_cons hlt2
  have hx2 : l.getD (k : Int).toNat (Q0bx.C.dflt .fld) = l[k]:=by simp [hlt2]
  have hin2 : inb (k : Int) l.length = true:=by simp only [inb,Bool.and_eq_true,decide_eq_true_eq]; omega
  have hlo2 : decide ((k : Int) < (l.length : Int)) = true:=decide_eq_true (by omega)
  have htk2:=List.take_succ_eq_append_getElem hlt2
  have hl2 : (l.take (k + 1)).getLast? = some l[k]:=by rw [List.take_succ_eq_append_getElem hlt2,List.getLast?_concat]
  rw [hlo2,hin2,hx2,hw2]
  simp only [Qd8q,beq_self_eq_true,Bool.and_self,Bool.not_true,Qk7y]
  exact Sat.cut n2
theorem Q6me (ks : List Kind) (ps : List Point) (es : List Entry) (g3 : es.length ≤ 1000000000) (g4 : es.all (fun z : Entry=>Qytc z.name z.fields) = true) : ∀ (d i : Nat),i + d = es.length → Cut Q0bx Q5ho 4 [.ptr 0 0,.ptr 1 0,.int .i64 (i : Int)] [.box [.sl .kind ks,.sl .point ps,.sl .entry es],.box [.sl .kind ks,.sl .point ps,.sl .entry es]] (.bool true) []:=by
 intro d
 induction d with
 | zero =>
  intro i hi
  refine Cut.of Q17e rfl (Qh8x i ks ps es ks ps es) ?_
  rw [show decide ((i : Int) < (es.length : Int)) = false from decide_eq_false (by omega)]
  exact Sat.ret rfl rfl
 | succ d ih =>
  intro i hi
  refine Cut.of Q17e rfl (Qh8x i ks ps es ks ps es) ?_
  have hlt : i < es.length:=by omega
  have hw : IntKind.wrap .i64 ((i : Int) + 1) = ((i + 1 : Nat) : Int):=by rw [Qbrg] <;> omega
  have hw1 : IntKind.wrap .i64 ((i : Int) - 1) = (i : Int) - 1:=by rw [Qbrg] <;> omega
  have hd : es.drop i = es[i] :: es.drop (i + 1):=List.drop_eq_getElem_cons hlt
  have hx : es.getD (i : Int).toNat (Q0bx.C.dflt .entry) = es[i]:=by simp [hlt]
  have hin : inb (i : Int) es.length = true:=by simp only [inb,Bool.and_eq_true,decide_eq_true_eq]; omega
  have hlo : decide ((i : Int) < (es.length : Int)) = true:=decide_eq_true (by omega)
  have htk:=List.take_succ_eq_append_getElem hlt
  have hl : (es.take (i + 1)).getLast? = some es[i]:=by rw [List.take_succ_eq_append_getElem hlt,List.getLast?_concat]
  have hz:=List.all_eq_true.1 g4 es[i] (List.getElem_mem hlt)
  simp only [Qytc,Qckx,Bool.and_true,decide_eq_true_eq] at hz
  rw [hlo,hin,hx]
  simp only [Qd8q,beq_self_eq_true,Bool.not_true,Qk7y,bne_self_eq_false]
  exact Sat.cut (Qdqt ks ps es i hlt hz g3 (ih (i + 1) (by omega)) es[i].fields.length 0 (by omega))
theorem Qyae (ks ks' : List Kind) (ps ps' : List Point) (es es' : List Entry) (hg : Q2xe ks ks' ps ps' es es' = true) : Qewq Tryz.prog CP Q5ho [.agg [.sl .kind ks,.sl .point ps,.sl .entry es],.agg [.sl .kind ks',.sl .point ps',.sl .entry es']] [] (.bool true) []:=by
 refine Qewq.of Q17e (by kernel_rfl) (Q4xw ks ks' ps ps' es es') ?_
 simp only [Q2xe,Bool.and_eq_true,decide_eq_true_eq] at hg
 obtain ⟨h1,h2,rfl⟩:=hg
 rw [h1]
 simp only [sameK,Bool.and_eq_true,decide_eq_true_eq] at h1
 obtain ⟨_,rfl,rfl⟩:=h1
 simp only [Qnwa,Bool.and_eq_true,decide_eq_true_eq] at h2
 simp only [bne_self_eq_false,Qk7y,Qd8q]
 exact Sat.cut (Q6me ks ps es h2.1 h2.2 es.length 0 (by omega))
theorem Qzjt (ks : List Kind) (ps : List Point) (es : List Entry) (hg : Q2xe ks [] ps [] es [] = true) : Qewq Tryz.prog CP Q5ho [.agg [.sl .kind ks,.sl .point ps,.sl .entry es],.agg [.nils,.nils,.nils]] [] (.bool true) []:=by
 refine (Qyae ks [] ps [] es [] hg).args rfl (fun j x x' h1 h2 N w v h=>?_)
 match j with
 | 0=>simp only [List.getElem?_cons_zero,Option.some.injEq] at h1 h2; subst h1; subst h2; exact h
 | 1 =>
  simp only [List.getElem?_cons_succ,List.getElem?_cons_zero,Option.some.injEq] at h1 h2; subst h1; subst h2
  refine RepA.aggMono (cs:=[.nils,.nils,.nils]) (ds:=[.sl .kind [],.sl .point [],.sl .entry []]) rfl (fun i c' d' e1 e2 u hu=>?_) h
  match i with
  | 0=>simp only [List.getElem?_cons_zero,Option.some.injEq] at e1 e2; subst e1; subst e2; exact hu.nilSl Ty.kind
  | 1=>simp only [List.getElem?_cons_succ,List.getElem?_cons_zero,Option.some.injEq] at e1 e2; subst e1; subst e2; exact hu.nilSl Ty.point
  | 2=>simp only [List.getElem?_cons_succ,List.getElem?_cons_zero,Option.some.injEq] at e1 e2; subst e1; subst e2; exact hu.nilSl Ty.entry
  | i + 3=>simp at e1
 | j + 2=>simp at h1
theorem Qxl3 : EntOK Tryz.prog CP Q5ho Qz24:=by
 refine ⟨⟨Tryz.f47,by kernel_rfl,by kernel_rfl,by kernel_rfl⟩,fun args H res H' h=>?_⟩
 simp only [Qz24] at h
 split at h
 ·simp only [Option.some.injEq,Prod.mk.injEq] at h
  obtain ⟨hg,rfl,rfl⟩:=h
  exact Qyae _ _ _ _ _ _ hg
 ·simp only [Option.some.injEq,Prod.mk.injEq] at h
  obtain ⟨hg,rfl,rfl⟩:=h
  exact Qzjt _ _ _ hg
 ·cases h

end Lx
namespace Lx
open Go Go.Proofs
structure TkD where
 ks : List Kind
 ps : List Point
 es : List Entry
 c : Chg
 deriving Inhabited
end Lx
namespace Lx
open Go Go.Proofs
end Lx
namespace Lx
open Go Go.Proofs
def wsGo : Int → List Fld → Bool
 | n,[]=>n == 4
 | n,f :: l=>if f.what < 5 then wsGo (n + 1) l else if f.value = Qupw then false else wsGo n l
def Qwu1 : Ent Ty El:=⟨[.ro],0,fun a h=>match a,h with
 | [.agg [.str n,.sl .fld l]],[]=>some (Qckx l,.bool (wsGo 0 l),[])
 | _,_=>none⟩
def Q2m5 : Ent Ty El:=⟨[.ro,.ro],0,fun a h=>match a,h with
 | [.sl .int l,.sl .int m],[]=>some (decide (l.length ≤ 1000000000) && decide (l = m),.bool true,[])
 | _,_=>none⟩
def Q7nz : Ent Ty El:=⟨[.ro,.ro],0,fun a h=>match a,h with
 | [.agg [.str n,.str k,.int .i64 q,.int .i64 s,.int .i64 f,.int .i64 b,.int .i64 l,.sl .str r],.agg [.str n',.str k',.int .i64 q',.int .i64 s',.int .i64 f',.int .i64 b',.int .i64 l',.sl .str r']],[] =>
  some (decide (r.length ≤ 2000000000) && decide ((⟨n,⟨k,q,s⟩,f,b,l,r⟩ : Flight) = ⟨n',⟨k',q',s'⟩,f',b',l',r'⟩),.bool true,[])
 | _,_=>none⟩
def allF (ks : List Kind) (ps : List Point) (es : List Entry) (zs : List Entry) : List Flight:=zs.filterMap fun e=>stB ks ps es e.name
def Qvex : Ent Ty El:=⟨[.ro],0,fun a h=>match a,h with
 | [.agg [.sl .kind ks,.sl .point ps,.sl .entry es]],[]=>some (szB es && (decide (es.length < 1000000000) && Qn0o ks ps es),.sl .flight (allF ks ps es es),[])
 | _,_=>none⟩
end Lx
namespace Lx
open Go Go.Proofs
noncomputable def Qmhf : RE Ty El:=⟨Tryz.prog,CP,[],Tryz.f66,0,[],[(3,[(1,.any),(3,.any),(4,.any)])]⟩
theorem Qgbc : REOK Qmhf Qtik:=⟨CP_ok,Qye1,by kernel_rfl,by kernel_rfl⟩
theorem Qjxz (n : Str) (l : List Fld) : aRun Qmhf 600 false (body0 Qmhf.fn) (Q4gm Qmhf.fn [.agg [.str n,.sl .fld l]] []) =
 some (.go (Qu6t Qmhf.fn 3) [.ptr 0 0,.int .i64 (0 : Int),.int .i64 (0 : Int)] [.box [.str n,.sl .fld l]]):=by kernel_rfl
theorem Qya2 (x0 : Int) (x1 : Int) (x2 : Str) (x3 : List (El .fld)) : aRun Qmhf 600 true (Qu6t Qmhf.fn 3) (cutSt Qmhf.fn (Q1m4 Qmhf (Qu6t Qmhf.fn 3)) [.ptr 0 0,.int .i64 x0,.int .i64 x1] [.box [.str x2,.sl .fld x3]]) =
 ifb (decide (x1 < (↑x3.length : Int))) (ifb (inb x1 x3.length) (ifb (decide ((x3.getD x1.toNat (Qmhf.C.dflt Ty.fld)).what < (5 : Int))) (some (.go (Qu6t Qmhf.fn 3) [.ptr 0 0,.int .i64 (IntKind.i64.wrap (x0 + (1 : Int))),.int .i64 (IntKind.i64.wrap (x1 + (1 : Int)))] [.box [.str x2,.sl .fld x3]])) (ifb (inb x1 x3.length) (ifb ((x3.getD x1.toNat (Qmhf.C.dflt Ty.fld)).value == #[(99 : UInt8),(108 : UInt8),(111 : UInt8),(115 : UInt8),(101 : UInt8),(100 : UInt8)].toList) (some (.ret (.bool false) [])) (some (.go (Qu6t Qmhf.fn 3) [.ptr 0 0,.int .i64 x0,.int .i64 (IntKind.i64.wrap (x1 + (1 : Int)))] [.box [.str x2,.sl .fld x3]]))) (none))) (none)) (some (.ret (.bool (x0 == (4 : Int))) [])):=by kernel_rfl
theorem Qjhz (nm : Str) (l : List Fld) (g0 : l.length ≤ 1000000000) : ∀ (d i : Nat) (n : Int),i + d = l.length → 0 ≤ n → n ≤ i → Cut Qmhf Qtik 3 [.ptr 0 0,.int .i64 n,.int .i64 (i : Int)] [.box [.str nm,.sl .fld l]] (.bool (wsGo n (l.drop i))) []:=by
 intro d
 induction d with
 | zero =>
  intro i n hi h0 h1
  refine Cut.of Qgbc rfl (Qya2 n i nm l) ?_
  rw [show decide ((i : Int) < (l.length : Int)) = false from decide_eq_false (by omega),List.drop_of_length_le (by omega)]
  exact Sat.ret rfl rfl
 | succ d ih =>
  intro i n hi h0 h1
  refine Cut.of Qgbc rfl (Qya2 n i nm l) ?_
  have hlt : i < l.length:=by omega
  have hw : IntKind.wrap .i64 ((i : Int) + 1) = ((i + 1 : Nat) : Int):=by rw [Qbrg] <;> omega
  have hw1 : IntKind.wrap .i64 ((i : Int) - 1) = (i : Int) - 1:=by rw [Qbrg] <;> omega
  have hd : l.drop i = l[i] :: l.drop (i + 1):=List.drop_eq_getElem_cons hlt
  have hx : l.getD (i : Int).toNat (Qmhf.C.dflt .fld) = l[i]:=by simp [hlt]
  have hin : inb (i : Int) l.length = true:=by simp only [inb,Bool.and_eq_true,decide_eq_true_eq]; omega
  have hlo : decide ((i : Int) < (l.length : Int)) = true:=decide_eq_true (by omega)
  have htk:=List.take_succ_eq_append_getElem hlt
  have hl : (l.take (i + 1)).getLast? = some l[i]:=by rw [List.take_succ_eq_append_getElem hlt,List.getLast?_concat]
  have hwn : IntKind.wrap .i64 (n + 1) = n + 1:=Qbrg (by omega) (by omega)
  rw [hlo,hin,hx,hw,hwn,hd,wsGo]
  simp only [Qd8q]
  by_cases h5 : l[i].what < 5
  ·rw [decide_eq_true h5,if_pos h5]
   simp only [Qd8q]
   exact Sat.cut (ih (i + 1) (n + 1) (by omega) (by omega) (by omega))
  ·rw [decide_eq_false h5,if_neg h5]
   simp only [Qk7y]
   refine Sat.ifb (fun h=>?_) (fun h=>?_)
   ·have h' : l[i].value = Qupw:=by simpa [Qupw] using h
    rw [if_pos h']; exact Sat.ret rfl rfl
   ·have h' : ¬ l[i].value = Qupw:=by simpa [Qupw] using h
    rw [if_neg h']
    exact Sat.cut (ih (i + 1) n (by omega) (by omega) (by omega))
theorem Q5yd (n : Str) (l : List Fld) (hg : Qckx l = true) : Qewq Tryz.prog CP Qtik [.agg [.str n,.sl .fld l]] [] (.bool (wsGo 0 l)) []:=by
 refine Qewq.of Qgbc (by kernel_rfl) (Qjxz n l) ?_
 simp only [Qckx,Bool.and_true,decide_eq_true_eq] at hg
 exact Sat.cut (Qjhz n l hg l.length 0 0 (by omega) (by omega) (by omega))
theorem Qmcf : EntOK Tryz.prog CP Qtik Qwu1:=by
 refine ⟨⟨Tryz.f66,by kernel_rfl,by kernel_rfl,by kernel_rfl⟩,fun args H res H' h=>?_⟩
 simp only [Qwu1] at h
 split at h
 ·simp only [Option.some.injEq,Prod.mk.injEq] at h
  obtain ⟨hg,rfl,rfl⟩:=h
  exact Q5yd _ _ hg
 ·cases h

noncomputable def Qftz : RE Ty El:=⟨Tryz.prog,CP,[],Tryz.f64,0,[],[(4,[(0,.any),(1,.any),(5,.any)])]⟩
theorem Q5za : REOK Qftz Qscj:=⟨CP_ok,Qye1,by kernel_rfl,by kernel_rfl⟩
theorem Q60k (l m : List Int) : aRun Qftz 600 false (body0 Qftz.fn) (Q4gm Qftz.fn [.sl .int l,.sl .int m] []) =
 ifb ((↑l.length : Int) != (↑m.length : Int)) (some (.ret (.bool false) [])) (some (.go (Qu6t Qftz.fn 4) [.sl .int l,.sl .int m,.int .i64 (0 : Int)] [])):=by kernel_rfl
theorem Qw07 (x0 : List (El .int)) (x1 : List (El .int)) (x2 : Int) : aRun Qftz 600 true (Qu6t Qftz.fn 4) (cutSt Qftz.fn (Q1m4 Qftz (Qu6t Qftz.fn 4)) [.sl .int x0,.sl .int x1,.int .i64 x2] []) =
 ifb (decide (x2 < (↑x0.length : Int))) (ifb (inb x2 x0.length) (ifb (inb x2 x1.length) (ifb (x0.getD x2.toNat (Qftz.C.dflt Ty.int) != x1.getD x2.toNat (Qftz.C.dflt Ty.int)) (some (.ret (.bool false) [])) (some (.go (Qu6t Qftz.fn 4) [.sl .int x0,.sl .int x1,.int .i64 (IntKind.i64.wrap (x2 + (1 : Int)))] []))) (none)) (none)) (some (.ret (.bool true) [])):=by kernel_rfl
theorem Qq2q (l : List Int) (g0 : l.length ≤ 1000000000) : ∀ (d i : Nat),i + d = l.length → Cut Qftz Qscj 4 [.sl .int l,.sl .int l,.int .i64 (i : Int)] [] (.bool true) []:=by
 intro d
 induction d with
 | zero =>
  intro i hi
  refine Cut.of Q5za rfl (Qw07 l l i) ?_
  rw [show decide ((i : Int) < (l.length : Int)) = false from decide_eq_false (by omega)]
  exact Sat.ret rfl rfl
 | succ d ih =>
  intro i hi
  refine Cut.of Q5za rfl (Qw07 l l i) ?_
  have hlt : i < l.length:=by omega
  have hw : IntKind.wrap .i64 ((i : Int) + 1) = ((i + 1 : Nat) : Int):=by rw [Qbrg] <;> omega
  have hw1 : IntKind.wrap .i64 ((i : Int) - 1) = (i : Int) - 1:=by rw [Qbrg] <;> omega
  have hd : l.drop i = l[i] :: l.drop (i + 1):=List.drop_eq_getElem_cons hlt
  have hx : l.getD (i : Int).toNat (Qftz.C.dflt .int) = l[i]:=by simp [hlt]
  have hin : inb (i : Int) l.length = true:=by simp only [inb,Bool.and_eq_true,decide_eq_true_eq]; omega
  have hlo : decide ((i : Int) < (l.length : Int)) = true:=decide_eq_true (by omega)
  have htk:=List.take_succ_eq_append_getElem hlt
  have hl : (l.take (i + 1)).getLast? = some l[i]:=by rw [List.take_succ_eq_append_getElem hlt,List.getLast?_concat]
  rw [hlo,hin,hw]
  simp only [Qd8q,bne_self_eq_false,Qk7y]
  exact Sat.cut (ih (i + 1) (by omega))
theorem Q9bf (l m : List Int) (hg : (decide (l.length ≤ 1000000000) && decide (l = m)) = true) : Qewq Tryz.prog CP Qscj [.sl .int l,.sl .int m] [] (.bool true) []:=by
 refine Qewq.of Q5za (by kernel_rfl) (Q60k l m) ?_
 simp only [Bool.and_eq_true,decide_eq_true_eq] at hg
 obtain ⟨g0,rfl⟩:=hg
 simp only [bne_self_eq_false,Qk7y]
 exact Sat.cut (Qq2q l g0 l.length 0 (by omega))
theorem Qygd : EntOK Tryz.prog CP Qscj Q2m5:=by
 refine ⟨⟨Tryz.f64,by kernel_rfl,by kernel_rfl,by kernel_rfl⟩,fun args H res H' h=>?_⟩
 simp only [Q2m5] at h
 split at h
 ·simp only [Option.some.injEq,Prod.mk.injEq] at h
  obtain ⟨hg,rfl,rfl⟩:=h
  exact Q9bf _ _ hg
 ·cases h

noncomputable def Qd10 : RE Ty El:=⟨Tryz.prog,CP,[],Tryz.f67,0,[],[(4,[(2,.any),(3,.any),(5,.any)])]⟩
theorem Q3w6 : REOK Qd10 Qsoo:=⟨CP_ok,Qye1,by kernel_rfl,by kernel_rfl⟩
theorem Qoc8 (n k n' k' : Str) (q s f b l q' s' f' b' l' : Int) (r r' : List Str) : aRun Qd10 600 false (body0 Qd10.fn) (Q4gm Qd10.fn [.agg [.str n,.str k,.int .i64 q,.int .i64 s,.int .i64 f,.int .i64 b,.int .i64 l,.sl .str r],.agg [.str n',.str k',.int .i64 q',.int .i64 s',.int .i64 f',.int .i64 b',.int .i64 l',.sl .str r']] []) =
 ifb (!n == n') (some (.ret (.bool false) [])) (ifb (!(k == k' && (q == q' && (s == s' && true)))) (some (.ret (.bool false) [])) (ifb (f != f') (some (.ret (.bool false) [])) (ifb (b != b') (some (.ret (.bool false) [])) (ifb (l != l') (some (.ret (.bool false) [])) (ifb ((↑r.length : Int) != (↑r'.length : Int)) (some (.ret (.bool false) [])) (some (.go (Qu6t Qd10.fn 4) [.ptr 0 0,.ptr 1 0,.int .i64 (0 : Int)] [.box [.str n,.str k,.int .i64 q,.int .i64 s,.int .i64 f,.int .i64 b,.int .i64 l,.sl .str r],.box [.str n',.str k',.int .i64 q',.int .i64 s',.int .i64 f',.int .i64 b',.int .i64 l',.sl .str r']]))))))):=by kernel_rfl
theorem Qhns (x0 : Int) (x1 : Str) (x2 : Str) (x3 : Int) (x4 : Int) (x5 : Int) (x6 : Int) (x7 : Int) (x8 : List (El .str)) (x9 : Str) (x10 : Str) (x11 : Int) (x12 : Int) (x13 : Int) (x14 : Int) (x15 : Int) (x16 : List (El .str)) : aRun Qd10 600 true (Qu6t Qd10.fn 4) (cutSt Qd10.fn (Q1m4 Qd10 (Qu6t Qd10.fn 4)) [.ptr 0 0,.ptr 1 0,.int .i64 x0] [.box [.str x1,.str x2,.int .i64 x3,.int .i64 x4,.int .i64 x5,.int .i64 x6,.int .i64 x7,.sl .str x8],.box [.str x9,.str x10,.int .i64 x11,.int .i64 x12,.int .i64 x13,.int .i64 x14,.int .i64 x15,.sl .str x16]]) =
 ifb (decide (x0 < (↑x8.length : Int))) (ifb (inb x0 x8.length) (ifb (inb x0 x16.length) (ifb (!x8.getD x0.toNat (Qd10.C.dflt Ty.str) == x16.getD x0.toNat (Qd10.C.dflt Ty.str)) (some (.ret (.bool false) [])) (some (.go (Qu6t Qd10.fn 4) [.ptr 0 0,.ptr 1 0,.int .i64 (IntKind.i64.wrap (x0 + (1 : Int)))] [.box [.str x1,.str x2,.int .i64 x3,.int .i64 x4,.int .i64 x5,.int .i64 x6,.int .i64 x7,.sl .str x8],.box [.str x9,.str x10,.int .i64 x11,.int .i64 x12,.int .i64 x13,.int .i64 x14,.int .i64 x15,.sl .str x16]]))) (none)) (none)) (some (.ret (.bool true) [])):=by kernel_rfl
theorem Qtdl (n k : Str) (q s f b l : Int) (r : List Str) (g0 : r.length ≤ 2000000000) : ∀ (d i : Nat),i + d = r.length → Cut Qd10 Qsoo 4 [.ptr 0 0,.ptr 1 0,.int .i64 (i : Int)] [.box [.str n,.str k,.int .i64 q,.int .i64 s,.int .i64 f,.int .i64 b,.int .i64 l,.sl .str r],.box [.str n,.str k,.int .i64 q,.int .i64 s,.int .i64 f,.int .i64 b,.int .i64 l,.sl .str r]] (.bool true) []:=by
 intro d
 induction d with
 | zero =>
  intro i hi
  refine Cut.of Q3w6 rfl (Qhns i n k q s f b l r n k q s f b l r) ?_
  rw [show decide ((i : Int) < (r.length : Int)) = false from decide_eq_false (by omega)]
  exact Sat.ret rfl rfl
 | succ d ih =>
  intro i hi
  refine Cut.of Q3w6 rfl (Qhns i n k q s f b l r n k q s f b l r) ?_
  have hlt : i < r.length:=by omega
  have hw : IntKind.wrap .i64 ((i : Int) + 1) = ((i + 1 : Nat) : Int):=by rw [Qbrg] <;> omega
  have hw1 : IntKind.wrap .i64 ((i : Int) - 1) = (i : Int) - 1:=by rw [Qbrg] <;> omega
  have hd : r.drop i = r[i] :: r.drop (i + 1):=List.drop_eq_getElem_cons hlt
  have hx : r.getD (i : Int).toNat (Qd10.C.dflt .str) = r[i]:=by simp [hlt]
  have hin : inb (i : Int) r.length = true:=by simp only [inb,Bool.and_eq_true,decide_eq_true_eq]; omega
  have hlo : decide ((i : Int) < (r.length : Int)) = true:=decide_eq_true (by omega)
  have htk:=List.take_succ_eq_append_getElem hlt
  have hl : (r.take (i + 1)).getLast? = some r[i]:=by rw [List.take_succ_eq_append_getElem hlt,List.getLast?_concat]
  rw [hlo,hin,hw]
  simp only [Qd8q,beq_self_eq_true,Bool.not_true,Qk7y]
  exact Sat.cut (ih (i + 1) (by omega))
theorem Q7es (n k n' k' : Str) (q s f b l q' s' f' b' l' : Int) (r r' : List Str) (hg : (decide (r.length ≤ 2000000000) && decide ((⟨n,⟨k,q,s⟩,f,b,l,r⟩ : Flight) = ⟨n',⟨k',q',s'⟩,f',b',l',r'⟩)) = true) : Qewq Tryz.prog CP Qsoo [.agg [.str n,.str k,.int .i64 q,.int .i64 s,.int .i64 f,.int .i64 b,.int .i64 l,.sl .str r],.agg [.str n',.str k',.int .i64 q',.int .i64 s',.int .i64 f',.int .i64 b',.int .i64 l',.sl .str r']] [] (.bool true) []:=by
 refine Qewq.of Q3w6 (by kernel_rfl) (Qoc8 n k n' k' q s f b l q' s' f' b' l' r r') ?_
 simp only [Bool.and_eq_true,decide_eq_true_eq,Flight.mk.injEq,Kind.mk.injEq] at hg
 obtain ⟨g0,rfl,⟨rfl,rfl,rfl⟩,rfl,rfl,rfl,rfl⟩:=hg
 simp only [bne_self_eq_false,Qk7y,beq_self_eq_true,Bool.not_true,Bool.and_self]
 exact Sat.cut (Qtdl n k q s f b l r g0 r.length 0 (by omega))
theorem Qqb0 : EntOK Tryz.prog CP Qsoo Q7nz:=by
 refine ⟨⟨Tryz.f67,by kernel_rfl,by kernel_rfl,by kernel_rfl⟩,fun args H res H' h=>?_⟩
 simp only [Q7nz] at h
 split at h
 ·simp only [Option.some.injEq,Prod.mk.injEq] at h
  obtain ⟨hg,rfl,rfl⟩:=h
  exact Q7es _ _ _ _ _ _ _ _ _ _ _ _ _ _ _ _ hg
 ·cases h

noncomputable def Qf9g : RE Ty El:=⟨Tryz.prog,CP,[(Qaev,Qjv4),(Qcq6,Qnor)],Tryz.f65,0,[.ro .flight],[(5,[(1,.any),(3,.any),(12,.any),(13,.any),(14,.any)])]⟩
theorem Qm37 : REOK Qf9g Qfp7:=⟨CP_ok,(TabOK.cons Qwza (TabOK.cons Qyj8 Qye1)),by kernel_rfl,by kernel_rfl⟩
theorem Qs9v (ks : List Kind) (ps : List Point) (es : List Entry) : aRun Qf9g 600 false (body0 Qf9g.fn) (Q4gm Qf9g.fn [.agg [.sl .kind ks,.sl .point ps,.sl .entry es]] []) =
 ifb (szB es) (ifb (!Qn0o ks ps es) (some (.ret (.sl .flight []) [])) (some (.go (Qu6t Qf9g.fn 5) [.ptr 0 0,.own 1 [] 0,.sl .entry es,.int .i64 (↑es.length : Int),.int .i64 (0 : Int)] [.box [.sl .kind ks,.sl .point ps,.sl .entry es],.row .flight [] 1 0 0 .no]))) (none):=by kernel_rfl
theorem Qomt (x0 : List (El .entry)) (x1 : Int) (x2 : Int) (x3 : List (El .kind)) (x4 : List (El .point)) (x5 : List (El .entry)) (x6 : List (El .flight)) : aRun Qf9g 600 true (Qu6t Qf9g.fn 5) (cutSt Qf9g.fn (Q1m4 Qf9g (Qu6t Qf9g.fn 5)) [.ptr 0 0,.own 1 [] 0,.sl .entry x0,.int .i64 x1,.int .i64 x2] [.box [.sl .kind x3,.sl .point x4,.sl .entry x5],.row .flight x6 0 0 0 .no]) =
 ifb (decide (x2 < x1)) (ifb (inb x2 x0.length) (ifb (szB x5 && Qn0o x3 x4 x5) (ifb ((stB x3 x4 x5 (x0.getD x2.toNat (Qf9g.C.dflt Ty.entry)).name).isSome) (ifb (decide ((x6.length + [(stB x3 x4 x5 (x0.getD x2.toNat (Qf9g.C.dflt Ty.entry)).name).getD fl0].length) * Qbhn Qf9g.P (43 : Nat) ≤ (140737488355328 : Nat))) (some (.go (Qu6t Qf9g.fn 5) [.ptr 0 0,.own 1 [] 0,.sl .entry x0,.int .i64 x1,.int .i64 (IntKind.i64.wrap (x2 + (1 : Int)))] [.box [.sl .kind x3,.sl .point x4,.sl .entry x5],.row .flight (x6 ++ [(stB x3 x4 x5 (x0.getD x2.toNat (Qf9g.C.dflt Ty.entry)).name).getD fl0]) 0 0 0 .no])) (none)) (some (.go (Qu6t Qf9g.fn 5) [.ptr 0 0,.own 1 [] 0,.sl .entry x0,.int .i64 x1,.int .i64 (IntKind.i64.wrap (x2 + (1 : Int)))] [.box [.sl .kind x3,.sl .point x4,.sl .entry x5],.row .flight x6 0 0 0 .no]))) (none)) (none)) (some (.ret (.sl .flight x6) [])):=by kernel_rfl
theorem Qf8d (ks : List Kind) (ps : List Point) (es : List Entry) (hz : szB es = true) (hb : Qn0o ks ps es = true) : ∀ (d i : Nat) (fs : List Flight),i + d = es.length → fs.length ≤ i → Cut Qf9g Qfp7 5 [.ptr 0 0,.own 1 [] 0,.sl .entry es,.int .i64 (es.length : Int),.int .i64 (i : Int)] [.box [.sl .kind ks,.sl .point ps,.sl .entry es],.row .flight fs 0 0 0 .no] (.sl .flight (fs ++ allF ks ps es (es.drop i))) []:=by
 have hb43 : Qbhn Qf9g.P 43 ≤ 256:=of_decide_eq_true (by kernel_rfl)
 have h12:=(Qm34 hb).1
 intro d
 induction d with
 | zero =>
  intro i fs hi hf
  refine Cut.of Qm37 rfl (Qomt es es.length i ks ps es fs) ?_
  rw [show decide ((i : Int) < (es.length : Int)) = false from decide_eq_false (by omega),List.drop_of_length_le (by omega)]
  exact Sat.ret (by simp [allF]) rfl
 | succ d ih =>
  intro i fs hi hf
  refine Cut.of Qm37 rfl (Qomt es es.length i ks ps es fs) ?_
  have hlt : i < es.length:=by omega
  have hw : IntKind.wrap .i64 ((i : Int) + 1) = ((i + 1 : Nat) : Int):=by rw [Qbrg] <;> omega
  have hw1 : IntKind.wrap .i64 ((i : Int) - 1) = (i : Int) - 1:=by rw [Qbrg] <;> omega
  have hd : es.drop i = es[i] :: es.drop (i + 1):=List.drop_eq_getElem_cons hlt
  have hx : es.getD (i : Int).toNat (Qf9g.C.dflt .entry) = es[i]:=by simp [hlt]
  have hin : inb (i : Int) es.length = true:=by simp only [inb,Bool.and_eq_true,decide_eq_true_eq]; omega
  have hlo : decide ((i : Int) < (es.length : Int)) = true:=decide_eq_true (by omega)
  have htk:=List.take_succ_eq_append_getElem hlt
  have hl : (es.take (i + 1)).getLast? = some es[i]:=by rw [List.take_succ_eq_append_getElem hlt,List.getLast?_concat]
  rw [hlo,hin,hx,hw,hz,hb,hd,Q1mk hb43 (by simp; omega)]
  simp only [Bool.and_self,Qd8q]
  cases hs : stB ks ps es es[i].name with
  | none =>
   have nx:=ih (i + 1) fs (by omega) (by omega)
   rw [show allF ks ps es (es[i] :: es.drop (i + 1)) = allF ks ps es (es.drop (i + 1)) from List.filterMap_cons_none hs]
   exact Sat.cut nx
  | some f =>
   have nx:=ih (i + 1) (fs ++ [f]) (by omega) (by simp; omega)
   rw [List.append_assoc] at nx
   rw [show allF ks ps es (es[i] :: es.drop (i + 1)) = f :: allF ks ps es (es.drop (i + 1)) from List.filterMap_cons_some hs]
   exact Sat.cut nx
theorem Qp4m (ks : List Kind) (ps : List Point) (es : List Entry) (hg : (szB es && (decide (es.length < 1000000000) && Qn0o ks ps es)) = true) : Qewq Tryz.prog CP Qfp7 [.agg [.sl .kind ks,.sl .point ps,.sl .entry es]] [] (.sl .flight (allF ks ps es es)) []:=by
 refine Qewq.of Qm37 (by kernel_rfl) (Qs9v ks ps es) ?_
 simp only [Bool.and_eq_true,decide_eq_true_eq] at hg
 obtain ⟨hz,h9,hb⟩:=hg
 rw [hz,hb]
 simp only [Qd8q,Bool.not_true,Qk7y]
 exact Sat.cut (Cut.frz (r:=1) (d:=1) (d':=0) (T:=.flight) (xs:=[]) CP_ok (by simp) rfl (by omega) (Qf8d ks ps es hz hb es.length 0 [] (by omega) (by simp)))
theorem Qg96 : EntOK Tryz.prog CP Qfp7 Qvex:=by
 refine ⟨⟨Tryz.f65,by kernel_rfl,by kernel_rfl,by kernel_rfl⟩,fun args H res H' h=>?_⟩
 simp only [Qvex] at h
 split at h
 ·simp only [Option.some.injEq,Prod.mk.injEq] at h
  obtain ⟨hg,rfl,rfl⟩:=h
  exact Qp4m _ _ _ hg
 ·cases h
end Lx
namespace Lx
open Go Go.Proofs
noncomputable def Qzij (bs : List Int) (p : Int) (ks : List Kind) (ps : List Point) (m : Int) : ChgsP:=drawn (fun x=>Qewq Tryz.prog CP Q43w [.ptr 0 0,.agg [.sl .kind ks,.sl .point ps],.int .i64 m] [.box [.sl .u8 bs,.int .i64 p]] (.own 1 [] 0) [.box [.sl .u8 bs,.int .i64 x.p],.row .chg x.l 0 0 0 .no] ∧ Q4tv p x)
noncomputable def Qhq9 : Ent Ty El:=⟨[.io,.ro,.ro],1,fun a h=>match a,h with
 | [.ptr 0 0,.agg [.sl .kind ks,.sl .point ps],.int .i64 m],[.box [.sl .u8 bs,.int .i64 p]]=>some (chgsK bs p ks ps m,.own 1 [] 0,[.box [.sl .u8 bs,.int .i64 (Qzij bs p ks ps m).p],.row .chg (Qzij bs p ks ps m).l 0 0 0 .no])
 | _,_=>none⟩
structure TaD where
 ks : List Kind
 ps : List Point
 es : List Entry
 l : List Chg
 deriving Inhabited
def Qq0a (x : TaD) : Prop:=goodS x.ks x.ps x.es = true ∧ x.l.length ≤ 24 ∧ x.l.all (fun c=>szV c.value) = true
noncomputable def Qzux (c : List Int) : TaD:=drawn (fun x=>Qewq Tryz.prog CP Qr6y [.sl .u8 c] [] (.tup [.agg [.sl .kind x.ks,.sl .point x.ps,.sl .entry x.es],.sl .chg x.l]) [] ∧ Qq0a x)
noncomputable def Qsrq : Ent Ty El:=⟨[.ro],0,fun a h=>match a,h with
 | [.sl .u8 c],[]=>some (Qf9o c,.tup [.agg [.sl .kind (Qzux c).ks,.sl .point (Qzux c).ps,.sl .entry (Qzux c).es],.sl .chg (Qzux c).l],[])
 | _,_=>none⟩
end Lx
namespace Lx
open Go Go.Proofs
noncomputable def Qoz1 : RE Ty El:=⟨Tryz.prog,CP,[(Qpxs,Q7v2),(Qhy2,Qiyn)],Tryz.f150,1,[.own .chg],[(3,[(0,.any),(4,.any),(7,.any),(8,.any)])]⟩
theorem Qss7 : REOK Qoz1 Q43w:=⟨CP_ok,(TabOK.cons Q0e7 (TabOK.cons Q3dh Qye1)),by kernel_rfl,by kernel_rfl⟩
theorem Qnb3 (bs : List Int) (p : Int) (ks : List Kind) (ps : List Point) (m : Int) : aRun Qoz1 600 false (body0 Qoz1.fn) (Q4gm Qoz1.fn [.ptr 0 0,.agg [.sl .kind ks,.sl .point ps],.int .i64 m] [.box [.sl .u8 bs,.int .i64 p]]) =
 ifb (posOk p) (some (.go (Qu6t Qoz1.fn 3) [.ptr 0 0,.ptr 1 0,.own 2 [] 0,.int .i64 (pickV bs p m)] [.box [.sl .u8 bs,.int .i64 (p + (1 : Int))],.box [.sl .kind ks,.sl .point ps],.row .chg [] 0 0 0 .no])) (none):=by kernel_rfl
theorem Q08h (x0 : Int) (x1 : List (El .u8)) (x2 : Int) (x3 : List (El .kind)) (x4 : List (El .point)) (x5 : List (El .chg)) : aRun Qoz1 600 true (Qu6t Qoz1.fn 3) (cutSt Qoz1.fn (Q1m4 Qoz1 (Qu6t Qoz1.fn 3)) [.ptr 0 0,.ptr 1 0,.own 2 [] 0,.int .i64 x0] [.box [.sl .u8 x1,.int .i64 x2],.box [.sl .kind x3,.sl .point x4],.row .chg x5 0 0 0 .no]) =
 ifb (decide (x0 > (0 : Int))) (ifb (chgK x1 x2 x3 x4) (ifb (decide ((x5.length + [(dChg x1 x2 x3 x4).c].length) * Qbhn Qoz1.P (51 : Nat) ≤ (140737488355328 : Nat))) (some (.go (Qu6t Qoz1.fn 3) [.ptr 0 0,.ptr 1 0,.own 2 [] 0,.int .i64 (IntKind.i64.wrap (x0 - (1 : Int)))] [.box [.sl .u8 x1,.int .i64 ((dChg x1 x2 x3 x4).p)],.box [.sl .kind x3,.sl .point x4],.row .chg (x5 ++ [(dChg x1 x2 x3 x4).c]) 0 0 0 .no])) (none)) (none)) (some (.ret (.own 1 [] 0) [.box [.sl .u8 x1,.int .i64 x2],.row .chg x5 0 0 0 .no])):=by kernel_rfl
theorem Qu6v (bs : List Int) (ks : List Kind) (ps : List Point) (hbs : Qf9o bs = true) (hb : Qib4 ks ps = true) (h1 : 1 ≤ ps.length) : ∀ (d : Nat) (l : List Chg) (q : Int),0 ≤ q → q + 30 * d ≤ 890000 → l.length + d ≤ 24 → l.all (fun c=>szV c.value) = true →
  CutE Qoz1 Q43w 3 [.ptr 0 0,.ptr 1 0,.own 2 [] 0,.int .i64 (d : Int)] [.box [.sl .u8 bs,.int .i64 q],.box [.sl .kind ks,.sl .point ps],.row .chg l 0 0 0 .no] (fun v h=>∃ x : ChgsP,v = .own 1 [] 0 ∧ h = [.box [.sl .u8 bs,.int .i64 x.p],.row .chg x.l 0 0 0 .no] ∧ x.l.length ≤ 24 ∧ x.l.all (fun c=>szV c.value) = true ∧ q ≤ x.p ∧ x.p ≤ q + 30 * d):=by
 have hbb : Qbhn Qoz1.P 51 ≤ 256:=of_decide_eq_true (by kernel_rfl)
 intro d
 induction d with
 | zero =>
  intro l q h0 hq hl hz
  refine CutE.of Qss7 rfl (Q08h (0 : Nat) bs q ks ps l) ?_
  exact SatE.ret ⟨⟨l,q⟩,rfl,rfl,by simpa using hl,hz,by simp,by simp⟩
 | succ d ih =>
  intro l q h0 hq hl hz
  refine CutE.of Qss7 rfl (Q08h ((d + 1 : Nat) : Int) bs q ks ps l) ?_
  have hw : IntKind.i64.wrap (((d + 1 : Nat) : Int) - 1) = (d : Int):=by rw [Qbrg] <;> omega
  have hc : chgK bs q ks ps = true:=by simp only [chgK,Bool.and_eq_true,decide_eq_true_eq]; exact ⟨hbs,h0,by omega,(Qd1y hb).1,(Qd1y hb).2,h1⟩
  obtain ⟨c1,c2,c3⟩:=(Qnhc bs q ks ps hc).2
  rw [show decide (((d + 1 : Nat) : Int) > 0) = true from decide_eq_true (by omega),hc,hw]
  simp only [Qd8q]
  refine SatE.need (Q1mk hbb (by simp; omega)) (SatE.mono (SatE.cut (ih (l ++ [(dChg bs q ks ps).c]) (dChg bs q ks ps).p (by omega) (by omega) (by simp; omega) (by rw [List.all_append,hz]; simpa using c1))) ?_)
  rintro v h ⟨x,rfl,rfl,a1,a2,a3,a4⟩
  exact ⟨x,rfl,rfl,a1,a2,by omega,by omega⟩
theorem Qa0k (bs : List Int) (p : Int) (ks : List Kind) (ps : List Point) (m : Int) (hg : chgsK bs p ks ps m = true) : Qewq Tryz.prog CP Q43w [.ptr 0 0,.agg [.sl .kind ks,.sl .point ps],.int .i64 m] [.box [.sl .u8 bs,.int .i64 p]] (.own 1 [] 0) [.box [.sl .u8 bs,.int .i64 (Qzij bs p ks ps m).p],.row .chg (Qzij bs p ks ps m).l 0 0 0 .no] ∧ Q4tv p (Qzij bs p ks ps m):=by
 simp only [chgsK,Bool.and_eq_true,decide_eq_true_eq] at hg
 obtain ⟨hbs,h0,h9,hb,h1,hm,hm2⟩:=hg
 have hE : CallE Qoz1.P Qoz1.C Q43w [.ptr 0 0,.agg [.sl .kind ks,.sl .point ps],.int .i64 m] [.box [.sl .u8 bs,.int .i64 p]] (fun v h=>∃ x : ChgsP,v = .own 1 [] 0 ∧ h = [.box [.sl .u8 bs,.int .i64 x.p],.row .chg x.l 0 0 0 .no] ∧ Q4tv p x):=by
  refine CallE.of Qss7 (by kernel_rfl) (Qnb3 bs p ks ps m) ?_
  obtain ⟨a1,a2⟩:=Q5va (n:=m) hbs (Q8s4 (q:=p) (by omega) (by omega)) hm
  refine SatE.need (Q8s4 (by omega) (by omega)) ?_
  obtain ⟨d,hd⟩:=Int.eq_ofNat_of_zero_le a1
  rw [hd]
  refine SatE.mono (SatE.cut (Qu6v bs ks ps hbs hb h1 d [] (p + 1) (by omega) (by omega) (by simp; omega) rfl)) ?_
  rintro v h ⟨x,rfl,rfl,b1,b2,b3,b4⟩
  exact ⟨x,rfl,rfl,b1,b2,by omega,by omega⟩
 obtain ⟨v,H',h,x,rfl,rfl,hx⟩:=hE
 unfold Qzij
 exact Qk78 (p:=fun x : ChgsP=>Qewq Tryz.prog CP Q43w [.ptr 0 0,.agg [.sl .kind ks,.sl .point ps],.int .i64 m] [.box [.sl .u8 bs,.int .i64 p]] (.own 1 [] 0) [.box [.sl .u8 bs,.int .i64 x.p],.row .chg x.l 0 0 0 .no] ∧ Q4tv p x) ⟨x,h,hx⟩
theorem Qed6 (bs : List Int) (p : Int) (ks : List Kind) (ps : List Point) (m : Int) (hg : chgsK bs p ks ps m = true) : Qewq Tryz.prog CP Q43w [.ptr 0 0,.agg [.sl .kind ks,.sl .point ps],.int .i64 m] [.box [.sl .u8 bs,.int .i64 p]] (.own 1 [] 0) [.box [.sl .u8 bs,.int .i64 (Qzij bs p ks ps m).p],.row .chg (Qzij bs p ks ps m).l 0 0 0 .no]:=by
 exact (Qa0k bs p ks ps m hg).1
theorem Qvnu : EntOK Tryz.prog CP Q43w Qhq9:=by
 refine ⟨⟨Tryz.f150,by kernel_rfl,by kernel_rfl,by kernel_rfl⟩,fun args H res H' h=>?_⟩
 simp only [Qhq9] at h
 split at h
 ·simp only [Option.some.injEq,Prod.mk.injEq] at h
  obtain ⟨hg,rfl,rfl⟩:=h
  exact Qed6 _ _ _ _ _ hg
 ·cases h

noncomputable def Qk3p : RE Ty El:=⟨Tryz.prog,CP,[(Qajm,Qqtq),(Qwua,Qu46),(Q604,Qnfe),(Q43w,Qhq9),(Qpxs,Q7v2),(Qpj2,Qxsi),(Qvef,Qsb4)],Tryz.f58,0,[.agg [.ro .kind,.ro .point,.ro .entry],.ro .chg],[(6,[(2,.any),(4,.any),(6,.any),(7,.any),(8,.any)])]⟩
theorem Q4ni : REOK Qk3p Qr6y:=⟨CP_ok,(TabOK.cons Q3w2 (TabOK.cons Ql5k (TabOK.cons Qtpw (TabOK.cons Qvnu (TabOK.cons Q0e7 (TabOK.cons Qie6 (TabOK.cons Qql7 Qye1))))))),by kernel_rfl,by kernel_rfl⟩
theorem Q1p3 (c : List Int) : aRun Qk3p 600 false (body0 Qk3p.fn) (Q4gm Qk3p.fn [.sl .u8 c] []) =
 ifb (rdK (List.take (2000 : Nat) c) (0 : Int)) (ifb (bkK (List.take (2000 : Nat) c) (dBase (List.take (2000 : Nat) c) (0 : Int)).p (dBase (List.take (2000 : Nat) c) (0 : Int)).ks (dBase (List.take (2000 : Nat) c) (0 : Int)).ps) (ifb (chgsK (List.take (2000 : Nat) c) (dBook (List.take (2000 : Nat) c) (dBase (List.take (2000 : Nat) c) (0 : Int)).p (dBase (List.take (2000 : Nat) c) (0 : Int)).ks (dBase (List.take (2000 : Nat) c) (0 : Int)).ps).p (dBase (List.take (2000 : Nat) c) (0 : Int)).ks (dBase (List.take (2000 : Nat) c) (0 : Int)).ps (20 : Int)) (some (.go (Qu6t Qk3p.fn 6) [.ptr 0 0,.ptr 1 0,.ptr 2 0,.own 3 [] 0,.int .i64 (0 : Int)] [.box [.nils,.nils,.nils],.box [.sl .u8 (List.take (2000 : Nat) c),.int .i64 ((Qzij (List.take (2000 : Nat) c) (dBook (List.take (2000 : Nat) c) (dBase (List.take (2000 : Nat) c) (0 : Int)).p (dBase (List.take (2000 : Nat) c) (0 : Int)).ks (dBase (List.take (2000 : Nat) c) (0 : Int)).ps).p (dBase (List.take (2000 : Nat) c) (0 : Int)).ks (dBase (List.take (2000 : Nat) c) (0 : Int)).ps (20 : Int)).p)],.box [.sl .kind ((dBase (List.take (2000 : Nat) c) (0 : Int)).ks),.sl .point ((dBase (List.take (2000 : Nat) c) (0 : Int)).ps),.sl .entry ((dBook (List.take (2000 : Nat) c) (dBase (List.take (2000 : Nat) c) (0 : Int)).p (dBase (List.take (2000 : Nat) c) (0 : Int)).ks (dBase (List.take (2000 : Nat) c) (0 : Int)).ps).es)],.row .chg ((Qzij (List.take (2000 : Nat) c) (dBook (List.take (2000 : Nat) c) (dBase (List.take (2000 : Nat) c) (0 : Int)).p (dBase (List.take (2000 : Nat) c) (0 : Int)).ks (dBase (List.take (2000 : Nat) c) (0 : Int)).ps).p (dBase (List.take (2000 : Nat) c) (0 : Int)).ks (dBase (List.take (2000 : Nat) c) (0 : Int)).ps (20 : Int)).l) 0 0 0 .no])) (none)) (none)) (none):=by kernel_rfl
theorem Qthj (x0 : Int) (x1 : List (El .u8)) (x2 : Int) (x3 : List (El .kind)) (x4 : List (El .point)) (x5 : List (El .entry)) (x6 : List (El .chg)) : aRun Qk3p 600 true (Qu6t Qk3p.fn 6) (cutSt Qk3p.fn (Q1m4 Qk3p (Qu6t Qk3p.fn 6)) [.ptr 0 0,.ptr 1 0,.ptr 2 0,.own 3 [] 0,.int .i64 x0] [.box [.nils,.nils,.nils],.box [.sl .u8 x1,.int .i64 x2],.box [.sl .kind x3,.sl .point x4,.sl .entry x5],.row .chg x6 0 0 0 .no]) =
 ifb (decide (x0 < (↑x6.length : Int))) (ifb (posOk x2) (ifb (pickV x1 x2 (12 : Int) == (0 : Int)) (ifb (inb x0 x6.length) (ifb (spcK x1 (x2 + (1 : Int)) (x6.getD x0.toNat (Qk3p.C.dflt Ty.chg)).value) (ifb (inb x0 x6.length) (some (.go (Qu6t Qk3p.fn 6) [.ptr 0 0,.ptr 1 0,.ptr 2 0,.own 3 [] 0,.int .i64 (IntKind.i64.wrap (x0 + (1 : Int)))] [.box [.nils,.nils,.nils],.box [.sl .u8 x1,.int .i64 ((dSpC x1 (x2 + (1 : Int)) (x6.getD x0.toNat (Qk3p.C.dflt Ty.chg))).p)],.box [.sl .kind x3,.sl .point x4,.sl .entry x5],.row .chg (x6.set x0.toNat (dSpC x1 (x2 + (1 : Int)) (x6.getD x0.toNat (Qk3p.C.dflt Ty.chg))).c) 0 0 0 .no])) (none)) (none)) (none)) (some (.go (Qu6t Qk3p.fn 6) [.ptr 0 0,.ptr 1 0,.ptr 2 0,.own 3 [] 0,.int .i64 (IntKind.i64.wrap (x0 + (1 : Int)))] [.box [.nils,.nils,.nils],.box [.sl .u8 x1,.int .i64 (x2 + (1 : Int))],.box [.sl .kind x3,.sl .point x4,.sl .entry x5],.row .chg x6 0 0 0 .no]))) (none)) (ifb (posOk x2) (ifb (pickV x1 x2 (20 : Int) == (0 : Int)) (ifb (slK x1 (x2 + (1 : Int)) x3 x4 x5) (some (.ret (.tup [.agg [.sl .kind ((Qkav x1 (x2 + (1 : Int)) x3 x4 x5).ks),.sl .point ((Qkav x1 (x2 + (1 : Int)) x3 x4 x5).ps),.sl .entry ((Qkav x1 (x2 + (1 : Int)) x3 x4 x5).es)],.sl .chg x6]) [])) (none)) (some (.ret (.tup [.agg [.sl .kind x3,.sl .point x4,.sl .entry x5],.sl .chg x6]) []))) (none)):=by kernel_rfl
theorem Qjqh (bs : List Int) (ks : List Kind) (ps : List Point) (es : List Entry) (hbs : Qf9o bs = true) (h1 : 1 ≤ ks.length) (h2 : 1 ≤ ps.length) (h3 : goodE ks ps es = true) : ∀ (d i : Nat) (l : List Chg) (q : Int),i + d = l.length → 0 ≤ q → q + 40 * d ≤ 860000 → l.length ≤ 24 → l.all (fun c=>szV c.value) = true →
  CutE Qk3p Qr6y 6 [.ptr 0 0,.ptr 1 0,.ptr 2 0,.own 3 [] 0,.int .i64 (i : Int)] [.box [.nils,.nils,.nils],.box [.sl .u8 bs,.int .i64 q],.box [.sl .kind ks,.sl .point ps,.sl .entry es],.row .chg l 0 0 0 .no] (fun v h=>∃ x : TaD,v = (.tup [.agg [.sl .kind x.ks,.sl .point x.ps,.sl .entry x.es],.sl .chg x.l]) ∧ h = [] ∧ Qq0a x):=by
 intro d
 induction d with
 | zero =>
  intro i l q hi h0 hq h24 hz
  refine CutE.of Q4ni rfl (Qthj i bs q ks ps es l) ?_
  rw [show decide ((i : Int) < (l.length : Int)) = false from decide_eq_false (by omega)]
  have hs : slK bs (q + 1) ks ps es = true:=by simp only [slK,Bool.and_eq_true,decide_eq_true_eq]; exact ⟨hbs,by omega,by omega,h1,h2,h3⟩
  obtain ⟨d1,d2,d3⟩:=(Qzxv bs (q + 1) ks ps es hs).2
  exact SatE.need (Q8s4 (by omega) (by omega)) (SatE.ifb (fun _=>SatE.need hs (SatE.ret ⟨⟨_,_,_,l⟩,rfl,rfl,d1,h24,hz⟩)) (fun _=>SatE.ret ⟨⟨_,_,_,l⟩,rfl,rfl,Qj7a h3,h24,hz⟩))
 | succ d ih =>
  intro i l q hi h0 hq h24 hz
  refine CutE.of Q4ni rfl (Qthj i bs q ks ps es l) ?_
  have hlt : i < l.length:=by omega
  have hw : IntKind.wrap .i64 ((i : Int) + 1) = ((i + 1 : Nat) : Int):=by rw [Qbrg] <;> omega
  have hw1 : IntKind.wrap .i64 ((i : Int) - 1) = (i : Int) - 1:=by rw [Qbrg] <;> omega
  have hd : l.drop i = l[i] :: l.drop (i + 1):=List.drop_eq_getElem_cons hlt
  have hx : l.getD (i : Int).toNat (Qk3p.C.dflt .chg) = l[i]:=by simp [hlt]
  have hin : inb (i : Int) l.length = true:=by simp only [inb,Bool.and_eq_true,decide_eq_true_eq]; omega
  have hlo : decide ((i : Int) < (l.length : Int)) = true:=decide_eq_true (by omega)
  have htk:=List.take_succ_eq_append_getElem hlt
  have hl : (l.take (i + 1)).getLast? = some l[i]:=by rw [List.take_succ_eq_append_getElem hlt,List.getLast?_concat]
  rw [hlo,hin,hx,hw]
  simp only [Qd8q]
  have hv : szV l[i].value = true:=List.all_eq_true.1 hz l[i] (List.getElem_mem hlt)
  refine SatE.need (Q8s4 (by omega) (by omega)) (SatE.ifb (fun _=>?_) (fun _=>?_))
  ·have hk : spcK bs (q + 1) l[i].value = true:=by simp only [spcK,Bool.and_eq_true,decide_eq_true_eq]; exact ⟨hbs,by omega,by omega,hv⟩
   obtain ⟨d1,d2,d3⟩:=(Qz1w bs (q + 1) l[i].flight l[i].what l[i].number l[i].value hk).2
   rw [show (⟨l[i].flight,l[i].what,l[i].number,l[i].value⟩ : Chg) = l[i] from rfl] at d1 d2 d3
   refine SatE.need hk (SatE.cut (ih (i + 1) _ _ (by simp; omega) (by omega) (by omega) (by simpa using h24) ?_))
   rw [List.all_eq_true] at hz ⊢
   intro x hxm
   rcases List.mem_or_eq_of_mem_set hxm with h | h
   ·exact hz x h
   ·subst h; exact d1
  ·exact SatE.cut (ih (i + 1) l (q + 1) (by omega) (by omega) (by omega) h24 hz)
theorem Qs6v (c : List Int) (hg : Qf9o c = true) : Qewq Tryz.prog CP Qr6y [.sl .u8 c] [] (.tup [.agg [.sl .kind (Qzux c).ks,.sl .point (Qzux c).ps,.sl .entry (Qzux c).es],.sl .chg (Qzux c).l]) [] ∧ Qq0a (Qzux c):=by
 have hbs:=Qz2g hg 2000
 have hr : rdK (c.take 2000) 0 = true:=by simp only [rdK,Bool.and_eq_true,decide_eq_true_eq]; exact ⟨hbs,by omega,by omega⟩
 obtain ⟨b1,b2,b3,b4,b5⟩:=(Q46n (c.take 2000) 0 hr).2
 have hE : CallE Qk3p.P Qk3p.C Qr6y [.sl .u8 c] [] (fun v h=>∃ x : TaD,v = (.tup [.agg [.sl .kind x.ks,.sl .point x.ps,.sl .entry x.es],.sl .chg x.l]) ∧ h = [] ∧ Qq0a x):=by
  refine CallE.of Q4ni (by kernel_rfl) (Q1p3 c) ?_
  generalize dBase (c.take 2000) 0 = z at *
  have hk : bkK (c.take 2000) z.p z.ks z.ps = true:=by simp only [bkK,Bool.and_eq_true,decide_eq_true_eq]; exact ⟨hbs,by omega,by omega,b1,b3⟩
  obtain ⟨c1,c2,c3⟩:=(Q4mo (c.take 2000) z.p z.ks z.ps hk).2
  generalize dBook (c.take 2000) z.p z.ks z.ps = y at *
  have hc : chgsK (c.take 2000) y.p z.ks z.ps 20 = true:=by simp only [chgsK,Bool.and_eq_true,decide_eq_true_eq]; exact ⟨hbs,by omega,by omega,b1,b3,by omega,by omega⟩
  obtain ⟨d1,d2,d3,d4⟩:=(Qa0k (c.take 2000) y.p z.ks z.ps 20 hc).2
  generalize Qzij (c.take 2000) y.p z.ks z.ps 20 = x at *
  exact SatE.need hr (SatE.need hk (SatE.need hc (SatE.cut (Qjqh (c.take 2000) z.ks z.ps y.es hbs b2 b3 c1 x.l.length 0 x.l x.p (by omega) (by omega) (by omega) d1 d2))))
 obtain ⟨v,H',h,x,rfl,rfl,hx⟩:=hE
 unfold Qzux
 exact Qk78 (p:=fun x : TaD=>Qewq Tryz.prog CP Qr6y [.sl .u8 c] [] (.tup [.agg [.sl .kind x.ks,.sl .point x.ps,.sl .entry x.es],.sl .chg x.l]) [] ∧ Qq0a x) ⟨x,h,hx⟩
theorem Qpdb (c : List Int) (hg : Qf9o c = true) : Qewq Tryz.prog CP Qr6y [.sl .u8 c] [] (.tup [.agg [.sl .kind (Qzux c).ks,.sl .point (Qzux c).ps,.sl .entry (Qzux c).es],.sl .chg (Qzux c).l]) []:=by
 exact (Qs6v c hg).1
theorem Q9p5 : EntOK Tryz.prog CP Qr6y Qsrq:=by
 refine ⟨⟨Tryz.f58,by kernel_rfl,by kernel_rfl,by kernel_rfl⟩,fun args H res H' h=>?_⟩
 simp only [Qsrq] at h
 split at h
 ·simp only [Option.some.injEq,Prod.mk.injEq] at h
  obtain ⟨hg,rfl,rfl⟩:=h
  exact Qpdb _ hg
 ·cases h
end Lx
namespace Lx
open Go Go.Proofs
end Lx
namespace Lx
open Go Go.Proofs
end Lx
namespace Lx
open Go Go.Proofs
end Lx
namespace Lx
open Go Go.Proofs
end Lx
namespace Lx
open Go Go.Proofs
end Lx
namespace Lx
open Go Go.Proofs
def Qbsj : Ent Ty El:=Qy84
end Lx
namespace Lx
open Go Go.Proofs
noncomputable def Q0eu : RE Ty El:=⟨Tryz.prog,CP,[(Qdfk,Q124),(Qfx9,Qc1o),(Qvuj,Quoo),(Q4v9,Qf4o),(Q7kf,Q8fw)],Tryz.f46,0,[.agg [.own .kind,.own .point,.own .entry],.any],[]⟩
theorem Q9bj : REOK Q0eu Qbeb:=⟨CP_ok,(TabOK.cons Q8cq (TabOK.cons Qaka (TabOK.cons Q336 (TabOK.cons Q9x2 (TabOK.cons Qik7 Qye1))))),by kernel_rfl,by kernel_rfl⟩
theorem Q83n (ks : List Kind) (ps : List Point) (es : List Entry) (fl : Str) (w m : Int) (v : Str) : aRun Q0eu 600 false (body0 Q0eu.fn) (Q4gm Q0eu.fn [.agg [.sl .kind ks,.sl .point ps,.sl .entry es],.agg [.str fl,.int .i64 w,.int .i64 m,.str v]] []) =
 ifb (szB es) (ifb (!Qn0o ks ps es) (some (.ret (.tup [.agg [.own 0 [] 0,.own 1 [] 0,.own 2 [] 0],.int .i64 (1 : Int)]) [.row .kind [] 0 0 0 .no,.row .point [] 0 0 0 .no,.row .entry [] 1 0 0 .no])) (ifb (Q8cx ks ps es) (ifb (szV v) (ifb (!(Q2rq fl && (inR m (1 : Int) (1000000 : Int) && (Qib4 ks ps && fitsV ks ps w v)))) (some (.ret (.tup [.agg [.own 0 [] 0,.own 1 [] 0,.own 2 [] 0],.int .i64 (2 : Int)]) [.row .kind ks 0 0 0 .no,.row .point ps 0 0 0 .no,.row .entry es 1 0 0 .no])) (ifb (decide (es.length < (1000000000 : Nat))) (ifb (decide (idxF (fun p=>p.name == fl) es < (0 : Int))) (ifb (decide ((↑es.length : Int) ≥ (12 : Int))) (some (.ret (.tup [.agg [.own 0 [] 0,.own 1 [] 0,.own 2 [] 0],.int .i64 (3 : Int)]) [.row .kind ks 0 0 0 .no,.row .point ps 0 0 0 .no,.row .entry es 1 0 0 .no])) (ifb (putOk es) (ifb (Q8cx ks ps (putF es fl (Fld.mk w m v))) (some (.ret (.tup [.agg [.own 0 [] 0,.own 1 [] 0,.own 2 [] 0],.int .i64 (0 : Int)]) [.row .kind ks 0 0 0 .no,.row .point ps 0 0 0 .no,.row .entry (putF es fl (Fld.mk w m v)) 1 0 0 .no])) (none)) (none))) (ifb (putOk es) (ifb (Q8cx ks ps (putF es fl (Fld.mk w m v))) (some (.ret (.tup [.agg [.own 0 [] 0,.own 1 [] 0,.own 2 [] 0],.int .i64 (0 : Int)]) [.row .kind ks 0 0 0 .no,.row .point ps 0 0 0 .no,.row .entry (putF es fl (Fld.mk w m v)) 1 0 0 .no])) (none)) (none))) (none))) (none)) (none))) (none):=by kernel_rfl
theorem Q25d (ks : List Kind) (ps : List Point) (es : List Entry) (fl : Str) (w m : Int) (v : Str) (hg : (goodB ks ps es && szV v) = true) : Qewq Tryz.prog CP Qbeb [.agg [.sl .kind ks,.sl .point ps,.sl .entry es],.agg [.str fl,.int .i64 w,.int .i64 m,.str v]] [] (.tup [.agg [.own 0 [] 0,.own 1 [] 0,.own 2 [] 0],.int .i64 (takeF ks ps es ⟨fl,w,m,v⟩).code]) [.row .kind (takeF ks ps es ⟨fl,w,m,v⟩).ks 0 0 0 .no,.row .point (takeF ks ps es ⟨fl,w,m,v⟩).ps 0 0 0 .no,.row .entry (takeF ks ps es ⟨fl,w,m,v⟩).es 1 0 0 .no]:=by
 refine Qewq.of Q9bj (by kernel_rfl) (Q83n ks ps es fl w m v) ?_
 simp only [Bool.and_eq_true] at hg
 obtain ⟨g0,g1⟩:=hg
 have g2:=g0
 simp only [goodB,Bool.and_eq_true] at g2
 rw [g2.1,g2.2,g1]
 simp only [Qd8q]
 cases hb : Qn0o ks ps es with
 | false =>
  simp only [Bool.not_false,Qd8q]
  rw [takeF,if_neg (by simp [hb])]
  exact Sat.ret rfl rfl
 | true =>
  simp only [Bool.not_true,Qk7y]
  obtain ⟨h1,_⟩:=Qm34 hb
  obtain ⟨p1,p2⟩:=Q5pc (n:=fl) (w:=w) (m:=m) hb g0 g1
  simp only [goodB,Bool.and_eq_true] at p2
  rw [takeF,if_pos hb]
  cases hc : Qs7k ks ps ⟨fl,w,m,v⟩ with
  | false =>
   rw [show (Q2rq fl && (inR m 1 1000000 && (Qib4 ks ps && fitsV ks ps w v))) = false from hc]
   rw [if_neg (by simp)]
   exact Sat.ret rfl rfl
  | true =>
   rw [show (Q2rq fl && (inR m 1 1000000 && (Qib4 ks ps && fitsV ks ps w v))) = true from hc,show decide (es.length < 1000000000) = true from decide_eq_true (by omega),p1,p2.2]
   simp only [Bool.not_true,Qd8q,Qk7y,if_true]
   by_cases h2 : entIx es fl < 0
   ·rw [show decide (idxF (fun p=>p.name == fl) es < (0 : Int)) = true from decide_eq_true h2]
    by_cases h3 : 12 ≤ es.length
    ·rw [show decide ((es.length : Int) ≥ 12) = true from decide_eq_true (by omega),if_pos ⟨h2,h3⟩]
     exact Sat.ret rfl rfl
    ·rw [show decide ((es.length : Int) ≥ 12) = false from decide_eq_false (by omega),if_neg (fun h=>h3 h.2)]
     exact Sat.ret rfl rfl
   ·rw [show decide (idxF (fun p=>p.name == fl) es < (0 : Int)) = false from decide_eq_false h2,if_neg (fun h=>h2 h.1)]
    exact Sat.ret rfl rfl
theorem Qsrm : EntOK Tryz.prog CP Qbeb Qbsj:=by
 refine ⟨⟨Tryz.f46,by kernel_rfl,by kernel_rfl,by kernel_rfl⟩,fun args H res H' h=>?_⟩
 simp only [Qbsj,Qy84] at h
 split at h
 ·simp only [Option.some.injEq,Prod.mk.injEq] at h
  obtain ⟨hg,rfl,rfl⟩:=h
  exact Q25d _ _ _ _ _ _ _ hg
 ·cases h

end Lx
namespace Lx
open Go Go.Proofs
end Lx
namespace Lx
open Go Go.Proofs
end Lx
namespace Lx
open Go Go.Proofs
def tkGo (ks : List Kind) (ps : List Point) : List Entry → List Chg → List Entry × List Int
 | es,[]=>(es,[])
 | es,c :: l=>((tkGo ks ps (takeF ks ps es c).es l).1,(takeF ks ps es c).code :: (tkGo ks ps (takeF ks ps es c).es l).2)
structure TaR where
 ks : List Kind
 ps : List Point
 es : List Entry
 cs : List Int
def Q0ew (ks : List Kind) (ps : List Point) (es : List Entry) (l : List Chg) : TaR :=
 if Qn0o ks ps es = true then ⟨ks,ps,(tkGo ks ps es l).1,(tkGo ks ps es l).2⟩ else ⟨[],[],[],[]⟩
def Q7ga (l : List Chg) : Bool:=decide (l.length ≤ 1000000000) && l.all fun c=>szV c.value
def Q1df : Ent Ty El:=⟨[.ro,.ro],4,fun a h=>match a,h with
 | [.agg [.sl .kind ks,.sl .point ps,.sl .entry es],.sl .chg l],[] =>
  some (goodB ks ps es && Q7ga l,.tup [.agg [.own 0 [] 0,.own 1 [] 0,.own 2 [] 0],.own 3 [] 0],[.row .kind (Q0ew ks ps es l).ks 0 0 0 .no,.row .point (Q0ew ks ps es l).ps 0 0 0 .no,.row .entry (Q0ew ks ps es l).es 1 0 0 .no,.row .int (Q0ew ks ps es l).cs 0 0 0 .no])
 | _,_=>none⟩
def Q7a1 : Ent Ty El:=Q1df
theorem Qbzy {ks : List Kind} {ps : List Point} : ∀ {l : List Chg} {es : List Entry},goodE ks ps es = true → (l.all fun c=>szV c.value) = true → goodE ks ps (tkGo ks ps es l).1 = true ∧ (tkGo ks ps es l).2.length = l.length
 | [],es,h,_=>⟨h,rfl⟩
 | c :: l,es,h,hv=>by
  rw [List.all_cons,Bool.and_eq_true] at hv
  obtain ⟨_,_,h3⟩:=Qy7k (c:=c) h hv.1
  obtain ⟨a,b⟩:=Qbzy (l:=l) h3 hv.2
  exact ⟨a,by simp only [tkGo,List.length_cons,b]⟩
end Lx
namespace Lx
open Go Go.Proofs
noncomputable def Qvhh : RE Ty El:=⟨Tryz.prog,CP,[(Qdfk,Q124),(Qfx9,Qc1o),(Qbeb,Qbsj)],Tryz.f63,0,[.agg [.own .kind,.own .point,.own .entry],.own .int],[(6,[(1,.any),(4,.any),(6,.any),(7,.any),(8,.any)])]⟩
theorem Qsfo : REOK Qvhh Qlb4:=⟨CP_ok,(TabOK.cons Q8cq (TabOK.cons Qaka (TabOK.cons Qsrm Qye1))),by kernel_rfl,by kernel_rfl⟩
theorem Qgrb (ks : List Kind) (ps : List Point) (es : List Entry) (l : List Chg) : aRun Qvhh 600 false (body0 Qvhh.fn) (Q4gm Qvhh.fn [.agg [.sl .kind ks,.sl .point ps,.sl .entry es],.sl .chg l] []) =
 ifb (szB es) (ifb (!Qn0o ks ps es) (some (.ret (.tup [.agg [.own 0 [] 0,.own 1 [] 0,.own 2 [] 0],.own 3 [] 0]) [.row .kind [] 0 0 0 .no,.row .point [] 0 0 0 .no,.row .entry [] 1 0 0 .no,.row .int [] 0 0 0 .no])) (ifb (Q8cx ks ps es) (some (.go (Qu6t Qvhh.fn 6) [.sl .chg l,.ptr 0 0,.own 1 [] 0,.ptr 2 0,.int .i64 (0 : Int)] [.box [.nils,.nils,.nils],.row .int [] 0 0 0 .no,.box [.own 3 [] 0,.own 4 [] 0,.own 5 [] 0],.row .kind ks 0 0 0 .no,.row .point ps 0 0 0 .no,.row .entry es 1 0 0 .no])) (none))) (none):=by kernel_rfl
theorem Qu5q (x0 : List (El .chg)) (x1 : Int) (x2 : List (El .int)) (x3 : List (El .kind)) (x4 : List (El .point)) (x5 : List (El .entry)) : aRun Qvhh 600 true (Qu6t Qvhh.fn 6) (cutSt Qvhh.fn (Q1m4 Qvhh (Qu6t Qvhh.fn 6)) [.sl .chg x0,.ptr 0 0,.own 1 [] 0,.ptr 2 0,.int .i64 x1] [.box [.nils,.nils,.nils],.row .int x2 0 0 0 .no,.box [.own 3 [] 0,.own 4 [] 0,.own 5 [] 0],.row .kind x3 0 0 0 .no,.row .point x4 0 0 0 .no,.row .entry x5 1 0 0 .no]) =
 ifb (decide (x1 < (↑x0.length : Int))) (ifb (inb x1 x0.length) (ifb (goodB x3 x4 x5 && szV (x0.getD x1.toNat (Qvhh.C.dflt Ty.chg)).value) (ifb (decide ((x2.length + [(takeF x3 x4 x5 (x0.getD x1.toNat (Qvhh.C.dflt Ty.chg))).code].length) * Qbhn Qvhh.P (3 : Nat) ≤ (140737488355328 : Nat))) (some (.go (Qu6t Qvhh.fn 6) [.sl .chg x0,.ptr 0 0,.own 1 [] 0,.ptr 2 0,.int .i64 (IntKind.i64.wrap (x1 + (1 : Int)))] [.box [.nils,.nils,.nils],.row .int (x2 ++ [(takeF x3 x4 x5 (x0.getD x1.toNat (Qvhh.C.dflt Ty.chg))).code]) 0 0 0 .no,.box [.own 3 [] 0,.own 4 [] 0,.own 5 [] 0],.row .kind ((takeF x3 x4 x5 (x0.getD x1.toNat (Qvhh.C.dflt Ty.chg))).ks) 0 0 0 .no,.row .point ((takeF x3 x4 x5 (x0.getD x1.toNat (Qvhh.C.dflt Ty.chg))).ps) 0 0 0 .no,.row .entry ((takeF x3 x4 x5 (x0.getD x1.toNat (Qvhh.C.dflt Ty.chg))).es) 1 0 0 .no])) (none)) (none)) (none)) (some (.ret (.tup [.agg [.own 0 [] 0,.own 1 [] 0,.own 2 [] 0],.own 3 [] 0]) [.row .kind x3 0 0 0 .no,.row .point x4 0 0 0 .no,.row .entry x5 1 0 0 .no,.row .int x2 0 0 0 .no])):=by kernel_rfl
theorem Q3xo (ks : List Kind) (ps : List Point) (l : List Chg) (g0 : l.length ≤ 1000000000) (g1 : (l.all fun c=>szV c.value) = true) : ∀ (d i : Nat) (es : List Entry) (cs : List Int),i + d = l.length → cs.length = i → goodE ks ps es = true →
  Cut Qvhh Qlb4 6 [.sl .chg l,.ptr 0 0,.own 1 [] 0,.ptr 2 0,.int .i64 (i : Int)] [.box [.nils,.nils,.nils],.row .int cs 0 0 0 .no,.box [.own 3 [] 0,.own 4 [] 0,.own 5 [] 0],.row .kind ks 0 0 0 .no,.row .point ps 0 0 0 .no,.row .entry es 1 0 0 .no] (.tup [.agg [.own 0 [] 0,.own 1 [] 0,.own 2 [] 0],.own 3 [] 0]) [.row .kind ks 0 0 0 .no,.row .point ps 0 0 0 .no,.row .entry (tkGo ks ps es (l.drop i)).1 1 0 0 .no,.row .int (cs ++ (tkGo ks ps es (l.drop i)).2) 0 0 0 .no]:=by
 have hb3 : Qbhn Qvhh.P 3 ≤ 256:=of_decide_eq_true (by kernel_rfl)
 intro d
 induction d with
 | zero =>
  intro i es cs hi hc hg
  refine Cut.of Qsfo rfl (Qu5q l i cs ks ps es) ?_
  rw [show decide ((i : Int) < (l.length : Int)) = false from decide_eq_false (by omega),List.drop_of_length_le (by omega)]
  refine Sat.ret rfl ?_
  simp only [tkGo,List.append_nil]
 | succ d ih =>
  intro i es cs hi hc hg
  refine Cut.of Qsfo rfl (Qu5q l i cs ks ps es) ?_
  have hlt : i < l.length:=by omega
  have hw : IntKind.wrap .i64 ((i : Int) + 1) = ((i + 1 : Nat) : Int):=by rw [Qbrg] <;> omega
  have hw1 : IntKind.wrap .i64 ((i : Int) - 1) = (i : Int) - 1:=by rw [Qbrg] <;> omega
  have hd : l.drop i = l[i] :: l.drop (i + 1):=List.drop_eq_getElem_cons hlt
  have hx : l.getD (i : Int).toNat (Qvhh.C.dflt .chg) = l[i]:=by simp [hlt]
  have hin : inb (i : Int) l.length = true:=by simp only [inb,Bool.and_eq_true,decide_eq_true_eq]; omega
  have hlo : decide ((i : Int) < (l.length : Int)) = true:=decide_eq_true (by omega)
  have htk:=List.take_succ_eq_append_getElem hlt
  have hl : (l.take (i + 1)).getLast? = some l[i]:=by rw [List.take_succ_eq_append_getElem hlt,List.getLast?_concat]
  have hv : szV l[i].value = true:=List.all_eq_true.1 g1 l[i] (List.getElem_mem hlt)
  have hgb:=hg
  simp only [goodE,Bool.and_eq_true] at hgb
  obtain ⟨e1,e2,e3⟩:=Qy7k (c:=l[i]) hg hv
  rw [hlo,hin,hx,hw,hgb.2,hv,e1,e2,hd,Q1mk hb3 (by simp; omega)]
  have nx:=ih (i + 1) (takeF ks ps es l[i]).es (cs ++ [(takeF ks ps es l[i]).code]) (by omega) (by simp; omega) e3
  rw [List.append_assoc] at nx
  exact Sat.cut nx
theorem Qfcz (ks : List Kind) (ps : List Point) (es : List Entry) (l : List Chg) (hg : (goodB ks ps es && Q7ga l) = true) : Qewq Tryz.prog CP Qlb4 [.agg [.sl .kind ks,.sl .point ps,.sl .entry es],.sl .chg l] [] (.tup [.agg [.own 0 [] 0,.own 1 [] 0,.own 2 [] 0],.own 3 [] 0]) [.row .kind (Q0ew ks ps es l).ks 0 0 0 .no,.row .point (Q0ew ks ps es l).ps 0 0 0 .no,.row .entry (Q0ew ks ps es l).es 1 0 0 .no,.row .int (Q0ew ks ps es l).cs 0 0 0 .no]:=by
 refine Qewq.of Qsfo (by kernel_rfl) (Qgrb ks ps es l) ?_
 simp only [Q7ga,Bool.and_eq_true,decide_eq_true_eq] at hg
 obtain ⟨g0,g1,g2⟩:=hg
 have g3:=g0
 simp only [goodB,Bool.and_eq_true] at g3
 rw [g3.1,g3.2]
 simp only [Qd8q]
 cases hb : Qn0o ks ps es with
 | false =>
  rw [Q0ew,if_neg (by simp [hb])]
  exact Sat.ret rfl rfl
 | true =>
  rw [Q0ew,if_pos hb]
  simp only [Bool.not_true,Qk7y]
  exact Sat.cut (Q3xo ks ps l g1 g2 l.length 0 es [] (by omega) rfl (by rw [goodE,hb,g0]; rfl))
theorem Qjh9 : EntOK Tryz.prog CP Qlb4 Q7a1:=by
 refine ⟨⟨Tryz.f63,by kernel_rfl,by kernel_rfl,by kernel_rfl⟩,fun args H res H' h=>?_⟩
 simp only [Q7a1,Q1df] at h
 split at h
 ·simp only [Option.some.injEq,Prod.mk.injEq] at h
  obtain ⟨hg,rfl,rfl⟩:=h
  exact Qfcz _ _ _ _ hg
 ·cases h

noncomputable def Qn11 : RE Ty El:=⟨Tryz.prog,CP,[(Qaev,Qjv4),(Qlpu,Q2gg),(Q64l,Qy84)],Tryz.f57,0,[.agg [.own .kind,.own .point,.own .entry],.own .int],[(6,[(4,.any),(6,.any),(7,.any),(17,.any),(18,.any),(19,.any)])]⟩
theorem Q6c3 : REOK Qn11 Qt0f:=⟨CP_ok,(TabOK.cons Qwza (TabOK.cons Qusr (TabOK.cons Q7d1 Qye1))),by kernel_rfl,by kernel_rfl⟩
theorem Qjyz (ks : List Kind) (ps : List Point) (es : List Entry) (l : List Chg) : aRun Qn11 600 false (body0 Qn11.fn) (Q4gm Qn11.fn [.agg [.sl .kind ks,.sl .point ps,.sl .entry es],.sl .chg l] []) =
 ifb (szB es) (ifb (!Qn0o ks ps es) (some (.ret (.tup [.agg [.own 0 [] 0,.own 1 [] 0,.own 2 [] 0],.own 3 [] 0]) [.row .kind [] 0 0 0 .no,.row .point [] 0 0 0 .no,.row .entry [] 1 0 0 .no,.row .int [] 0 0 0 .no])) (ifb (Q8cx ks ps es) (some (.go (Qu6t Qn11.fn 6) [.ptr 0 0,.ptr 1 0,.own 5 [] 0,.sl .chg l,.int .i64 (↑l.length : Int),.int .i64 (0 : Int)] [.box [.nils,.nils,.nils],.box [.own 2 [] 0,.own 3 [] 0,.own 4 [] 0],.row .kind ks 0 0 0 .no,.row .point ps 0 0 0 .no,.row .entry es 1 0 0 .no,.row .int [] 0 0 0 .no])) (none))) (none):=by kernel_rfl
theorem Qqdf (x0 : List (El .chg)) (x1 : Int) (x2 : Int) (x3 : List (El .kind)) (x4 : List (El .point)) (x5 : List (El .entry)) (x6 : List (El .int)) : aRun Qn11 600 true (Qu6t Qn11.fn 6) (cutSt Qn11.fn (Q1m4 Qn11 (Qu6t Qn11.fn 6)) [.ptr 0 0,.ptr 1 0,.own 5 [] 0,.sl .chg x0,.int .i64 x1,.int .i64 x2] [.box [.nils,.nils,.nils],.box [.own 2 [] 0,.own 3 [] 0,.own 4 [] 0],.row .kind x3 0 0 0 .no,.row .point x4 0 0 0 .no,.row .entry x5 1 0 0 .no,.row .int x6 0 0 0 .no]) =
 ifb (decide (x2 < x1)) (ifb (inb x2 x0.length) (ifb (goodB x3 x4 x5 && szV (x0.getD x2.toNat (Qn11.C.dflt Ty.chg)).value) (ifb (decide ((x6.length + [(takeF x3 x4 x5 (x0.getD x2.toNat (Qn11.C.dflt Ty.chg))).code].length) * Qbhn Qn11.P (3 : Nat) ≤ (140737488355328 : Nat))) (some (.go (Qu6t Qn11.fn 6) [.ptr 0 0,.ptr 1 0,.own 5 [] 0,.sl .chg x0,.int .i64 x1,.int .i64 (IntKind.i64.wrap (x2 + (1 : Int)))] [.box [.nils,.nils,.nils],.box [.own 2 [] 0,.own 3 [] 0,.own 4 [] 0],.row .kind ((takeF x3 x4 x5 (x0.getD x2.toNat (Qn11.C.dflt Ty.chg))).ks) 0 0 0 .no,.row .point ((takeF x3 x4 x5 (x0.getD x2.toNat (Qn11.C.dflt Ty.chg))).ps) 0 0 0 .no,.row .entry ((takeF x3 x4 x5 (x0.getD x2.toNat (Qn11.C.dflt Ty.chg))).es) 1 0 0 .no,.row .int (x6 ++ [(takeF x3 x4 x5 (x0.getD x2.toNat (Qn11.C.dflt Ty.chg))).code]) 0 0 0 .no])) (none)) (none)) (none)) (some (.ret (.tup [.agg [.own 0 [] 0,.own 1 [] 0,.own 2 [] 0],.own 3 [] 0]) [.row .kind x3 0 0 0 .no,.row .point x4 0 0 0 .no,.row .entry x5 1 0 0 .no,.row .int x6 0 0 0 .no])):=by kernel_rfl
theorem Qxgd (ks : List Kind) (ps : List Point) (l : List Chg) (g0 : l.length ≤ 1000000000) (g1 : (l.all fun c=>szV c.value) = true) : ∀ (d i : Nat) (es : List Entry) (cs : List Int),i + d = l.length → cs.length = i → goodE ks ps es = true →
  Cut Qn11 Qt0f 6 [.ptr 0 0,.ptr 1 0,.own 5 [] 0,.sl .chg l,.int .i64 (l.length : Int),.int .i64 (i : Int)] [.box [.nils,.nils,.nils],.box [.own 2 [] 0,.own 3 [] 0,.own 4 [] 0],.row .kind ks 0 0 0 .no,.row .point ps 0 0 0 .no,.row .entry es 1 0 0 .no,.row .int cs 0 0 0 .no] (.tup [.agg [.own 0 [] 0,.own 1 [] 0,.own 2 [] 0],.own 3 [] 0]) [.row .kind ks 0 0 0 .no,.row .point ps 0 0 0 .no,.row .entry (tkGo ks ps es (l.drop i)).1 1 0 0 .no,.row .int (cs ++ (tkGo ks ps es (l.drop i)).2) 0 0 0 .no]:=by
 have hb3 : Qbhn Qn11.P 3 ≤ 256:=of_decide_eq_true (by kernel_rfl)
 intro d
 induction d with
 | zero =>
  intro i es cs hi hc hg
  refine Cut.of Q6c3 rfl (Qqdf l l.length i ks ps es cs) ?_
  rw [show decide ((i : Int) < (l.length : Int)) = false from decide_eq_false (by omega),List.drop_of_length_le (by omega)]
  refine Sat.ret rfl ?_
  simp only [tkGo,List.append_nil]
 | succ d ih =>
  intro i es cs hi hc hg
  refine Cut.of Q6c3 rfl (Qqdf l l.length i ks ps es cs) ?_
  have hlt : i < l.length:=by omega
  have hw : IntKind.wrap .i64 ((i : Int) + 1) = ((i + 1 : Nat) : Int):=by rw [Qbrg] <;> omega
  have hw1 : IntKind.wrap .i64 ((i : Int) - 1) = (i : Int) - 1:=by rw [Qbrg] <;> omega
  have hd : l.drop i = l[i] :: l.drop (i + 1):=List.drop_eq_getElem_cons hlt
  have hx : l.getD (i : Int).toNat (Qn11.C.dflt .chg) = l[i]:=by simp [hlt]
  have hin : inb (i : Int) l.length = true:=by simp only [inb,Bool.and_eq_true,decide_eq_true_eq]; omega
  have hlo : decide ((i : Int) < (l.length : Int)) = true:=decide_eq_true (by omega)
  have htk:=List.take_succ_eq_append_getElem hlt
  have hl : (l.take (i + 1)).getLast? = some l[i]:=by rw [List.take_succ_eq_append_getElem hlt,List.getLast?_concat]
  have hv : szV l[i].value = true:=List.all_eq_true.1 g1 l[i] (List.getElem_mem hlt)
  have hgb:=hg
  simp only [goodE,Bool.and_eq_true] at hgb
  obtain ⟨e1,e2,e3⟩:=Qy7k (c:=l[i]) hg hv
  rw [hlo,hin,hx,hw,hgb.2,hv,e1,e2,hd,Q1mk hb3 (by simp; omega)]
  have nx:=ih (i + 1) (takeF ks ps es l[i]).es (cs ++ [(takeF ks ps es l[i]).code]) (by omega) (by simp; omega) e3
  rw [List.append_assoc] at nx
  exact Sat.cut nx
theorem Qr8k (ks : List Kind) (ps : List Point) (es : List Entry) (l : List Chg) (hg : (goodB ks ps es && Q7ga l) = true) : Qewq Tryz.prog CP Qt0f [.agg [.sl .kind ks,.sl .point ps,.sl .entry es],.sl .chg l] [] (.tup [.agg [.own 0 [] 0,.own 1 [] 0,.own 2 [] 0],.own 3 [] 0]) [.row .kind (Q0ew ks ps es l).ks 0 0 0 .no,.row .point (Q0ew ks ps es l).ps 0 0 0 .no,.row .entry (Q0ew ks ps es l).es 1 0 0 .no,.row .int (Q0ew ks ps es l).cs 0 0 0 .no]:=by
 refine Qewq.of Q6c3 (by kernel_rfl) (Qjyz ks ps es l) ?_
 simp only [Q7ga,Bool.and_eq_true,decide_eq_true_eq] at hg
 obtain ⟨g0,g1,g2⟩:=hg
 have g3:=g0
 simp only [goodB,Bool.and_eq_true] at g3
 rw [g3.1,g3.2]
 simp only [Qd8q]
 cases hb : Qn0o ks ps es with
 | false =>
  rw [Q0ew,if_neg (by simp [hb])]
  exact Sat.ret rfl rfl
 | true =>
  rw [Q0ew,if_pos hb]
  simp only [Bool.not_true,Qk7y]
  exact Sat.cut (Qxgd ks ps l g1 g2 l.length 0 es [] (by omega) rfl (by rw [goodE,hb,g0]; rfl))
theorem Qtar : EntOK Tryz.prog CP Qt0f Q1df:=by
 refine ⟨⟨Tryz.f57,by kernel_rfl,by kernel_rfl,by kernel_rfl⟩,fun args H res H' h=>?_⟩
 simp only [Q1df] at h
 split at h
 ·simp only [Option.some.injEq,Prod.mk.injEq] at h
  obtain ⟨hg,rfl,rfl⟩:=h
  exact Qr8k _ _ _ _ hg
 ·cases h
end Lx
namespace Lx
open Go Go.Proofs
def putC (es : List Entry) (c : Chg) : List Entry:=putS es c.flight ⟨c.what,c.number,c.value⟩
theorem Qcth {es : List Entry} (h : Q1re es) (c : Chg) : Q1re (putC es c):=Qujd _ _ h
theorem Q58l : ∀ (l : List Chg) {es : List Entry} (c : Chg),Q1re es → l.foldl putC (putC es c) = putC (l.foldl putC es) c
 | [],es,c,h=>rfl
 | d :: l,es,c,h=>by
  rw [List.foldl_cons,List.foldl_cons,← Q58l l c (Qcth h d)]
  have : putC (putC es c) d = putC (putC es d) c:=Q1jd h _ _ _ _
  rw [this]
theorem Qrpn : ∀ (l : List Chg) {es : List Entry},Q1re es → l.reverse.foldl putC es = l.foldl putC es
 | [],es,h=>rfl
 | c :: l,es,h=>by
  rw [List.reverse_cons,List.foldl_append,Qrpn l h]
  exact (Q58l l c h).symm
def dbl (l : List Chg) : List Chg:=l.flatMap fun c=>[c,c]
theorem Q11o : ∀ (l : List Chg) {es : List Entry},Q1re es → (dbl l).foldl putC es = l.foldl putC es
 | [],es,h=>rfl
 | c :: l,es,h=>by
  have e : dbl (c :: l) = c :: c :: dbl l:=rfl
  rw [e,List.foldl_cons,List.foldl_cons,List.foldl_cons]
  have i : putC (putC es c) c = putC es c:=Qsi3 h _ _
  rw [i,Q11o l (Qcth h c)]
def nms (es : List Entry) : List Str:=es.map Entry.name
theorem Q9vl (n : Str) (f : Fld) (m : Str) : ∀ es : List Entry,m ∈ nms (putS es n f) ↔ m = n ∨ m ∈ nms es
 | []=>by simp [putS,nms]
 | e :: r=>by
  have ih:=Q9vl n f m r
  unfold nms at ih ⊢
  rw [putS]
  by_cases h1 : e.name = n
  ·rw [if_pos h1]
   simp only [List.map_cons,List.mem_cons,h1]
   constructor
   ·rintro (h | h)
    ·exact .inl h
    ·exact .inr (.inr h)
   ·rintro (h | h | h)
    ·exact .inl h
    ·exact .inl h
    ·exact .inr h
  ·rw [if_neg h1]
   split
   ·simp only [List.map_cons,List.mem_cons,ih]
    constructor
    ·rintro (h | h | h)
     ·exact .inr (.inl h)
     ·exact .inl h
     ·exact .inr (.inr h)
    ·rintro (h | h | h)
     ·exact .inr (.inl h)
     ·exact .inl h
     ·exact .inr (.inr h)
   ·simp only [List.map_cons,List.mem_cons]
theorem Qq1a (m : Str) : ∀ (l : List Chg) (es : List Entry),m ∈ nms (l.foldl putC es) ↔ m ∈ nms es ∨ ∃ c ∈ l,c.flight = m
 | [],es=>by simp
 | c :: l,es=>by
  rw [List.foldl_cons,Qq1a m l,putC,Q9vl]
  simp only [List.mem_cons,exists_eq_or_imp]
  constructor
  ·rintro ((h | h) | h)
   ·exact .inr (.inl h.symm)
   ·exact .inl h
   ·exact .inr (.inr h)
  ·rintro (h | h | h)
   ·exact .inl (.inr h)
   ·exact .inl (.inl h.symm)
   ·exact .inr h
theorem Q9gn {es : List Entry} (h : Qurt es) : (nms es).Nodup:=List.pairwise_map.2 (h.imp fun {a b} h e=>by rw [e,Qqw5] at h; cases h)
theorem Qaqm : ∀ {l m : List Str},l.Nodup → (∀ x ∈ l,x ∈ m) → l.length ≤ m.length
 | [],m,_,_=>Nat.zero_le _
 | a :: l,m,h,hs=>by
  rw [List.nodup_cons] at h
  have ha:=hs a (List.mem_cons_self ..)
  have:=Qaqm (l:=l) (m:=m.erase a) h.2 (fun x hx=>by
   have hne : x ≠ a:=fun e=>h.1 (e ▸ hx)
   exact (List.mem_erase_of_ne hne).2 (hs x (List.mem_cons_of_mem _ hx)))
  rw [List.length_erase_of_mem ha] at this
  have hp:=List.length_pos_of_mem ha
  simp only [List.length_cons]
  omega
theorem Q5oq {ks : List Kind} {ps : List Point} {es : List Entry} {c : Chg} (hb : Qn0o ks ps es = true) : (takeF ks ps es c).es = if Qs7k ks ps c = true then (if entIx es c.flight < 0 ∧ 12 ≤ es.length then es else putC es c) else es:=by
 unfold takeF
 rw [if_pos hb]
 by_cases h1 : Qs7k ks ps c = true
 ·rw [if_pos h1,if_pos h1]
  by_cases h2 : entIx es c.flight < 0 ∧ 12 ≤ es.length
  ·rw [if_pos h2,if_pos h2]
  ·rw [if_neg h2,if_neg h2]
   exact Qsz7 _ _ (Qwk3 hb).1
 ·rw [if_neg h1,if_neg h1]
theorem Q5iy {ks : List Kind} {ps : List Point} {es : List Entry} {c : Chg} (hb : Qn0o ks ps es = true) (h1 : Qs7k ks ps c = true) (h2 : entIx es c.flight < 0 ∧ 12 ≤ es.length) : (takeF ks ps es c).code = 3:=by
 unfold takeF
 rw [if_pos hb,if_pos h1,if_pos h2]
theorem Qnie {ks : List Kind} {ps : List Point} : ∀ {l : List Chg} {es : List Entry},Qn0o ks ps es = true → (∀ k ∈ (tkGo ks ps es l).2,k ≠ 3) → (tkGo ks ps es l).1 = (l.filter (Qs7k ks ps)).foldl putC es
 | [],es,_,_=>rfl
 | c :: l,es,hb,h3=>by
  have ho:=(Qdgy (c:=c) hb).2.2
  have ih:=Qnie (l:=l) ho (fun k hk=>h3 k (List.mem_cons_of_mem _ hk))
  show (tkGo ks ps (takeF ks ps es c).es l).1 = _
  rw [ih,Q5oq hb]
  by_cases h1 : Qs7k ks ps c = true
  ·rw [List.filter_cons_of_pos h1,List.foldl_cons,if_pos h1,if_neg]
   intro h2
   exact h3 _ (List.mem_cons_self ..) (Q5iy hb h1 h2)
  ·rw [List.filter_cons_of_neg h1,if_neg h1]
theorem Qx6j {es : List Entry} {n : Str} (h : entIx es n < 0) : n ∉ nms es:=fun hm=>by
 obtain ⟨e,he,hn⟩:=List.mem_map.1 hm
 exact Q853 h e he hn
theorem Qbvd {ks : List Kind} {ps : List Point} {X : List Str} (hX : X.length ≤ 12) : ∀ {l : List Chg} {es : List Entry},Qn0o ks ps es = true → (∀ m ∈ nms es,m ∈ X) → (∀ c ∈ l,Qs7k ks ps c = true → c.flight ∈ X) → (tkGo ks ps es l).1 = (l.filter (Qs7k ks ps)).foldl putC es
 | [],es,_,_,_=>rfl
 | c :: l,es,hb,hs,hl=>by
  have ho:=(Qdgy (c:=c) hb).2.2
  have hso:=Qwk3 hb
  have hes : (takeF ks ps es c).es = if Qs7k ks ps c = true then putC es c else es:=by
   rw [Q5oq hb]
   by_cases h1 : Qs7k ks ps c = true
   ·rw [if_pos h1,if_pos h1,if_neg]
    intro h2
    have hn:=Qx6j h2.1
    have:=Qaqm (l:=c.flight :: nms es) (m:=X) (List.nodup_cons.2 ⟨hn,Q9gn hso.1⟩) (fun x hx=>by
     rcases List.mem_cons.1 hx with rfl | hx
     ·exact hl c (List.mem_cons_self ..) h1
     ·exact hs x hx)
    have e : (nms es).length = es.length:=by simp [nms]
    simp only [List.length_cons,e] at this
    omega
   ·rw [if_neg h1,if_neg h1]
  have ih:=Qbvd hX (l:=l) ho (fun m hm=>by
   rw [hes] at hm
   split at hm
   ·rename_i h1
    rw [putC,Q9vl] at hm
    rcases hm with rfl | hm
    ·exact hl c (List.mem_cons_self ..) h1
    ·exact hs m hm
   ·exact hs m hm) (fun d hd=>hl d (List.mem_cons_of_mem _ hd))
  show (tkGo ks ps (takeF ks ps es c).es l).1 = _
  rw [ih,hes]
  by_cases h1 : Qs7k ks ps c = true
  ·rw [List.filter_cons_of_pos h1,List.foldl_cons,if_pos h1]
  ·rw [List.filter_cons_of_neg h1,if_neg h1]
theorem tk_ok {ks : List Kind} {ps : List Point} : ∀ {l : List Chg} {es : List Entry},Qn0o ks ps es = true → Qn0o ks ps (tkGo ks ps es l).1 = true
 | [],_,h=>h
 | c :: l,es,h=>tk_ok (l:=l) (Qdgy (c:=c) h).2.2
theorem Q22o (p : Chg → Bool) : ∀ l : List Chg,(dbl l).filter p = dbl (l.filter p)
 | []=>rfl
 | c :: l=>by
  have e : dbl (c :: l) = c :: c :: dbl l:=rfl
  rw [e]
  by_cases h : p c = true
  ·rw [List.filter_cons_of_pos h,List.filter_cons_of_pos h,List.filter_cons_of_pos h,Q22o p l]; rfl
  ·rw [List.filter_cons_of_neg h,List.filter_cons_of_neg h,List.filter_cons_of_neg h,Q22o p l]
theorem Qlqn {ks : List Kind} {ps : List Point} {es : List Entry} {l : List Chg} (hb : Qn0o ks ps es = true) (h3 : ∀ k ∈ (tkGo ks ps es l).2,k ≠ 3) : (tkGo ks ps es (dbl l.reverse)).1 = (tkGo ks ps es l).1:=by
 have hs:=Qwk3 hb
 have hX:=tk_ok (l:=l) hb
 have h12 : (nms (tkGo ks ps es l).1).length ≤ 12:=by
  have:=(Qm34 hX).1
  simpa [nms] using this
 have e1:=Qnie hb h3
 have e2:=Qbvd (X:=nms (tkGo ks ps es l).1) h12 (l:=dbl l.reverse) hb (fun m hm=>by
  rw [e1,Qq1a]; exact .inl hm) (fun c hc h1=>by
  rw [e1,Qq1a]
  refine .inr ⟨c,List.mem_filter.2 ⟨?_,h1⟩,rfl⟩
  obtain ⟨d,hd,hc⟩:=List.mem_flatMap.1 hc
  simp only [List.mem_cons,List.not_mem_nil,or_false,or_self] at hc
  subst hc
  exact List.mem_reverse.1 hd)
 rw [e2,Q22o,Q11o _ hs,List.filter_reverse,Qrpn _ hs,e1]
end Lx
namespace Lx
open Go Go.Proofs
end Lx
namespace Lx
open Go Go.Proofs
def Qfh3 : Ent Ty El:=⟨[.io],0,fun a h=>match a,h with
 | [.own 0 [] 0],[.row .pair xs 0 0 0 .no]=>some (decide (xs.length ≤ 1000000),.tup [],[.row .pair xs.reverse 0 0 0 .no])
 | _,_=>none⟩
def Q4ps : Ent Ty El:=⟨[.ro,.ro,.ro,.ro],0,fun a h=>match a,h with
 | [.int .i64 ax,.int .i64 ay,.int .i64 bx,.int .i64 b_y],[]=>some (Qlxz ⟨ax,ay⟩ && Qlxz ⟨bx,b_y⟩,.sl .pair (Qppc ⟨ax,ay⟩ ⟨bx,b_y⟩),[])
 | _,_=>none⟩
end Lx
namespace Lx
open Go Go.Proofs
noncomputable def Qcnr : RE Ty El:=⟨Tryz.prog,CP,[],Tryz.f194,1,[],[(1,[(0,.any),(2,.any),(3,.any)])]⟩
theorem Qxwm : REOK Qcnr Q7g8:=⟨CP_ok,Qye1,by kernel_rfl,by kernel_rfl⟩
theorem Q258 (xs : List Cell) : aRun Qcnr 600 false (body0 Qcnr.fn) (Q4gm Qcnr.fn [.own 0 [] 0] [.row .pair xs 0 0 0 .no]) =
 some (.go (Qu6t Qcnr.fn 1) [.own 0 [] 0,.int .i64 (0 : Int),.int .i64 (IntKind.i64.wrap ((↑xs.length : Int) - (1 : Int)))] [.row .pair xs 0 0 0 .no]):=by kernel_rfl
theorem Qb4z (x0 : Int) (x1 : Int) (x2 : List (El .pair)) : aRun Qcnr 600 true (Qu6t Qcnr.fn 1) (cutSt Qcnr.fn (Q1m4 Qcnr (Qu6t Qcnr.fn 1)) [.own 0 [] 0,.int .i64 x0,.int .i64 x1] [.row .pair x2 0 0 0 .no]) =
 ifb (decide (x0 < x1)) (ifb (inb x1 x2.length) (ifb (inb x0 x2.length) (ifb (inb x0 x2.length) (ifb (inb x1 (x2.set x0.toNat (x2.getD x1.toNat (Qcnr.C.dflt Ty.pair))).length) (some (.go (Qu6t Qcnr.fn 1) [.own 0 [] 0,.int .i64 (IntKind.i64.wrap (x0 + (1 : Int))),.int .i64 (IntKind.i64.wrap (x1 - (1 : Int)))] [.row .pair ((x2.set x0.toNat (x2.getD x1.toNat (Qcnr.C.dflt Ty.pair))).set x1.toNat (x2.getD x0.toNat (Qcnr.C.dflt Ty.pair))) 0 0 0 .no])) (none)) (none)) (none)) (none)) (some (.ret (.tup []) [.row .pair x2 0 0 0 .no])):=by kernel_rfl
theorem Q4dl (xs : List Cell) (hn : xs.length ≤ 1000000) : ∀ (d i : Nat) (ys : List Cell),2 * (i + d) = xs.length ∨ 2 * (i + d) + 1 = xs.length → ys.length = xs.length →
  (∀ j,j < xs.length → ys[j]? = if j < i ∨ xs.length - i ≤ j then xs[xs.length - 1 - j]? else xs[j]?) →
  Cut Qcnr Q7g8 1 [.own 0 [] 0,.int .i64 (i : Int),.int .i64 ((xs.length : Int) - 1 - i)] [.row .pair ys 0 0 0 .no] (.tup []) [.row .pair xs.reverse 0 0 0 .no]:=by
 intro d
 induction d with
 | zero =>
  intro i ys hi hl hinv
  refine Cut.of Qxwm rfl (Qb4z i _ ys) ?_
  rw [decide_eq_false (by omega)]
  have : ys = xs.reverse:=by
   apply List.ext_getElem?
   intro j
   by_cases hj : j < xs.length
   ·rw [hinv j hj,List.getElem?_reverse hj]
    split
    ·rfl
    ·have : j = xs.length - 1 - j:=by omega
     rw [← this]
   ·rw [List.getElem?_eq_none (by omega),List.getElem?_eq_none (by simp; omega)]
  rw [this]
  exact Sat.ret rfl rfl
 | succ d ih =>
  intro i ys hi hl hinv
  refine Cut.of Qxwm rfl (Qb4z i _ ys) ?_
  have hk : ((xs.length : Int) - 1 - i) = ((xs.length - 1 - i : Nat) : Int):=by omega
  rw [hk]
  have hi1 : i < ys.length:=by omega
  have hi2 : xs.length - 1 - i < ys.length:=by omega
  have w1 : IntKind.wrap .i64 ((i : Int) + 1) = ((i + 1 : Nat) : Int):=by rw [Qbrg] <;> omega
  have w2 : IntKind.wrap .i64 (((xs.length - 1 - i : Nat) : Int) - 1) = (xs.length : Int) - 1 - ((i + 1 : Nat) : Int):=by rw [Qbrg] <;> omega
  have i1 : inb (i : Int) ys.length = true:=by simp only [inb,Bool.and_eq_true,decide_eq_true_eq]; omega
  have i2 : inb ((xs.length - 1 - i : Nat) : Int) ys.length = true:=by simp only [inb,Bool.and_eq_true,decide_eq_true_eq]; omega
  rw [w1,w2,Int.toNat_natCast,Int.toNat_natCast,List.length_set,i1,i2,decide_eq_true (by omega : (i : Int) < ((xs.length - 1 - i : Nat) : Int))]
  simp only [Qd8q]
  refine Sat.cut (ih (i + 1) _ (by omega) (by simp [hl]) fun j hj=>?_)
  have e1:=hinv i (by omega)
  have e2:=hinv (xs.length - 1 - i) (by omega)
  rw [if_neg (by omega)] at e1 e2
  have g1 : ys.getD i (Qcnr.C.dflt .pair) = xs[i]:=by
   rw [List.getD_eq_getElem?_getD,e1,List.getElem?_eq_getElem (by omega)]; rfl
  have g2 : ys.getD (xs.length - 1 - i) (Qcnr.C.dflt .pair) = xs[xs.length - 1 - i]:=by
   rw [List.getD_eq_getElem?_getD,e2,List.getElem?_eq_getElem (by omega)]; rfl
  rw [g1,g2,List.getElem?_set,List.length_set]
  by_cases h1 : xs.length - 1 - i = j
  ·rw [if_pos h1,if_pos (by omega),if_pos (by omega)]
   have : xs.length - 1 - j = i:=by omega
   rw [this,List.getElem?_eq_getElem (by omega)]
  ·rw [if_neg h1,List.getElem?_set]
   by_cases h2 : i = j
   ·rw [if_pos h2,if_pos (by omega),if_pos (by omega)]
    subst h2
    rw [List.getElem?_eq_getElem (by omega)]
   ·rw [if_neg h2,hinv j hj]
    by_cases h3 : j < i ∨ xs.length - i ≤ j
    ·rw [if_pos h3,if_pos (by omega)]
    ·rw [if_neg h3,if_neg (by omega)]
theorem Qeby (xs : List Cell) (hg : decide (xs.length ≤ 1000000) = true) : Qewq Tryz.prog CP Q7g8 [.own 0 [] 0] [.row .pair xs 0 0 0 .no] (.tup []) [.row .pair xs.reverse 0 0 0 .no]:=by
 refine Qewq.of Qxwm (by kernel_rfl) (Q258 xs) ?_
 have hn:=of_decide_eq_true hg
 have hw : IntKind.wrap .i64 ((xs.length : Int) - 1) = (xs.length : Int) - 1 - ((0 : Nat) : Int):=by rw [Qbrg] <;> omega
 rw [hw]
 exact Sat.cut (Q4dl xs hn (xs.length / 2) 0 xs (by omega) rfl fun j hj=>by rw [if_neg (by omega)])
theorem Qfqf : EntOK Tryz.prog CP Q7g8 Qfh3:=by
 refine ⟨⟨Tryz.f194,by kernel_rfl,by kernel_rfl,by kernel_rfl⟩,fun args H res H' h=>?_⟩
 simp only [Qfh3] at h
 split at h
 ·simp only [Option.some.injEq,Prod.mk.injEq] at h
  obtain ⟨hg,rfl,rfl⟩:=h
  exact Qeby _ hg
 ·cases h
end Lx
namespace Lx
open Go Go.Proofs
noncomputable def Qypi : RE Ty El:=⟨Tryz.prog,CP,[(Qsnv,Q0fp),(Quuj,Qcry),(Q7g8,Qfh3)],Tryz.f122,0,[.ro .pair],[(7,[(0,.any),(1,.any),(2,.any),(3,.any),(9,.any),(10,.any),(11,.any),(12,.any)])]⟩
theorem Q3u7 : REOK Qypi Qdu7:=⟨CP_ok,(TabOK.cons Qslm (TabOK.cons Qu8a (TabOK.cons Qfqf Qye1))),by kernel_rfl,by kernel_rfl⟩
theorem Qu1n (ax ay bx b_y : Int) : aRun Qypi 600 false (body0 Qypi.fn) (Q4gm Qypi.fn [.int .i64 ax,.int .i64 ay,.int .i64 bx,.int .i64 b_y] []) =
 ifb (decide (ax > bx)) (ifb (Q0d5 bx && Q0d5 ax) (ifb (Q0d5 b_y && Q0d5 ay) (some (.go (Qu6t Qypi.fn 7) [.int .i64 bx,.int .i64 b_y,.int .i64 ax,.int .i64 ay,.bool true,.int .i64 (max2A (↑(bx - ax).natAbs : Int) (↑(b_y - ay).natAbs : Int)),.own 0 [] 0,.int .i64 (0 : Int)] [.row .pair [] 0 0 0 .no])) (none)) (none)) (ifb (ax == bx) (ifb (decide (ay > b_y)) (ifb (Q0d5 bx && Q0d5 ax) (ifb (Q0d5 b_y && Q0d5 ay) (some (.go (Qu6t Qypi.fn 7) [.int .i64 bx,.int .i64 b_y,.int .i64 ax,.int .i64 ay,.bool (decide (ay > b_y)),.int .i64 (max2A (↑(bx - ax).natAbs : Int) (↑(b_y - ay).natAbs : Int)),.own 0 [] 0,.int .i64 (0 : Int)] [.row .pair [] 0 0 0 .no])) (none)) (none)) (ifb (Q0d5 ax && Q0d5 bx) (ifb (Q0d5 ay && Q0d5 b_y) (some (.go (Qu6t Qypi.fn 7) [.int .i64 ax,.int .i64 ay,.int .i64 bx,.int .i64 b_y,.bool (decide (ay > b_y)),.int .i64 (max2A (↑(ax - bx).natAbs : Int) (↑(ay - b_y).natAbs : Int)),.own 0 [] 0,.int .i64 (0 : Int)] [.row .pair [] 0 0 0 .no])) (none)) (none))) (ifb (Q0d5 ax && Q0d5 bx) (ifb (Q0d5 ay && Q0d5 b_y) (some (.go (Qu6t Qypi.fn 7) [.int .i64 ax,.int .i64 ay,.int .i64 bx,.int .i64 b_y,.bool false,.int .i64 (max2A (↑(ax - bx).natAbs : Int) (↑(ay - b_y).natAbs : Int)),.own 0 [] 0,.int .i64 (0 : Int)] [.row .pair [] 0 0 0 .no])) (none)) (none))):=by kernel_rfl
theorem Qi6n (x0 : Int) (x1 : Int) (x2 : Int) (x3 : Int) (x4 : Bool) (x5 : Int) (x6 : Int) (x7 : List (El .pair)) : aRun Qypi 600 true (Qu6t Qypi.fn 7) (cutSt Qypi.fn (Q1m4 Qypi (Qu6t Qypi.fn 7)) [.int .i64 x0,.int .i64 x1,.int .i64 x2,.int .i64 x3,.bool x4,.int .i64 x5,.own 0 [] 0,.int .i64 x6] [.row .pair x7 0 0 0 .no]) =
 ifb (decide (x6 ≤ x5)) (ifb (x5 == (0 : Int)) (ifb (decide ((x7.length + [Cell.mk x0 x1].length) * Qbhn Qypi.P (170 : Nat) ≤ (140737488355328 : Nat))) (ifb x4 (ifb (decide ((x7 ++ [Cell.mk x0 x1]).length ≤ (1000000 : Nat))) (some (.ret (.sl .pair ((x7 ++ [Cell.mk x0 x1]).reverse)) [])) (none)) (some (.ret (.sl .pair (x7 ++ [Cell.mk x0 x1])) []))) (none)) (ifb (Q0d5 (IntKind.i64.wrap (IntKind.i64.wrap (IntKind.i64.wrap ((2 : Int) * x6) * IntKind.i64.wrap (x2 - x0)) + x5)) && (Q0d5 (IntKind.i64.wrap ((2 : Int) * x5)) && decide ((0 : Int) < IntKind.i64.wrap ((2 : Int) * x5)))) (ifb (Q0d5 (IntKind.i64.wrap (IntKind.i64.wrap (IntKind.i64.wrap ((2 : Int) * x6) * IntKind.i64.wrap (x3 - x1)) + x5)) && (Q0d5 (IntKind.i64.wrap ((2 : Int) * x5)) && decide ((0 : Int) < IntKind.i64.wrap ((2 : Int) * x5)))) (ifb (decide ((x7.length + [Cell.mk (IntKind.i64.wrap (x0 + IntKind.i64.wrap (IntKind.i64.wrap (IntKind.i64.wrap ((2 : Int) * x6) * IntKind.i64.wrap (x2 - x0)) + x5) / IntKind.i64.wrap ((2 : Int) * x5))) (IntKind.i64.wrap (x1 + IntKind.i64.wrap (IntKind.i64.wrap (IntKind.i64.wrap ((2 : Int) * x6) * IntKind.i64.wrap (x3 - x1)) + x5) / IntKind.i64.wrap ((2 : Int) * x5)))].length) * Qbhn Qypi.P (170 : Nat) ≤ (140737488355328 : Nat))) (some (.go (Qu6t Qypi.fn 7) [.int .i64 x0,.int .i64 x1,.int .i64 x2,.int .i64 x3,.bool x4,.int .i64 x5,.own 0 [] 0,.int .i64 (IntKind.i64.wrap (x6 + (1 : Int)))] [.row .pair (x7 ++ [Cell.mk (IntKind.i64.wrap (x0 + IntKind.i64.wrap (IntKind.i64.wrap (IntKind.i64.wrap ((2 : Int) * x6) * IntKind.i64.wrap (x2 - x0)) + x5) / IntKind.i64.wrap ((2 : Int) * x5))) (IntKind.i64.wrap (x1 + IntKind.i64.wrap (IntKind.i64.wrap (IntKind.i64.wrap ((2 : Int) * x6) * IntKind.i64.wrap (x3 - x1)) + x5) / IntKind.i64.wrap ((2 : Int) * x5)))]) 0 0 0 .no])) (none)) (none)) (none))) (ifb x4 (ifb (decide (x7.length ≤ (1000000 : Nat))) (some (.ret (.sl .pair x7.reverse) [])) (none)) (some (.ret (.sl .pair x7) []))):=by kernel_rfl
theorem Qefh (a b : Cell) (t : Bool) (ha : Qlxz a = true) (hb : Qlxz b = true) : ∀ (d k : Nat),k + d = legN a b + 1 →
  Cut Qypi Qdu7 7 [.int .i64 a.x,.int .i64 a.y,.int .i64 b.x,.int .i64 b.y,.bool t,.int .i64 (legN a b : Int),.own 0 [] 0,.int .i64 (k : Int)] [.row .pair ((List.range k).map (legAt a b)) 0 0 0 .no] (.sl .pair (if t then (legF a b).reverse else legF a b)) []:=by
 have hn:=Q1tq ha hb
 have hbs : Qbhn Qypi.P 170 = 16:=by kernel_rfl
 simp only [Qlxz,Bool.and_eq_true,decide_eq_true_eq] at ha hb
 have fin : ∀ zs : List Cell,zs = legF a b → Sat Qypi Qdu7 (.sl .pair (if t then (legF a b).reverse else legF a b)) [] (ifb t (ifb (decide (zs.length ≤ (1000000 : Nat))) (some (.ret (.sl .pair zs.reverse) [])) (none)) (some (.ret (.sl .pair zs) []))):=fun zs hz=>by
  subst hz
  cases t with
  | true =>
   rw [decide_eq_true (by rw [legF,List.length_map,List.length_range]; omega)]
   exact Sat.ret rfl rfl
  | false=>exact Sat.ret rfl rfl
 intro d
 induction d with
 | zero =>
  intro k hk
  refine Cut.of Q3u7 rfl (Qi6n a.x a.y b.x b.y t (legN a b) k _) ?_
  rw [decide_eq_false (by omega),Qk7y]
  refine fin _ ?_
  rw [show k = legN a b + 1 by omega]; rfl
 | succ d ih =>
  intro k hk
  refine Cut.of Q3u7 rfl (Qi6n a.x a.y b.x b.y t (legN a b) k _) ?_
  rw [decide_eq_true (by omega : (k : Int) ≤ (legN a b : Int)),Qd8q,hbs]
  have hroom : ∀ x : Cell,decide ((((List.range k).map (legAt a b)).length + [x].length) * 16 ≤ 140737488355328) = true:=fun x=>decide_eq_true (by simp; omega)
  rw [hroom,hroom]
  by_cases hN : legN a b = 0
  ·have hk0 : k = 0:=by omega
   subst hk0
   rw [hN]
   refine fin _ ?_
   rw [legF,hN]
   show [(⟨a.x,a.y⟩ : Cell)] = [legAt a b 0]
   rw [Qse4]
  ·have e0 : (((legN a b : Nat) : Int) == 0) = false:=beq_eq_false_iff_ne.2 (by omega)
   have hw : IntKind.wrap .i64 ((k : Int) + 1) = ((k + 1 : Nat) : Int):=by rw [Qbrg] <;> omega
   have wx : IntKind.wrap .i64 (b.x - a.x) = b.x - a.x:=Qbrg (by omega) (by omega)
   have wy : IntKind.wrap .i64 (b.y - a.y) = b.y - a.y:=Qbrg (by omega) (by omega)
   have w2 : IntKind.wrap .i64 (2 * (k : Int)) = 2 * (k : Int):=Qbrg (by omega) (by omega)
   have w3 : IntKind.wrap .i64 (2 * (legN a b : Int)) = 2 * (legN a b : Int):=Qbrg (by omega) (by omega)
   have prod : ∀ e : Int,e.natAbs ≤ 100 → (2 * (k : Int) * e).natAbs ≤ 202 * 100:=fun e he=>by
    rw [Int.natAbs_mul]
    exact Nat.mul_le_mul (by omega) he
   have px:=prod (b.x - a.x) (by omega)
   have py:=prod (b.y - a.y) (by omega)
   have bx:=Qjpf (d:=b.x - a.x) (k:=k) (n:=(legN a b : Int)) (by omega) (M:=30000) (by omega)
   have by':=Qjpf (d:=b.y - a.y) (k:=k) (n:=(legN a b : Int)) (by omega) (M:=30000) (by omega)
   have w4 : IntKind.wrap .i64 (2 * (k : Int) * (b.x - a.x)) = 2 * (k : Int) * (b.x - a.x):=Qbrg (by omega) (by omega)
   have w5 : IntKind.wrap .i64 (2 * (k : Int) * (b.y - a.y)) = 2 * (k : Int) * (b.y - a.y):=Qbrg (by omega) (by omega)
   have w6 : IntKind.wrap .i64 (2 * (k : Int) * (b.x - a.x) + (legN a b : Int)) = 2 * (k : Int) * (b.x - a.x) + (legN a b : Int):=Qbrg (by omega) (by omega)
   have w7 : IntKind.wrap .i64 (2 * (k : Int) * (b.y - a.y) + (legN a b : Int)) = 2 * (k : Int) * (b.y - a.y) + (legN a b : Int):=Qbrg (by omega) (by omega)
   have f1 : (2 * (k : Int) * (b.x - a.x) + (legN a b : Int)) / (2 * (legN a b : Int)) = partF (b.x - a.x) k (legN a b):=rfl
   have f2 : (2 * (k : Int) * (b.y - a.y) + (legN a b : Int)) / (2 * (legN a b : Int)) = partF (b.y - a.y) k (legN a b):=rfl
   have w8 : IntKind.wrap .i64 (a.x + partF (b.x - a.x) k (legN a b)) = a.x + partF (b.x - a.x) k (legN a b):=Qbrg (by omega) (by omega)
   have w9 : IntKind.wrap .i64 (a.y + partF (b.y - a.y) k (legN a b)) = a.y + partF (b.y - a.y) k (legN a b):=Qbrg (by omega) (by omega)
   have s1 : Q0d5 (2 * (k : Int) * (b.x - a.x) + (legN a b : Int)) = true:=by simp only [Q0d5,Bool.and_eq_true,decide_eq_true_eq]; omega
   have s2 : Q0d5 (2 * (k : Int) * (b.y - a.y) + (legN a b : Int)) = true:=by simp only [Q0d5,Bool.and_eq_true,decide_eq_true_eq]; omega
   have s3 : Q0d5 (2 * (legN a b : Int)) = true:=by simp only [Q0d5,Bool.and_eq_true,decide_eq_true_eq]; omega
   rw [e0,Qk7y,wx,wy,w2,w3,w4,w5,w6,w7,s1,s2,s3,f1,f2,w8,w9,hw,decide_eq_true (by omega : (0 : Int) < 2 * (legN a b : Int))]
   simp only [Qd8q,Bool.and_self]
   have:=ih (k + 1) (by omega)
   rw [List.range_succ,List.map_append] at this
   have e : legAt a b k = ⟨a.x + partF (b.x - a.x) k (legN a b),a.y + partF (b.y - a.y) k (legN a b)⟩:=by unfold legAt; rw [if_neg hN]
   rw [List.map_cons,List.map_nil,e] at this
   exact Sat.cut this
theorem Qndp (ax ay bx b_y : Int) (hg : (Qlxz ⟨ax,ay⟩ && Qlxz ⟨bx,b_y⟩) = true) : Qewq Tryz.prog CP Qdu7 [.int .i64 ax,.int .i64 ay,.int .i64 bx,.int .i64 b_y] [] (.sl .pair (Qppc ⟨ax,ay⟩ ⟨bx,b_y⟩)) []:=by
 refine Qewq.of Q3u7 (by kernel_rfl) (Qu1n ax ay bx b_y) ?_
 simp only [Bool.and_eq_true] at hg
 obtain ⟨ha,hb⟩:=hg
 have h1:=Qefh ⟨ax,ay⟩ ⟨bx,b_y⟩ false ha hb _ 0 (Nat.zero_add _)
 have h2:=Qefh ⟨bx,b_y⟩ ⟨ax,ay⟩ true hb ha _ 0 (Nat.zero_add _)
 simp only [Qlxz,Bool.and_eq_true,decide_eq_true_eq] at ha hb
 have m : ∀ x y : Int,0 ≤ x → x ≤ 100 → 0 ≤ y → y ≤ 100 → (Q0d5 x && Q0d5 y) = true:=fun x y _ _ _ _=>by simp only [Q0d5,Bool.and_eq_true,decide_eq_true_eq]; omega
 have n1 : max2A ((ax - bx).natAbs : Int) ((ay - b_y).natAbs : Int) = (legN ⟨ax,ay⟩ ⟨bx,b_y⟩ : Int):=by
  unfold max2A legN
  simp only
  split <;> omega
 have n2 : max2A ((bx - ax).natAbs : Int) ((b_y - ay).natAbs : Int) = (legN ⟨bx,b_y⟩ ⟨ax,ay⟩ : Int):=by
  unfold max2A legN
  simp only
  split <;> omega
 rw [m ax bx (by omega) (by omega) (by omega) (by omega),m ay b_y (by omega) (by omega) (by omega) (by omega),m bx ax (by omega) (by omega) (by omega) (by omega),m b_y ay (by omega) (by omega) (by omega) (by omega),n1,n2]
 simp only [Qd8q]
 by_cases c1 : ax > bx
 ·rw [decide_eq_true c1]
  rw [show Qppc ⟨ax,ay⟩ ⟨bx,b_y⟩ = (legF ⟨bx,b_y⟩ ⟨ax,ay⟩).reverse by rw [Qppc,if_pos (by simp [Qdow]; omega)]]
  exact Sat.cut h2
 ·rw [decide_eq_false c1]
  by_cases c2 : ax = bx
  ·rw [beq_iff_eq.2 c2]
   by_cases c3 : ay > b_y
   ·rw [decide_eq_true c3]
    rw [show Qppc ⟨ax,ay⟩ ⟨bx,b_y⟩ = (legF ⟨bx,b_y⟩ ⟨ax,ay⟩).reverse by rw [Qppc,if_pos (by simp [Qdow]; omega)]]
    exact Sat.cut h2
   ·rw [decide_eq_false c3]
    rw [show Qppc ⟨ax,ay⟩ ⟨bx,b_y⟩ = legF ⟨ax,ay⟩ ⟨bx,b_y⟩ by rw [Qppc,if_neg (by simp [Qdow]; omega)]]
    exact Sat.cut h1
  ·rw [beq_eq_false_iff_ne.2 c2]
   rw [show Qppc ⟨ax,ay⟩ ⟨bx,b_y⟩ = legF ⟨ax,ay⟩ ⟨bx,b_y⟩ by rw [Qppc,if_neg (by simp [Qdow]; omega)]]
   exact Sat.cut h1
theorem Q6da : EntOK Tryz.prog CP Qdu7 Q4ps:=by
 refine ⟨⟨Tryz.f122,by kernel_rfl,by kernel_rfl,by kernel_rfl⟩,fun args H res H' h=>?_⟩
 simp only [Q4ps] at h
 split at h
 ·simp only [Option.some.injEq,Prod.mk.injEq] at h
  obtain ⟨hg,rfl,rfl⟩:=h
  exact Qndp _ _ _ _ hg
 ·cases h
end Lx
