/- What is new in a book. -/
import Derived.Test.YtefjaihaocdpcaaGreatDoorLkmldigpjdk
import Derived.Test.YtefjaihaocdpcaaGreatDoorLnjkjjjdplh
set_option linter.unusedVariables false
set_option linter.unusedSimpArgs false
set_option maxRecDepth 4000
namespace Lx
open Go Go.Proofs
noncomputable def Qzsf : RE Ty El:=⟨Tryz.prog,CP,[(Qdfk,Q124),(Qmme,Ql6z)],Tryz.f56,0,[.ro .chg],[(5,[(2,.any),(3,.any),(5,.any),(6,.any)]),(8,[(2,.any),(3,.any),(5,.any),(6,.any),(7,.any)])]⟩
theorem Q1vu : REOK Qzsf Q9b2:=⟨CP_ok,(TabOK.cons Q8cq (TabOK.cons Qk6f Qye1)),by kernel_rfl,by kernel_rfl⟩
theorem Qv64 (ks : List Kind) (ps : List Point) (es : List Entry) (ks2 : List Kind) (ps2 : List Point) (es2 : List Entry) : aRun Qzsf 600 false (body0 Qzsf.fn) (Q4gm Qzsf.fn [.agg [.sl .kind ks,.sl .point ps,.sl .entry es],.agg [.sl .kind ks2,.sl .point ps2,.sl .entry es2]] []) =
 ifb (szB es) (ifb (!Qn0o ks ps es) (some (.ret (.sl .chg []) [])) (ifb (szB es2) (ifb (!Qn0o ks2 ps2 es2) (some (.ret (.sl .chg []) [])) (some (.go (Qu6t Qzsf.fn 5) [.ptr 0 0,.ptr 1 0,.own 2 [] 0,.int .i64 0] [.box [.sl .kind ks,.sl .point ps,.sl .entry es],.box [.sl .kind ks2,.sl .point ps2,.sl .entry es2],.row .chg [] 0 0 0 .no]))) (none))) (none):=by kernel_rfl
theorem Q8lp (x0 : Int) (x1 : List (El .kind)) (x2 : List (El .point)) (x3 : List (El .entry)) (x4 : List (El .kind)) (x5 : List (El .point)) (x6 : List (El .entry)) (x7 : List (El .chg)) : aRun Qzsf 600 true (Qu6t Qzsf.fn 5) (cutSt Qzsf.fn (Q1m4 Qzsf (Qu6t Qzsf.fn 5)) [.ptr 0 0,.ptr 1 0,.own 2 [] 0,.int .i64 x0] [.box [.sl .kind x1,.sl .point x2,.sl .entry x3],.box [.sl .kind x4,.sl .point x5,.sl .entry x6],.row .chg x7 0 0 0 .no]) =
 ifb (decide (x0 < (↑x6.length : Int))) (some (.go (Qu6t Qzsf.fn 8) [.ptr 0 0,.ptr 1 0,.own 2 [] 0,.int .i64 x0,.int .i64 0] [.box [.sl .kind x1,.sl .point x2,.sl .entry x3],.box [.sl .kind x4,.sl .point x5,.sl .entry x6],.row .chg x7 0 0 0 .no])) (some (.ret (.sl .chg x7) [])):=by kernel_rfl
theorem Qtyo (x0 : Int) (x1 : Int) (x2 : List (El .kind)) (x3 : List (El .point)) (x4 : List (El .entry)) (x5 : List (El .kind)) (x6 : List (El .point)) (x7 : List (El .entry)) (x8 : List (El .chg)) : aRun Qzsf 600 true (Qu6t Qzsf.fn 8) (cutSt Qzsf.fn (Q1m4 Qzsf (Qu6t Qzsf.fn 8)) [.ptr 0 0,.ptr 1 0,.own 2 [] 0,.int .i64 x0,.int .i64 x1] [.box [.sl .kind x2,.sl .point x3,.sl .entry x4],.box [.sl .kind x5,.sl .point x6,.sl .entry x7],.row .chg x8 0 0 0 .no]) =
 ifb (inb x0 x7.length) (ifb (decide (x1 < (↑(x7.getD x0.toNat (Qzsf.C.dflt Ty.entry)).fields.length : Int))) (ifb (inb x0 x7.length) (ifb (inb x1 (x7.getD x0.toNat (Qzsf.C.dflt Ty.entry)).fields.length) (ifb (inb x0 x7.length) (ifb (decide (x4.length < (1000000000 : Nat)) && x4.all szE) (ifb (!hasF x4 (x7.getD x0.toNat (Qzsf.C.dflt Ty.entry)).name ((x7.getD x0.toNat (Qzsf.C.dflt Ty.entry)).fields.getD x1.toNat (Qzsf.C.dflt Ty.fld))) (ifb (inb x0 x7.length) (ifb (decide ((x8.length + [Chg.mk (x7.getD x0.toNat (Qzsf.C.dflt Ty.entry)).name ((x7.getD x0.toNat (Qzsf.C.dflt Ty.entry)).fields.getD x1.toNat (Qzsf.C.dflt Ty.fld)).what ((x7.getD x0.toNat (Qzsf.C.dflt Ty.entry)).fields.getD x1.toNat (Qzsf.C.dflt Ty.fld)).number ((x7.getD x0.toNat (Qzsf.C.dflt Ty.entry)).fields.getD x1.toNat (Qzsf.C.dflt Ty.fld)).value].length) * Qbhn Qzsf.P (51 : Nat) ≤ (140737488355328 : Nat))) (some (.go (Qu6t Qzsf.fn 8) [.ptr 0 0,.ptr 1 0,.own 2 [] 0,.int .i64 x0,.int .i64 (IntKind.i64.wrap (x1 + 1))] [.box [.sl .kind x2,.sl .point x3,.sl .entry x4],.box [.sl .kind x5,.sl .point x6,.sl .entry x7],.row .chg (x8 ++ [Chg.mk (x7.getD x0.toNat (Qzsf.C.dflt Ty.entry)).name ((x7.getD x0.toNat (Qzsf.C.dflt Ty.entry)).fields.getD x1.toNat (Qzsf.C.dflt Ty.fld)).what ((x7.getD x0.toNat (Qzsf.C.dflt Ty.entry)).fields.getD x1.toNat (Qzsf.C.dflt Ty.fld)).number ((x7.getD x0.toNat (Qzsf.C.dflt Ty.entry)).fields.getD x1.toNat (Qzsf.C.dflt Ty.fld)).value]) 0 0 0 .no])) (none)) (none)) (some (.go (Qu6t Qzsf.fn 8) [.ptr 0 0,.ptr 1 0,.own 2 [] 0,.int .i64 x0,.int .i64 (IntKind.i64.wrap (x1 + 1))] [.box [.sl .kind x2,.sl .point x3,.sl .entry x4],.box [.sl .kind x5,.sl .point x6,.sl .entry x7],.row .chg x8 0 0 0 .no]))) (none)) (none)) (none)) (none)) (some (.go (Qu6t Qzsf.fn 5) [.ptr 0 0,.ptr 1 0,.own 2 [] 0,.int .i64 (IntKind.i64.wrap (x0 + 1))] [.box [.sl .kind x2,.sl .point x3,.sl .entry x4],.box [.sl .kind x5,.sl .point x6,.sl .entry x7],.row .chg x8 0 0 0 .no]))) (none):=by kernel_rfl
theorem Q04m (ks : List Kind) (ps : List Point) (es : List Entry) (ks2 : List Kind) (ps2 : List Point) (es2 : List Entry) (hz : (decide (es.length < (1000000000 : Nat)) && es.all szE) = true) (i : Nat) (hlt : i < es2.length) (h5 : es2[i].fields.length ≤ 5) (nx : ∀ cs : List Chg,cs.length ≤ 10 * (i + 1) → Cut Qzsf Q9b2 5 [.ptr 0 0,.ptr 1 0,.own 2 [] 0,.int .i64 ((i + 1 : Nat) : Int)] [.box [.sl .kind ks,.sl .point ps,.sl .entry es],.box [.sl .kind ks2,.sl .point ps2,.sl .entry es2],.row .chg cs 0 0 0 .no] (.sl .chg (cs ++ newsE es (es2.drop (i + 1)))) []) (hi9 : i ≤ 1000) : ∀ (d k : Nat) (cs : List Chg),k + d = es2[i].fields.length → cs.length ≤ 10 * i + k →
  Cut Qzsf Q9b2 8 [.ptr 0 0,.ptr 1 0,.own 2 [] 0,.int .i64 (i : Int),.int .i64 (k : Int)] [.box [.sl .kind ks,.sl .point ps,.sl .entry es],.box [.sl .kind ks2,.sl .point ps2,.sl .entry es2],.row .chg cs 0 0 0 .no] (.sl .chg (cs ++ (newsL es es2[i].name (es2[i].fields.drop k) ++ newsE es (es2.drop (i + 1))))) []:=by
 have hbb : Qbhn Qzsf.P 51 ≤ 256:=of_decide_eq_true (by kernel_rfl)
 have hxe : es2.getD (i : Int).toNat (Qzsf.C.dflt .entry) = es2[i]:=by simp [hlt]
 have hie : inb (i : Int) es2.length = true:=by simp only [inb,qaT,qdT]; omega
 have hwe : IntKind.wrap .i64 ((i : Int) + 1) = ((i + 1 : Nat) : Int):=by rw [Qbrg] <;> omega
 intro d
 induction d with
 | zero =>
  intro k cs hk hc
  refine Cut.of Q1vu rfl (Qtyo i k ks ps es ks2 ps2 es2 cs) ?_
  rw [hxe,hie,hwe,show decide ((k : Int) < (es2[i].fields.length : Int)) = false from decide_eq_false (by omega),List.drop_of_length_le (by omega)]
  exact Sat.cut (nx cs (by omega))
 | succ d ih =>
  intro k cs hk hc
  refine Cut.of Q1vu rfl (Qtyo i k ks ps es ks2 ps2 es2 cs) ?_
  rw [hxe,hie,hz]
  generalize es2[i] = e at *
  obtain ⟨nm,l⟩:=e
  simp only at *
  have hlt2 : k < l.length:=by omega
  have hw2 : IntKind.wrap .i64 ((k : Int) + 1) = ((k + 1 : Nat) : Int):=by rw [Qbrg] <;> omega
  have hd2 : l.drop k = l[k] :: l.drop (k + 1):=qdC hlt2
  have hx2 : l.getD (k : Int).toNat (Qzsf.C.dflt .fld) = l[k]:=by simp [hlt2]
  have hin2 : inb (k : Int) l.length = true:=by simp only [inb,qaT,qdT]; omega
  have hlo2 : decide ((k : Int) < (l.length : Int)) = true:=decide_eq_true (by omega)
  rw [hlo2,hin2,hx2,hw2,hd2]
  simp only [Qd8q]
  refine Sat.ifb (fun h=>?_) (fun h=>?_)
  ·have nx2:=ih (k + 1) (cs ++ [⟨nm,l[k].what,l[k].number,l[k].value⟩]) (by omega) (by simp; omega)
   rw [show newsL es nm (l[k] :: l.drop (k + 1)) = ⟨nm,l[k].what,l[k].number,l[k].value⟩ :: newsL es nm (l.drop (k + 1)) by simp only [newsL,List.filter_cons,h,if_true,List.map_cons],Q1mk hbb (by simp; omega)]
   rw [List.append_assoc] at nx2
   exact Sat.cut nx2
  ·have nx2:=ih (k + 1) cs (by omega) (by omega)
   rw [show newsL es nm (l[k] :: l.drop (k + 1)) = newsL es nm (l.drop (k + 1)) by simp only [newsL,List.filter_cons,h,Bool.false_eq_true,if_false]]
   exact Sat.cut nx2
theorem Qxm9 (ks : List Kind) (ps : List Point) (es : List Entry) (ks2 : List Kind) (ps2 : List Point) (es2 : List Entry) (hz : (decide (es.length < (1000000000 : Nat)) && es.all szE) = true) (h12 : es2.length ≤ 12) (h5 : ∀ e ∈ es2,e.fields.length ≤ 5) : ∀ (d i : Nat) (cs : List Chg),i + d = es2.length → cs.length ≤ 10 * i → Cut Qzsf Q9b2 5 [.ptr 0 0,.ptr 1 0,.own 2 [] 0,.int .i64 (i : Int)] [.box [.sl .kind ks,.sl .point ps,.sl .entry es],.box [.sl .kind ks2,.sl .point ps2,.sl .entry es2],.row .chg cs 0 0 0 .no] (.sl .chg (cs ++ newsE es (es2.drop i))) []:=by
 intro d
 induction d with
 | zero =>
  intro i cs hi hc
  refine Cut.of Q1vu rfl (Q8lp i ks ps es ks2 ps2 es2 cs) ?_
  rw [show decide ((i : Int) < (es2.length : Int)) = false from decide_eq_false (by omega),List.drop_of_length_le (by omega)]
  exact Sat.ret (by simp [newsE]) rfl
 | succ d ih =>
  intro i cs hi hc
  refine Cut.of Q1vu rfl (Q8lp i ks ps es ks2 ps2 es2 cs) ?_
  have hlt : i < es2.length:=by omega
  rw [show decide ((i : Int) < (es2.length : Int)) = true from decide_eq_true (by omega)]
  have nx:=Q04m ks ps es ks2 ps2 es2 hz i hlt (h5 _ (List.getElem_mem hlt)) (fun cs hc=>ih (i + 1) cs (by omega) hc) (by omega) es2[i].fields.length 0 cs (by omega) (by omega)
  rw [List.drop_zero] at nx
  rw [qdC hlt]
  exact Sat.cut nx
theorem Qehs (ks : List Kind) (ps : List Point) (es : List Entry) (ks2 : List Kind) (ps2 : List Point) (es2 : List Entry) (hg : newsK es es2 = true) : Qewq Tryz.prog CP Q9b2 [.agg [.sl .kind ks,.sl .point ps,.sl .entry es],.agg [.sl .kind ks2,.sl .point ps2,.sl .entry es2]] [] (.sl .chg (newsF ks ps es ks2 ps2 es2)) []:=by
 refine Qewq.of Q1vu (by kernel_rfl) (Qv64 ks ps es ks2 ps2 es2) ?_
 simp only [newsK,qaT,qdT] at hg
 obtain ⟨⟨hz,h9⟩,hz2,h92⟩:=hg
 have hz':=hz
 simp only [szB,qaT] at hz'
 rw [hz,hz2]
 simp only [Qd8q]
 cases hb : Qn0o ks ps es with
 | false =>
  rw [newsF,if_neg (by simp [hb])]
  exact Sat.ret rfl rfl
 | true =>
  cases hb2 : Qn0o ks2 ps2 es2 with
  | false =>
   rw [newsF,if_neg (by simp [hb2])]
   exact Sat.ret rfl rfl
  | true =>
   rw [newsF,if_pos ⟨hb,hb2⟩]
   obtain ⟨l1,l2⟩:=Qm34 hb2
   exact Sat.cut (Qxm9 ks ps es ks2 ps2 es2 (by rw [decide_eq_true h9,hz'.2]; rfl) l1 l2 es2.length 0 [] (by omega) (by simp))
theorem Q8p0 : EntOK Tryz.prog CP Q9b2 Qa5d:=by
 refine ⟨eob (by kernel_rfl),fun _ _ _ _ h=>?_⟩
 simp only [Qa5d] at h
 split at h
 ·obtain ⟨hg,rfl,rfl⟩:=eoh h
  exact Qehs _ _ _ _ _ _ hg
 ·cases h
end Lx
namespace Lx
open Go Go.Proofs
def Qh54 : Ent Ty El:=Qa5d
theorem Qvqt (es : List Entry) (n : Str) (f : Fld) : hasF es n f = match fldF es n f.what with
  | some g=>!Fld.later f g
  | none=>false:=by
 by_cases h0 : 0 ≤ entIx es n
 ·rcases Qur7 (fun e : Entry=>e.name == n) (dfltP .entry) es with ⟨h1,_⟩ | ⟨_,h2⟩
  ·have : entIx es n = idxF (fun k : Entry=>k.name == n) es:=rfl
   omega
  ·rw [hasF,if_pos h0,fldF,h2]
   rfl
 ·rw [hasF,if_neg h0,Qf80 h0]
end Lx
namespace Lx
open Go Go.Proofs
noncomputable def Qpgb : RE Ty El:=⟨Tryz.prog,CP,[(Qaev,Qjv4),(Qbgv,Qai8),(Qcg7,Qdx1)],Tryz.f54,0,[.ro .chg],[(5,[(2,.any),(5,.any),(21,.any),(22,.any),(23,.any)]),(8,[(2,.any),(5,.any),(7,.any),(21,.any),(22,.any),(23,.any),(28,.any),(29,.any),(30,.any)])]⟩
theorem Qh7a : REOK Qpgb Q33a:=⟨CP_ok,(TabOK.cons Qwza (TabOK.cons Qkkz (TabOK.cons Q2xi Qye1))),by kernel_rfl,by kernel_rfl⟩
theorem Q73c (ks : List Kind) (ps : List Point) (es : List Entry) (ks2 : List Kind) (ps2 : List Point) (es2 : List Entry) : aRun Qpgb 600 false (body0 Qpgb.fn) (Q4gm Qpgb.fn [.agg [.sl .kind ks,.sl .point ps,.sl .entry es],.agg [.sl .kind ks2,.sl .point ps2,.sl .entry es2]] []) =
 ifb (szB es) (ifb (!Qn0o ks ps es) (some (.ret (.sl .chg []) [])) (ifb (szB es2) (ifb (!Qn0o ks2 ps2 es2) (some (.ret (.sl .chg []) [])) (some (.go (Qu6t Qpgb.fn 5) [.ptr 0 0,.own 1 [] 0,.sl .entry es2,.int .i64 (↑es2.length : Int),.int .i64 0] [.box [.sl .kind ks,.sl .point ps,.sl .entry es],.row .chg [] 0 0 0 .no]))) (none))) (none):=by kernel_rfl
theorem Q6dz (x0 : List (El .entry)) (x1 : Int) (x2 : Int) (x3 : List (El .kind)) (x4 : List (El .point)) (x5 : List (El .entry)) (x6 : List (El .chg)) : aRun Qpgb 600 true (Qu6t Qpgb.fn 5) (cutSt Qpgb.fn (Q1m4 Qpgb (Qu6t Qpgb.fn 5)) [.ptr 0 0,.own 1 [] 0,.sl .entry x0,.int .i64 x1,.int .i64 x2] [.box [.sl .kind x3,.sl .point x4,.sl .entry x5],.row .chg x6 0 0 0 .no]) =
 ifb (decide (x2 < x1)) (ifb (inb x2 x0.length) (some (.go (Qu6t Qpgb.fn 8) [.ptr 0 0,.own 1 [] 0,.ptr 2 0,.sl .entry x0,.int .i64 x1,.int .i64 x2,.sl .fld ((x0.getD x2.toNat (Qpgb.C.dflt Ty.entry)).fields),.int .i64 ((↑(x0.getD x2.toNat (Qpgb.C.dflt Ty.entry)).fields.length : Int)),.int .i64 0] [.box [.sl .kind x3,.sl .point x4,.sl .entry x5],.row .chg x6 0 0 0 .no,.box [.str ((x0.getD x2.toNat (Qpgb.C.dflt Ty.entry)).name),.sl .fld ((x0.getD x2.toNat (Qpgb.C.dflt Ty.entry)).fields)]])) (none)) (some (.ret (.sl .chg x6) [])):=by kernel_rfl
theorem Qfci (x0 : List (El .entry)) (x1 : Int) (x2 : Int) (x3 : List (El .fld)) (x4 : Int) (x5 : Int) (x6 : List (El .kind)) (x7 : List (El .point)) (x8 : List (El .entry)) (x9 : List (El .chg)) (x10 : Str) (x11 : List (El .fld)) : aRun Qpgb 600 true (Qu6t Qpgb.fn 8) (cutSt Qpgb.fn (Q1m4 Qpgb (Qu6t Qpgb.fn 8)) [.ptr 0 0,.own 1 [] 0,.ptr 2 0,.sl .entry x0,.int .i64 x1,.int .i64 x2,.sl .fld x3,.int .i64 x4,.int .i64 x5] [.box [.sl .kind x6,.sl .point x7,.sl .entry x8],.row .chg x9 0 0 0 .no,.box [.str x10,.sl .fld x11]]) =
 ifb (decide (x5 < x4)) (ifb (inb x5 x3.length) (ifb (decide (x8.length < (1000000000 : Nat)) && x8.all szE) (ifb (!(fldF x8 x10 (x3.getD x5.toNat (Qpgb.C.dflt Ty.fld)).what).isSome) (ifb (decide ((x9.length + [Chg.mk x10 (x3.getD x5.toNat (Qpgb.C.dflt Ty.fld)).what (x3.getD x5.toNat (Qpgb.C.dflt Ty.fld)).number (x3.getD x5.toNat (Qpgb.C.dflt Ty.fld)).value].length) * Qbhn Qpgb.P (51 : Nat) ≤ (140737488355328 : Nat))) (some (.go (Qu6t Qpgb.fn 8) [.ptr 0 0,.own 1 [] 0,.ptr 2 0,.sl .entry x0,.int .i64 x1,.int .i64 x2,.sl .fld x3,.int .i64 x4,.int .i64 (IntKind.i64.wrap (x5 + 1))] [.box [.sl .kind x6,.sl .point x7,.sl .entry x8],.row .chg (x9 ++ [Chg.mk x10 (x3.getD x5.toNat (Qpgb.C.dflt Ty.fld)).what (x3.getD x5.toNat (Qpgb.C.dflt Ty.fld)).number (x3.getD x5.toNat (Qpgb.C.dflt Ty.fld)).value]) 0 0 0 .no,.box [.str x10,.sl .fld x11]])) (none)) (ifb (Fld.later (x3.getD x5.toNat (Qpgb.C.dflt Ty.fld)) ((fldF x8 x10 (x3.getD x5.toNat (Qpgb.C.dflt Ty.fld)).what).getD fld0)) (ifb (decide ((x9.length + [Chg.mk x10 (x3.getD x5.toNat (Qpgb.C.dflt Ty.fld)).what (x3.getD x5.toNat (Qpgb.C.dflt Ty.fld)).number (x3.getD x5.toNat (Qpgb.C.dflt Ty.fld)).value].length) * Qbhn Qpgb.P (51 : Nat) ≤ (140737488355328 : Nat))) (some (.go (Qu6t Qpgb.fn 8) [.ptr 0 0,.own 1 [] 0,.ptr 2 0,.sl .entry x0,.int .i64 x1,.int .i64 x2,.sl .fld x3,.int .i64 x4,.int .i64 (IntKind.i64.wrap (x5 + 1))] [.box [.sl .kind x6,.sl .point x7,.sl .entry x8],.row .chg (x9 ++ [Chg.mk x10 (x3.getD x5.toNat (Qpgb.C.dflt Ty.fld)).what (x3.getD x5.toNat (Qpgb.C.dflt Ty.fld)).number (x3.getD x5.toNat (Qpgb.C.dflt Ty.fld)).value]) 0 0 0 .no,.box [.str x10,.sl .fld x11]])) (none)) (some (.go (Qu6t Qpgb.fn 8) [.ptr 0 0,.own 1 [] 0,.ptr 2 0,.sl .entry x0,.int .i64 x1,.int .i64 x2,.sl .fld x3,.int .i64 x4,.int .i64 (IntKind.i64.wrap (x5 + 1))] [.box [.sl .kind x6,.sl .point x7,.sl .entry x8],.row .chg x9 0 0 0 .no,.box [.str x10,.sl .fld x11]])))) (none)) (none)) (some (.go (Qu6t Qpgb.fn 5) [.ptr 0 0,.own 1 [] 0,.sl .entry x0,.int .i64 x1,.int .i64 (IntKind.i64.wrap (x2 + 1))] [.box [.sl .kind x6,.sl .point x7,.sl .entry x8],.row .chg x9 0 0 0 .no])):=by kernel_rfl
theorem Q1sq (ks : List Kind) (ps : List Point) (es : List Entry) (ks2 : List Kind) (ps2 : List Point) (es2 : List Entry) (hz : (decide (es.length < (1000000000 : Nat)) && es.all szE) = true) (i : Nat) (hlt : i < es2.length) (h5 : es2[i].fields.length ≤ 5) (nx : ∀ cs : List Chg,cs.length ≤ 10 * (i + 1) → Cut Qpgb Q33a 5 [.ptr 0 0,.own 1 [] 0,.sl .entry es2,.int .i64 (es2.length : Int),.int .i64 ((i + 1 : Nat) : Int)] [.box [.sl .kind ks,.sl .point ps,.sl .entry es],.row .chg cs 0 0 0 .no] (.sl .chg (cs ++ newsE es (es2.drop (i + 1)))) []) (hi9 : i ≤ 1000) : ∀ (d k : Nat) (cs : List Chg),k + d = es2[i].fields.length → cs.length ≤ 10 * i + k →
  Cut Qpgb Q33a 8 [.ptr 0 0,.own 1 [] 0,.ptr 2 0,.sl .entry es2,.int .i64 (es2.length : Int),.int .i64 (i : Int),.sl .fld es2[i].fields,.int .i64 (es2[i].fields.length : Int),.int .i64 (k : Int)] [.box [.sl .kind ks,.sl .point ps,.sl .entry es],.row .chg cs 0 0 0 .no,.box [.str es2[i].name,.sl .fld es2[i].fields]] (.sl .chg (cs ++ (newsL es es2[i].name (es2[i].fields.drop k) ++ newsE es (es2.drop (i + 1))))) []:=by
 have hbb : Qbhn Qpgb.P 51 ≤ 256:=of_decide_eq_true (by kernel_rfl)
 have hxe : es2.getD (i : Int).toNat (Qpgb.C.dflt .entry) = es2[i]:=by simp [hlt]
 have hie : inb (i : Int) es2.length = true:=by simp only [inb,qaT,qdT]; omega
 have hwe : IntKind.wrap .i64 ((i : Int) + 1) = ((i + 1 : Nat) : Int):=by rw [Qbrg] <;> omega
 intro d
 induction d with
 | zero =>
  intro k cs hk hc
  refine Cut.of Qh7a rfl (Qfci es2 es2.length i es2[i].fields es2[i].fields.length k ks ps es cs es2[i].name es2[i].fields) ?_
  rw [hwe,show decide ((k : Int) < (es2[i].fields.length : Int)) = false from decide_eq_false (by omega),List.drop_of_length_le (by omega)]
  exact Sat.cut (nx cs (by omega))
 | succ d ih =>
  intro k cs hk hc
  refine Cut.of Qh7a rfl (Qfci es2 es2.length i es2[i].fields es2[i].fields.length k ks ps es cs es2[i].name es2[i].fields) ?_
  generalize es2[i] = e at *
  obtain ⟨nm,l⟩:=e
  simp only at *
  have hlt2 : k < l.length:=by omega
  have hw2 : IntKind.wrap .i64 ((k : Int) + 1) = ((k + 1 : Nat) : Int):=by rw [Qbrg] <;> omega
  have hd2 : l.drop k = l[k] :: l.drop (k + 1):=qdC hlt2
  have hx2 : l.getD (k : Int).toNat (Qpgb.C.dflt .fld) = l[k]:=by simp [hlt2]
  have hin2 : inb (k : Int) l.length = true:=by simp only [inb,qaT,qdT]; omega
  have hlo2 : decide ((k : Int) < (l.length : Int)) = true:=decide_eq_true (by omega)
  rw [hlo2,hin2,hx2,hw2,hd2,hz]
  simp only [Qd8q]
  have hh:=Qvqt es nm l[k]
  have pos : hasF es nm l[k] = false → newsL es nm (l[k] :: l.drop (k + 1)) = ⟨nm,l[k].what,l[k].number,l[k].value⟩ :: newsL es nm (l.drop (k + 1)):=fun h=>by simp only [newsL,List.filter_cons,h,Bool.not_false,if_true,List.map_cons]
  have neg : hasF es nm l[k] = true → newsL es nm (l[k] :: l.drop (k + 1)) = newsL es nm (l.drop (k + 1)):=fun h=>by simp only [newsL,List.filter_cons,h,Bool.not_true,Bool.false_eq_true,if_false]
  have n1:=ih (k + 1) (cs ++ [⟨nm,l[k].what,l[k].number,l[k].value⟩]) (by omega) (by simp; omega)
  rw [List.append_assoc] at n1
  have n2:=ih (k + 1) cs (by omega) (by omega)
  have hroom : decide ((cs.length + [(⟨nm,l[k].what,l[k].number,l[k].value⟩ : Chg)].length) * Qbhn Qpgb.P 51 ≤ 140737488355328) = true:=Q1mk hbb (by simp; omega)
  rw [hroom]
  cases hf : fldF es nm l[k].what with
  | none =>
   rw [hf] at hh
   rw [pos hh]
   exact Sat.cut n1
  | some g =>
   rw [hf] at hh
   simp only [Option.isSome_some,Bool.not_true,Qk7y,Option.getD_some,Qd8q]
   refine Sat.ifb (fun h=>?_) (fun h=>?_)
   ·rw [pos (by rw [hh]; simp only [h,Bool.not_true])]
    exact Sat.cut n1
   ·rw [neg (by rw [hh]; simp only [h,Bool.not_false])]
    exact Sat.cut n2
theorem Qgbx (ks : List Kind) (ps : List Point) (es : List Entry) (ks2 : List Kind) (ps2 : List Point) (es2 : List Entry) (hz : (decide (es.length < (1000000000 : Nat)) && es.all szE) = true) (h12 : es2.length ≤ 12) (h5 : ∀ e ∈ es2,e.fields.length ≤ 5) : ∀ (d i : Nat) (cs : List Chg),i + d = es2.length → cs.length ≤ 10 * i → Cut Qpgb Q33a 5 [.ptr 0 0,.own 1 [] 0,.sl .entry es2,.int .i64 (es2.length : Int),.int .i64 (i : Int)] [.box [.sl .kind ks,.sl .point ps,.sl .entry es],.row .chg cs 0 0 0 .no] (.sl .chg (cs ++ newsE es (es2.drop i))) []:=by
 intro d
 induction d with
 | zero =>
  intro i cs hi hc
  refine Cut.of Qh7a rfl (Q6dz es2 es2.length i ks ps es cs) ?_
  rw [show decide ((i : Int) < (es2.length : Int)) = false from decide_eq_false (by omega),List.drop_of_length_le (by omega)]
  exact Sat.ret (by simp [newsE]) rfl
 | succ d ih =>
  intro i cs hi hc
  refine Cut.of Qh7a rfl (Q6dz es2 es2.length i ks ps es cs) ?_
  have hlt : i < es2.length:=by omega
  have hxe : es2.getD (i : Int).toNat (Qpgb.C.dflt .entry) = es2[i]:=by simp [hlt]
  have hie : inb (i : Int) es2.length = true:=by simp only [inb,qaT,qdT]; omega
  rw [show decide ((i : Int) < (es2.length : Int)) = true from decide_eq_true (by omega),hie,hxe]
  have nx:=Q1sq ks ps es ks2 ps2 es2 hz i hlt (h5 _ (List.getElem_mem hlt)) (fun cs hc=>ih (i + 1) cs (by omega) hc) (by omega) es2[i].fields.length 0 cs (by omega) (by omega)
  rw [List.drop_zero] at nx
  rw [qdC hlt]
  exact Sat.cut nx
theorem Qi4d (ks : List Kind) (ps : List Point) (es : List Entry) (ks2 : List Kind) (ps2 : List Point) (es2 : List Entry) (hg : newsK es es2 = true) : Qewq Tryz.prog CP Q33a [.agg [.sl .kind ks,.sl .point ps,.sl .entry es],.agg [.sl .kind ks2,.sl .point ps2,.sl .entry es2]] [] (.sl .chg (newsF ks ps es ks2 ps2 es2)) []:=by
 refine Qewq.of Qh7a (by kernel_rfl) (Q73c ks ps es ks2 ps2 es2) ?_
 simp only [newsK,qaT,qdT] at hg
 obtain ⟨⟨hz,h9⟩,hz2,h92⟩:=hg
 have hz':=hz
 simp only [szB,qaT] at hz'
 rw [hz,hz2]
 simp only [Qd8q]
 cases hb : Qn0o ks ps es with
 | false =>
  rw [newsF,if_neg (by simp [hb])]
  exact Sat.ret rfl rfl
 | true =>
  cases hb2 : Qn0o ks2 ps2 es2 with
  | false =>
   rw [newsF,if_neg (by simp [hb2])]
   exact Sat.ret rfl rfl
  | true =>
   rw [newsF,if_pos ⟨hb,hb2⟩]
   obtain ⟨l1,l2⟩:=Qm34 hb2
   exact Sat.cut (Qgbx ks ps es ks2 ps2 es2 (by rw [decide_eq_true h9,hz'.2]; rfl) l1 l2 es2.length 0 [] (by omega) (by simp))
theorem Qy17 : EntOK Tryz.prog CP Q33a Qh54:=by
 refine ⟨eob (by kernel_rfl),fun _ _ _ _ h=>?_⟩
 simp only [Qh54,Qa5d] at h
 split at h
 ·obtain ⟨hg,rfl,rfl⟩:=eoh h
  exact Qi4d _ _ _ _ _ _ hg
 ·cases h
end Lx
namespace Lx
open Go Go.Proofs
structure MgD where
 ks : List Kind
 ps : List Point
 es : List Entry
 ks2 : List Kind
 ps2 : List Point
 es2 : List Entry
 deriving Inhabited
def Q0bh (x : MgD) : Prop:=goodS x.ks x.ps x.es = true ∧ goodS x.ks2 x.ps2 x.es2 = true
noncomputable def Qgn6 (c : List Int) : MgD:=drawn (fun x=>Qewq Tryz.prog CP Qmwh [.sl .u8 c] [] (.tup [.agg [.sl .kind x.ks,.sl .point x.ps,.sl .entry x.es],.agg [.sl .kind x.ks2,.sl .point x.ps2,.sl .entry x.es2]]) [] ∧ Q0bh x)
noncomputable def Qkv9 : Ent Ty El:=⟨[.ro],0,fun a h=>match a,h with
 | [.sl .u8 c],[]=>some (Qf9o c,.tup [.agg [.sl .kind (Qgn6 c).ks,.sl .point (Qgn6 c).ps,.sl .entry (Qgn6 c).es],.agg [.sl .kind (Qgn6 c).ks2,.sl .point (Qgn6 c).ps2,.sl .entry (Qgn6 c).es2]],[])
 | _,_=>none⟩
end Lx
namespace Lx
open Go Go.Proofs
noncomputable def Q9pp : RE Ty El:=⟨Tryz.prog,CP,[(Qajm,Qqtq),(Qwua,Qu46),(Q604,Qnfe),(Qvef,Qsb4),(Qpxs,Q7v2)],Tryz.f51,0,[.agg [.ro .kind,.ro .point,.ro .entry],.agg [.ro .kind,.ro .point,.ro .entry]],[]⟩
theorem Q44e : REOK Q9pp Qmwh:=⟨CP_ok,(TabOK.cons Q3w2 (TabOK.cons Ql5k (TabOK.cons Qtpw (TabOK.cons Qql7 (TabOK.cons Q0e7 Qye1))))),by kernel_rfl,by kernel_rfl⟩
theorem Qlly (c : List Int) : aRun Q9pp 600 false (body0 Q9pp.fn) (Q4gm Q9pp.fn [.sl .u8 c] []) =
 ifb (rdK (List.take (2000 : Nat) c) (0 : Int)) (ifb (bkK (List.take (2000 : Nat) c) (dBase (List.take (2000 : Nat) c) (0 : Int)).p (dBase (List.take (2000 : Nat) c) (0 : Int)).ks (dBase (List.take (2000 : Nat) c) (0 : Int)).ps) (ifb (bkK (List.take (2000 : Nat) c) (dBook (List.take (2000 : Nat) c) (dBase (List.take (2000 : Nat) c) (0 : Int)).p (dBase (List.take (2000 : Nat) c) (0 : Int)).ks (dBase (List.take (2000 : Nat) c) (0 : Int)).ps).p (dBase (List.take (2000 : Nat) c) (0 : Int)).ks (dBase (List.take (2000 : Nat) c) (0 : Int)).ps) (ifb (posOk (dBook (List.take (2000 : Nat) c) (dBook (List.take (2000 : Nat) c) (dBase (List.take (2000 : Nat) c) (0 : Int)).p (dBase (List.take (2000 : Nat) c) (0 : Int)).ks (dBase (List.take (2000 : Nat) c) (0 : Int)).ps).p (dBase (List.take (2000 : Nat) c) (0 : Int)).ks (dBase (List.take (2000 : Nat) c) (0 : Int)).ps).p) (ifb (pickV (List.take (2000 : Nat) c) (dBook (List.take (2000 : Nat) c) (dBook (List.take (2000 : Nat) c) (dBase (List.take (2000 : Nat) c) (0 : Int)).p (dBase (List.take (2000 : Nat) c) (0 : Int)).ks (dBase (List.take (2000 : Nat) c) (0 : Int)).ps).p (dBase (List.take (2000 : Nat) c) (0 : Int)).ks (dBase (List.take (2000 : Nat) c) (0 : Int)).ps).p (16 : Int) == (0 : Int)) (ifb (slK (List.take (2000 : Nat) c) ((dBook (List.take (2000 : Nat) c) (dBook (List.take (2000 : Nat) c) (dBase (List.take (2000 : Nat) c) (0 : Int)).p (dBase (List.take (2000 : Nat) c) (0 : Int)).ks (dBase (List.take (2000 : Nat) c) (0 : Int)).ps).p (dBase (List.take (2000 : Nat) c) (0 : Int)).ks (dBase (List.take (2000 : Nat) c) (0 : Int)).ps).p + 1) (dBase (List.take (2000 : Nat) c) (0 : Int)).ks (dBase (List.take (2000 : Nat) c) (0 : Int)).ps (dBook (List.take (2000 : Nat) c) (dBase (List.take (2000 : Nat) c) (0 : Int)).p (dBase (List.take (2000 : Nat) c) (0 : Int)).ks (dBase (List.take (2000 : Nat) c) (0 : Int)).ps).es) (some (.ret (.tup [.agg [.sl .kind ((Qkav (List.take (2000 : Nat) c) ((dBook (List.take (2000 : Nat) c) (dBook (List.take (2000 : Nat) c) (dBase (List.take (2000 : Nat) c) (0 : Int)).p (dBase (List.take (2000 : Nat) c) (0 : Int)).ks (dBase (List.take (2000 : Nat) c) (0 : Int)).ps).p (dBase (List.take (2000 : Nat) c) (0 : Int)).ks (dBase (List.take (2000 : Nat) c) (0 : Int)).ps).p + 1) (dBase (List.take (2000 : Nat) c) (0 : Int)).ks (dBase (List.take (2000 : Nat) c) (0 : Int)).ps (dBook (List.take (2000 : Nat) c) (dBase (List.take (2000 : Nat) c) (0 : Int)).p (dBase (List.take (2000 : Nat) c) (0 : Int)).ks (dBase (List.take (2000 : Nat) c) (0 : Int)).ps).es).ks),.sl .point ((Qkav (List.take (2000 : Nat) c) ((dBook (List.take (2000 : Nat) c) (dBook (List.take (2000 : Nat) c) (dBase (List.take (2000 : Nat) c) (0 : Int)).p (dBase (List.take (2000 : Nat) c) (0 : Int)).ks (dBase (List.take (2000 : Nat) c) (0 : Int)).ps).p (dBase (List.take (2000 : Nat) c) (0 : Int)).ks (dBase (List.take (2000 : Nat) c) (0 : Int)).ps).p + 1) (dBase (List.take (2000 : Nat) c) (0 : Int)).ks (dBase (List.take (2000 : Nat) c) (0 : Int)).ps (dBook (List.take (2000 : Nat) c) (dBase (List.take (2000 : Nat) c) (0 : Int)).p (dBase (List.take (2000 : Nat) c) (0 : Int)).ks (dBase (List.take (2000 : Nat) c) (0 : Int)).ps).es).ps),.sl .entry ((Qkav (List.take (2000 : Nat) c) ((dBook (List.take (2000 : Nat) c) (dBook (List.take (2000 : Nat) c) (dBase (List.take (2000 : Nat) c) (0 : Int)).p (dBase (List.take (2000 : Nat) c) (0 : Int)).ks (dBase (List.take (2000 : Nat) c) (0 : Int)).ps).p (dBase (List.take (2000 : Nat) c) (0 : Int)).ks (dBase (List.take (2000 : Nat) c) (0 : Int)).ps).p + 1) (dBase (List.take (2000 : Nat) c) (0 : Int)).ks (dBase (List.take (2000 : Nat) c) (0 : Int)).ps (dBook (List.take (2000 : Nat) c) (dBase (List.take (2000 : Nat) c) (0 : Int)).p (dBase (List.take (2000 : Nat) c) (0 : Int)).ks (dBase (List.take (2000 : Nat) c) (0 : Int)).ps).es).es)],.agg [.sl .kind ((dBase (List.take (2000 : Nat) c) (0 : Int)).ks),.sl .point ((dBase (List.take (2000 : Nat) c) (0 : Int)).ps),.sl .entry ((dBook (List.take (2000 : Nat) c) (dBook (List.take (2000 : Nat) c) (dBase (List.take (2000 : Nat) c) (0 : Int)).p (dBase (List.take (2000 : Nat) c) (0 : Int)).ks (dBase (List.take (2000 : Nat) c) (0 : Int)).ps).p (dBase (List.take (2000 : Nat) c) (0 : Int)).ks (dBase (List.take (2000 : Nat) c) (0 : Int)).ps).es)]]) [])) (none)) (ifb (pickV (List.take (2000 : Nat) c) (dBook (List.take (2000 : Nat) c) (dBook (List.take (2000 : Nat) c) (dBase (List.take (2000 : Nat) c) (0 : Int)).p (dBase (List.take (2000 : Nat) c) (0 : Int)).ks (dBase (List.take (2000 : Nat) c) (0 : Int)).ps).p (dBase (List.take (2000 : Nat) c) (0 : Int)).ks (dBase (List.take (2000 : Nat) c) (0 : Int)).ps).p (16 : Int) == (1 : Int)) (ifb (slK (List.take (2000 : Nat) c) ((dBook (List.take (2000 : Nat) c) (dBook (List.take (2000 : Nat) c) (dBase (List.take (2000 : Nat) c) (0 : Int)).p (dBase (List.take (2000 : Nat) c) (0 : Int)).ks (dBase (List.take (2000 : Nat) c) (0 : Int)).ps).p (dBase (List.take (2000 : Nat) c) (0 : Int)).ks (dBase (List.take (2000 : Nat) c) (0 : Int)).ps).p + 1) (dBase (List.take (2000 : Nat) c) (0 : Int)).ks (dBase (List.take (2000 : Nat) c) (0 : Int)).ps (dBook (List.take (2000 : Nat) c) (dBook (List.take (2000 : Nat) c) (dBase (List.take (2000 : Nat) c) (0 : Int)).p (dBase (List.take (2000 : Nat) c) (0 : Int)).ks (dBase (List.take (2000 : Nat) c) (0 : Int)).ps).p (dBase (List.take (2000 : Nat) c) (0 : Int)).ks (dBase (List.take (2000 : Nat) c) (0 : Int)).ps).es) (some (.ret (.tup [.agg [.sl .kind ((dBase (List.take (2000 : Nat) c) (0 : Int)).ks),.sl .point ((dBase (List.take (2000 : Nat) c) (0 : Int)).ps),.sl .entry ((dBook (List.take (2000 : Nat) c) (dBase (List.take (2000 : Nat) c) (0 : Int)).p (dBase (List.take (2000 : Nat) c) (0 : Int)).ks (dBase (List.take (2000 : Nat) c) (0 : Int)).ps).es)],.agg [.sl .kind ((Qkav (List.take (2000 : Nat) c) ((dBook (List.take (2000 : Nat) c) (dBook (List.take (2000 : Nat) c) (dBase (List.take (2000 : Nat) c) (0 : Int)).p (dBase (List.take (2000 : Nat) c) (0 : Int)).ks (dBase (List.take (2000 : Nat) c) (0 : Int)).ps).p (dBase (List.take (2000 : Nat) c) (0 : Int)).ks (dBase (List.take (2000 : Nat) c) (0 : Int)).ps).p + 1) (dBase (List.take (2000 : Nat) c) (0 : Int)).ks (dBase (List.take (2000 : Nat) c) (0 : Int)).ps (dBook (List.take (2000 : Nat) c) (dBook (List.take (2000 : Nat) c) (dBase (List.take (2000 : Nat) c) (0 : Int)).p (dBase (List.take (2000 : Nat) c) (0 : Int)).ks (dBase (List.take (2000 : Nat) c) (0 : Int)).ps).p (dBase (List.take (2000 : Nat) c) (0 : Int)).ks (dBase (List.take (2000 : Nat) c) (0 : Int)).ps).es).ks),.sl .point ((Qkav (List.take (2000 : Nat) c) ((dBook (List.take (2000 : Nat) c) (dBook (List.take (2000 : Nat) c) (dBase (List.take (2000 : Nat) c) (0 : Int)).p (dBase (List.take (2000 : Nat) c) (0 : Int)).ks (dBase (List.take (2000 : Nat) c) (0 : Int)).ps).p (dBase (List.take (2000 : Nat) c) (0 : Int)).ks (dBase (List.take (2000 : Nat) c) (0 : Int)).ps).p + 1) (dBase (List.take (2000 : Nat) c) (0 : Int)).ks (dBase (List.take (2000 : Nat) c) (0 : Int)).ps (dBook (List.take (2000 : Nat) c) (dBook (List.take (2000 : Nat) c) (dBase (List.take (2000 : Nat) c) (0 : Int)).p (dBase (List.take (2000 : Nat) c) (0 : Int)).ks (dBase (List.take (2000 : Nat) c) (0 : Int)).ps).p (dBase (List.take (2000 : Nat) c) (0 : Int)).ks (dBase (List.take (2000 : Nat) c) (0 : Int)).ps).es).ps),.sl .entry ((Qkav (List.take (2000 : Nat) c) ((dBook (List.take (2000 : Nat) c) (dBook (List.take (2000 : Nat) c) (dBase (List.take (2000 : Nat) c) (0 : Int)).p (dBase (List.take (2000 : Nat) c) (0 : Int)).ks (dBase (List.take (2000 : Nat) c) (0 : Int)).ps).p (dBase (List.take (2000 : Nat) c) (0 : Int)).ks (dBase (List.take (2000 : Nat) c) (0 : Int)).ps).p + 1) (dBase (List.take (2000 : Nat) c) (0 : Int)).ks (dBase (List.take (2000 : Nat) c) (0 : Int)).ps (dBook (List.take (2000 : Nat) c) (dBook (List.take (2000 : Nat) c) (dBase (List.take (2000 : Nat) c) (0 : Int)).p (dBase (List.take (2000 : Nat) c) (0 : Int)).ks (dBase (List.take (2000 : Nat) c) (0 : Int)).ps).p (dBase (List.take (2000 : Nat) c) (0 : Int)).ks (dBase (List.take (2000 : Nat) c) (0 : Int)).ps).es).es)]]) [])) (none)) (ifb (pickV (List.take (2000 : Nat) c) (dBook (List.take (2000 : Nat) c) (dBook (List.take (2000 : Nat) c) (dBase (List.take (2000 : Nat) c) (0 : Int)).p (dBase (List.take (2000 : Nat) c) (0 : Int)).ks (dBase (List.take (2000 : Nat) c) (0 : Int)).ps).p (dBase (List.take (2000 : Nat) c) (0 : Int)).ks (dBase (List.take (2000 : Nat) c) (0 : Int)).ps).p (16 : Int) == (2 : Int)) (ifb (rdK (List.take (2000 : Nat) c) ((dBook (List.take (2000 : Nat) c) (dBook (List.take (2000 : Nat) c) (dBase (List.take (2000 : Nat) c) (0 : Int)).p (dBase (List.take (2000 : Nat) c) (0 : Int)).ks (dBase (List.take (2000 : Nat) c) (0 : Int)).ps).p (dBase (List.take (2000 : Nat) c) (0 : Int)).ks (dBase (List.take (2000 : Nat) c) (0 : Int)).ps).p + 1)) (ifb (bkK (List.take (2000 : Nat) c) (dBase (List.take (2000 : Nat) c) ((dBook (List.take (2000 : Nat) c) (dBook (List.take (2000 : Nat) c) (dBase (List.take (2000 : Nat) c) (0 : Int)).p (dBase (List.take (2000 : Nat) c) (0 : Int)).ks (dBase (List.take (2000 : Nat) c) (0 : Int)).ps).p (dBase (List.take (2000 : Nat) c) (0 : Int)).ks (dBase (List.take (2000 : Nat) c) (0 : Int)).ps).p + 1)).p (dBase (List.take (2000 : Nat) c) ((dBook (List.take (2000 : Nat) c) (dBook (List.take (2000 : Nat) c) (dBase (List.take (2000 : Nat) c) (0 : Int)).p (dBase (List.take (2000 : Nat) c) (0 : Int)).ks (dBase (List.take (2000 : Nat) c) (0 : Int)).ps).p (dBase (List.take (2000 : Nat) c) (0 : Int)).ks (dBase (List.take (2000 : Nat) c) (0 : Int)).ps).p + 1)).ks (dBase (List.take (2000 : Nat) c) ((dBook (List.take (2000 : Nat) c) (dBook (List.take (2000 : Nat) c) (dBase (List.take (2000 : Nat) c) (0 : Int)).p (dBase (List.take (2000 : Nat) c) (0 : Int)).ks (dBase (List.take (2000 : Nat) c) (0 : Int)).ps).p (dBase (List.take (2000 : Nat) c) (0 : Int)).ks (dBase (List.take (2000 : Nat) c) (0 : Int)).ps).p + 1)).ps) (some (.ret (.tup [.agg [.sl .kind ((dBase (List.take (2000 : Nat) c) (0 : Int)).ks),.sl .point ((dBase (List.take (2000 : Nat) c) (0 : Int)).ps),.sl .entry ((dBook (List.take (2000 : Nat) c) (dBase (List.take (2000 : Nat) c) (0 : Int)).p (dBase (List.take (2000 : Nat) c) (0 : Int)).ks (dBase (List.take (2000 : Nat) c) (0 : Int)).ps).es)],.agg [.sl .kind ((dBase (List.take (2000 : Nat) c) ((dBook (List.take (2000 : Nat) c) (dBook (List.take (2000 : Nat) c) (dBase (List.take (2000 : Nat) c) (0 : Int)).p (dBase (List.take (2000 : Nat) c) (0 : Int)).ks (dBase (List.take (2000 : Nat) c) (0 : Int)).ps).p (dBase (List.take (2000 : Nat) c) (0 : Int)).ks (dBase (List.take (2000 : Nat) c) (0 : Int)).ps).p + 1)).ks),.sl .point ((dBase (List.take (2000 : Nat) c) ((dBook (List.take (2000 : Nat) c) (dBook (List.take (2000 : Nat) c) (dBase (List.take (2000 : Nat) c) (0 : Int)).p (dBase (List.take (2000 : Nat) c) (0 : Int)).ks (dBase (List.take (2000 : Nat) c) (0 : Int)).ps).p (dBase (List.take (2000 : Nat) c) (0 : Int)).ks (dBase (List.take (2000 : Nat) c) (0 : Int)).ps).p + 1)).ps),.sl .entry ((dBook (List.take (2000 : Nat) c) (dBase (List.take (2000 : Nat) c) ((dBook (List.take (2000 : Nat) c) (dBook (List.take (2000 : Nat) c) (dBase (List.take (2000 : Nat) c) (0 : Int)).p (dBase (List.take (2000 : Nat) c) (0 : Int)).ks (dBase (List.take (2000 : Nat) c) (0 : Int)).ps).p (dBase (List.take (2000 : Nat) c) (0 : Int)).ks (dBase (List.take (2000 : Nat) c) (0 : Int)).ps).p + 1)).p (dBase (List.take (2000 : Nat) c) ((dBook (List.take (2000 : Nat) c) (dBook (List.take (2000 : Nat) c) (dBase (List.take (2000 : Nat) c) (0 : Int)).p (dBase (List.take (2000 : Nat) c) (0 : Int)).ks (dBase (List.take (2000 : Nat) c) (0 : Int)).ps).p (dBase (List.take (2000 : Nat) c) (0 : Int)).ks (dBase (List.take (2000 : Nat) c) (0 : Int)).ps).p + 1)).ks (dBase (List.take (2000 : Nat) c) ((dBook (List.take (2000 : Nat) c) (dBook (List.take (2000 : Nat) c) (dBase (List.take (2000 : Nat) c) (0 : Int)).p (dBase (List.take (2000 : Nat) c) (0 : Int)).ks (dBase (List.take (2000 : Nat) c) (0 : Int)).ps).p (dBase (List.take (2000 : Nat) c) (0 : Int)).ks (dBase (List.take (2000 : Nat) c) (0 : Int)).ps).p + 1)).ps).es)]]) [])) (none)) (none)) (some (.ret (.tup [.agg [.sl .kind ((dBase (List.take (2000 : Nat) c) (0 : Int)).ks),.sl .point ((dBase (List.take (2000 : Nat) c) (0 : Int)).ps),.sl .entry ((dBook (List.take (2000 : Nat) c) (dBase (List.take (2000 : Nat) c) (0 : Int)).p (dBase (List.take (2000 : Nat) c) (0 : Int)).ks (dBase (List.take (2000 : Nat) c) (0 : Int)).ps).es)],.agg [.sl .kind ((dBase (List.take (2000 : Nat) c) (0 : Int)).ks),.sl .point ((dBase (List.take (2000 : Nat) c) (0 : Int)).ps),.sl .entry ((dBook (List.take (2000 : Nat) c) (dBook (List.take (2000 : Nat) c) (dBase (List.take (2000 : Nat) c) (0 : Int)).p (dBase (List.take (2000 : Nat) c) (0 : Int)).ks (dBase (List.take (2000 : Nat) c) (0 : Int)).ps).p (dBase (List.take (2000 : Nat) c) (0 : Int)).ks (dBase (List.take (2000 : Nat) c) (0 : Int)).ps).es)]]) []))))) (none)) (none)) (none)) (none):=by kernel_rfl
theorem Qjkx (c : List Int) (hg : Qf9o c = true) : Qewq Tryz.prog CP Qmwh [.sl .u8 c] [] (.tup [.agg [.sl .kind (Qgn6 c).ks,.sl .point (Qgn6 c).ps,.sl .entry (Qgn6 c).es],.agg [.sl .kind (Qgn6 c).ks2,.sl .point (Qgn6 c).ps2,.sl .entry (Qgn6 c).es2]]) [] ∧ Q0bh (Qgn6 c):=by
 have hbs:=Qz2g hg 2000
 have hr : rdK (c.take 2000) 0 = true:=by simp only [rdK,qaT,qdT]; exact ⟨hbs,by omega,by omega⟩
 obtain ⟨b1,b2,b3,b4,b5⟩:=(Q46n (c.take 2000) 0 hr).2
 have hE : CallE Q9pp.P Q9pp.C Qmwh [.sl .u8 c] [] (fun v h=>∃ x : MgD,v = (.tup [.agg [.sl .kind x.ks,.sl .point x.ps,.sl .entry x.es],.agg [.sl .kind x.ks2,.sl .point x.ps2,.sl .entry x.es2]]) ∧ h = [] ∧ Q0bh x):=by
  refine CallE.of Q44e (by kernel_rfl) (Qlly c) ?_
  generalize dBase (c.take 2000) 0 = z at *
  have bk : ∀ q : Int,0 ≤ q → q ≤ 5000 → bkK (c.take 2000) q z.ks z.ps = true:=fun q h0 h9=>by simp only [bkK,qaT,qdT]; exact ⟨hbs,h0,by omega,b1,b3⟩
  obtain ⟨c1,c2,c3⟩:=(Q4mo (c.take 2000) z.p z.ks z.ps (bk z.p (by omega) (by omega))).2
  have k1:=bk z.p (by omega) (by omega)
  generalize dBook (c.take 2000) z.p z.ks z.ps = y at *
  have k2:=bk y.p (by omega) (by omega)
  obtain ⟨d1,d2,d3⟩:=(Q4mo (c.take 2000) y.p z.ks z.ps k2).2
  generalize dBook (c.take 2000) y.p z.ks z.ps = u at *
  have sl : ∀ es,goodE z.ks z.ps es = true → slK (c.take 2000) (u.p + 1) z.ks z.ps es = true:=fun es h=>by simp only [slK,qaT,qdT]; exact ⟨hbs,by omega,by omega,b2,b3,h⟩
  have s1:=(Qzxv (c.take 2000) (u.p + 1) z.ks z.ps y.es (sl _ c1)).2.1
  have s2:=(Qzxv (c.take 2000) (u.p + 1) z.ks z.ps u.es (sl _ d1)).2.1
  have hr2 : rdK (c.take 2000) (u.p + 1) = true:=by simp only [rdK,qaT,qdT]; exact ⟨hbs,by omega,by omega⟩
  obtain ⟨e1,e2,e3,e4,e5⟩:=(Q46n (c.take 2000) (u.p + 1) hr2).2
  generalize dBase (c.take 2000) (u.p + 1) = z2 at *
  have k3 : bkK (c.take 2000) z2.p z2.ks z2.ps = true:=by simp only [bkK,qaT,qdT]; exact ⟨hbs,by omega,by omega,e1,e3⟩
  have f1:=(Q4mo (c.take 2000) z2.p z2.ks z2.ps k3).2.1
  exact SatE.need hr (SatE.need k1 (SatE.need k2 (SatE.need (Q8s4 (by omega) (by omega)) (SatE.ifb (fun _=>SatE.need (sl _ c1) (SatE.ret ⟨⟨_,_,_,_,_,_⟩,rfl,rfl,s1,Qj7a d1⟩)) (fun _=>SatE.ifb (fun _=>SatE.need (sl _ d1) (SatE.ret ⟨⟨_,_,_,_,_,_⟩,rfl,rfl,Qj7a c1,s2⟩)) (fun _=>SatE.ifb (fun _=>SatE.need hr2 (SatE.need k3 (SatE.ret ⟨⟨_,_,_,_,_,_⟩,rfl,rfl,Qj7a c1,Qj7a f1⟩))) (fun _=>SatE.ret ⟨⟨_,_,_,_,_,_⟩,rfl,rfl,Qj7a c1,Qj7a d1⟩)))))))
 obtain ⟨v,H',h,x,rfl,rfl,hx⟩:=hE
 unfold Qgn6
 exact Qk78 (p:=fun x : MgD=>Qewq Tryz.prog CP Qmwh [.sl .u8 c] [] (.tup [.agg [.sl .kind x.ks,.sl .point x.ps,.sl .entry x.es],.agg [.sl .kind x.ks2,.sl .point x.ps2,.sl .entry x.es2]]) [] ∧ Q0bh x) ⟨x,h,hx⟩
theorem Qjb2 (c : List Int) (hg : Qf9o c = true) : Qewq Tryz.prog CP Qmwh [.sl .u8 c] [] (.tup [.agg [.sl .kind (Qgn6 c).ks,.sl .point (Qgn6 c).ps,.sl .entry (Qgn6 c).es],.agg [.sl .kind (Qgn6 c).ks2,.sl .point (Qgn6 c).ps2,.sl .entry (Qgn6 c).es2]]) []:=by
 exact (Qjkx c hg).1
theorem Q6vs : EntOK Tryz.prog CP Qmwh Qkv9:=by
 refine ⟨eob (by kernel_rfl),fun _ _ _ _ h=>?_⟩
 simp only [Qkv9] at h
 split at h
 ·obtain ⟨hg,rfl,rfl⟩:=eoh h
  exact Qjb2 _ hg
 ·cases h
end Lx
namespace Lx
open Go Go.Proofs
def Qtfi : Ent Ty El:=⟨[.ro,.ro],0,fun a h=>match a,h with
 | [.sl .chg l,.sl .chg m],[]=>some (decide (l.length ≤ 1000000000) && decide (l = m),.bool true,[])
 | _,_=>none⟩
end Lx
namespace Lx
open Go Go.Proofs
noncomputable def Q9q1 : RE Ty El:=⟨Tryz.prog,CP,[],Tryz.f55,0,[],[(4,[(0,.any),(1,.any),(5,.any)])]⟩
theorem Qt6z : REOK Q9q1 Q9qt:=⟨CP_ok,Qye1,by kernel_rfl,by kernel_rfl⟩
theorem Qapp (l m : List Chg) : aRun Q9q1 600 false (body0 Q9q1.fn) (Q4gm Q9q1.fn [.sl .chg l,.sl .chg m] []) =
 ifb ((↑l.length : Int) != (↑m.length : Int)) (some (.ret (.bool false) [])) (some (.go (Qu6t Q9q1.fn 4) [.sl .chg l,.sl .chg m,.int .i64 0] [])):=by kernel_rfl
theorem Qvic (x0 : List (El .chg)) (x1 : List (El .chg)) (x2 : Int) : aRun Q9q1 600 true (Qu6t Q9q1.fn 4) (cutSt Q9q1.fn (Q1m4 Q9q1 (Qu6t Q9q1.fn 4)) [.sl .chg x0,.sl .chg x1,.int .i64 x2] []) =
 ifb (decide (x2 < (↑x0.length : Int))) (ifb (inb x2 x0.length) (ifb (inb x2 x1.length) (ifb (!((x0.getD x2.toNat (Q9q1.C.dflt Ty.chg)).flight == (x1.getD x2.toNat (Q9q1.C.dflt Ty.chg)).flight && ((x0.getD x2.toNat (Q9q1.C.dflt Ty.chg)).what == (x1.getD x2.toNat (Q9q1.C.dflt Ty.chg)).what && ((x0.getD x2.toNat (Q9q1.C.dflt Ty.chg)).number == (x1.getD x2.toNat (Q9q1.C.dflt Ty.chg)).number && ((x0.getD x2.toNat (Q9q1.C.dflt Ty.chg)).value == (x1.getD x2.toNat (Q9q1.C.dflt Ty.chg)).value && true))))) (some (.ret (.bool false) [])) (some (.go (Qu6t Q9q1.fn 4) [.sl .chg x0,.sl .chg x1,.int .i64 (IntKind.i64.wrap (x2 + 1))] []))) (none)) (none)) (some (.ret (.bool true) [])):=by kernel_rfl
theorem Q248 (l : List Chg) (g0 : l.length ≤ 1000000000) : ∀ (d i : Nat),i + d = l.length → Cut Q9q1 Q9qt 4 [.sl .chg l,.sl .chg l,.int .i64 (i : Int)] [] (.bool true) []:=by
 intro d
 induction d with
 | zero =>
  intro i hi
  refine Cut.of Qt6z rfl (Qvic l l i) ?_
  rw [show decide ((i : Int) < (l.length : Int)) = false from decide_eq_false (by omega)]
  exact Sat.ret rfl rfl
 | succ d ih =>
  intro i hi
  refine Cut.of Qt6z rfl (Qvic l l i) ?_
  have hlt : i < l.length:=by omega
  have hw : IntKind.wrap .i64 ((i : Int) + 1) = ((i + 1 : Nat) : Int):=by rw [Qbrg] <;> omega
  have hx : l.getD (i : Int).toNat (Q9q1.C.dflt .chg) = l[i]:=by simp [hlt]
  have hin : inb (i : Int) l.length = true:=by simp only [inb,qaT,qdT]; omega
  have hlo : decide ((i : Int) < (l.length : Int)) = true:=decide_eq_true (by omega)
  rw [hlo,hin,hx,hw]
  simp only [Qd8q,beq_self_eq_true,Bool.and_self,Bool.not_true,Qk7y]
  exact Sat.cut (ih (i + 1) (by omega))
theorem Qqfi (l m : List Chg) (hg : (decide (l.length ≤ 1000000000) && decide (l = m)) = true) : Qewq Tryz.prog CP Q9qt [.sl .chg l,.sl .chg m] [] (.bool true) []:=by
 refine Qewq.of Qt6z (by kernel_rfl) (Qapp l m) ?_
 simp only [qaT,qdT] at hg
 obtain ⟨g0,rfl⟩:=hg
 simp only [bne_self_eq_false,Qk7y]
 exact Sat.cut (Q248 l g0 l.length 0 (by omega))
theorem Q8dg : EntOK Tryz.prog CP Q9qt Qtfi:=by
 refine ⟨eob (by kernel_rfl),fun _ _ _ _ h=>?_⟩
 simp only [Qtfi] at h
 split at h
 ·obtain ⟨hg,rfl,rfl⟩:=eoh h
  exact Qqfi _ _ hg
 ·cases h
end Lx
namespace Lx
open Go
section
variable {Ty : Type} {El : Ty → Type} {C : Cod Ty El} {P : Program}
theorem Qewq.readTup (hC : CodOK P C) {g : FuncId} {args : List (AV Ty El)} {cs ds : List (AV Ty El)} {H' : List (AObj Ty El)} (h : Qewq P C g args [] (.tup cs) H') (hl : omap (lend C (hpOf H') 4) cs = some ds) : Qewq P C g args [] (.tup ds) []:=by
 intro w N vs hN hsz hrep
 refine (h w N vs hN hsz hrep).mono ?_
 rintro en w' ⟨v,N',rfl,hH,hv,hio,hroI,hroO,hfr,hF⟩
 let N2 : Nm:={ ν:=N'.ν,F:=fun _ _=>False,G:=fun _ _ _ _=>False,ro:=fun b=>N'.ro b ∨ ∃ r,N'.F r b }
 have e0 : ∀ r,hpOf ([] : List (AObj Ty El)) r = .gone:=fun r=>by simp [hpOf]
 refine ⟨v,N2,rfl,⟨fun r=>?_,fun r p v u hg=>hg.elim,fun r=>?_,fun r p v u hg=>hg.elim,fun r r' b h1 _=>h1.elim,fun r b h1 _=>h1.elim,fun b hb=>?_,hH.glTo hC (fun b hb=>.inl hb) (fun _ _=>rfl)⟩, ?_,fun r hr=>by simp at hr,fun b hb=>.inl (hroI b hb),fun b hb=>?_,hfr,fun r b hb=>hb.elim⟩
 ·rw [e0]; exact fun b hb=>hb
 ·rw [e0]; trivial
 ·rcases hb with hb | ⟨r,hb⟩
  ·exact hH.roLt b hb
  ·exact (hH.obj r).lt hC hb
 ·obtain ⟨h1,h2⟩:=Qd6l hl
  cases hv with
  | tup us cs hs hu =>
   refine .tup us ds (hs.trans h1.symm) (fun j u d hj hd=>?_)
   obtain ⟨c,hc,hcd⟩:=h2 j d hd
   exact Q8vp hC hH (N':=N2) (fun b hb=>.inl hb) (ok:=fun _=>True) (fun r b _ hb=>.inr ⟨r,hb⟩) 4 c d u (hu j u c hj hc) hcd (fun _ _=>trivial)
 ·rcases hb with hb | ⟨r,hb⟩
  ·exact hroO b hb
  ·exact .inr (hF r b hb)
end
end Lx
namespace Lx
open Go Go.Proofs
end Lx
namespace Lx
open Go Go.Proofs
theorem Q186 {ks : List Kind} {ps : List Point} {es : List Entry} {ks2 : List Kind} {ps2 : List Point} {es2 : List Entry} (hg : goodB ks ps es = true) (hg2 : goodB ks2 ps2 es2 = true) :
  goodB (Qjop ks ps es ks2 ps2 es2).ks (Qjop ks ps es ks2 ps2 es2).ps (Qjop ks ps es ks2 ps2 es2).es = true ∧
  Q6oz (Qjop ks ps es ks2 ps2 es2).ks ≤ 100000000 ∧ Q262 (Qjop ks ps es ks2 ps2 es2).ps ≤ 100000000 ∧ Qq55 (Qjop ks ps es ks2 ps2 es2).es ≤ 100000000:=by
 have no : goodB [] [] [] = true ∧ Q6oz [] ≤ 100000000 ∧ Q262 [] ≤ 100000000 ∧ Qq55 [] ≤ 100000000:=⟨rfl,Nat.zero_le _,Nat.zero_le _,Nat.zero_le _⟩
 unfold Qjop
 by_cases h : Qn0o ks ps es = true ∧ Qn0o ks2 ps2 es2 = true
 ·rw [if_pos h]
  by_cases h2 : ks = ks2 ∧ ps = ps2
  ·rw [if_pos h2]
   by_cases h3 : (mgS es es2).length ≤ 12
   ·rw [if_pos h3]
    obtain ⟨rfl,rfl⟩:=h2
    obtain ⟨q,_⟩:=Q8k1 (ks:=ks) (ps:=ps) (es:=es) (es2:=es2) (by rw [goodE,h.1,hg]; rfl) (by rw [goodE,h.2,hg2]; rfl) h3 (l:=chgs es2) (fun c hc=>hc) rfl
    simp only [goodE,qaT] at q
    obtain ⟨m1,m2,m3⟩:=Qxtb q.1
    dsimp only
    exact ⟨q.2,by omega,by omega,by omega⟩
   ·rw [if_neg h3]; exact no
  ·rw [if_neg h2]; exact no
 ·rw [if_neg h]; exact no
end Lx
namespace Lx
open Go Go.Proofs
def bkV (ks : List Kind) (ps : List Point) (es : List Entry) : V:=.agg [.sl .kind ks,.sl .point ps,.sl .entry es]
def Qsip : Ent Ty El:=⟨[.ro,.ro],0,fun a h=>match a,h with
 | [.agg [.sl .kind ks,.sl .point ps,.sl .entry es],.agg [.sl .kind ks2,.sl .point ps2,.sl .entry es2]],[] =>
  some (mgK ks ps es ks2 ps2 es2,.tup [bkV (Qjop ks ps es ks2 ps2 es2).ks (Qjop ks ps es ks2 ps2 es2).ps (Qjop ks ps es ks2 ps2 es2).es,.int .i64 (Qjop ks ps es ks2 ps2 es2).code],[])
 | _,_=>none⟩
def Qeza : Ent Ty El:=Qsip
theorem Qmlg : EntOK Tryz.prog CP Qqd1 Qsip:=by
 refine ⟨Qg6m.body,fun args H res H' h=>?_⟩
 simp only [Qsip] at h
 split at h
 ·obtain ⟨hg,rfl,rfl⟩:=eoh h
  exact (Q2m6 _ _ _ _ _ _ hg).readTup CP_ok rfl
 ·cases h
theorem Q1yh : EntOK Tryz.prog CP Qb03 Qeza:=by
 refine ⟨Qyq0.body,fun args H res H' h=>?_⟩
 simp only [Qeza,Qsip] at h
 split at h
 ·obtain ⟨hg,rfl,rfl⟩:=eoh h
  exact (Qbpf _ _ _ _ _ _ hg).readTup CP_ok rfl
 ·cases h
def Qvqk : Ent Ty El:=⟨[.ro,.ro],0,fun a h=>match a,h with
 | [.agg [.sl .kind ks,.sl .point ps,.sl .entry es],.sl .chg l],[] =>
  some (goodB ks ps es && Q7ga l,.tup [bkV (Q0ew ks ps es l).ks (Q0ew ks ps es l).ps (Q0ew ks ps es l).es,.sl .int (Q0ew ks ps es l).cs],[])
 | [.agg [.sl .kind ks,.sl .point ps,.nils],.sl .chg l],[] =>
  some (goodB ks ps [] && Q7ga l,.tup [bkV (Q0ew ks ps [] l).ks (Q0ew ks ps [] l).ps (Q0ew ks ps [] l).es,.sl .int (Q0ew ks ps [] l).cs],[])
 | _,_=>none⟩
theorem Qdvl : EntOK Tryz.prog CP Qt0f Qvqk:=by
 refine ⟨Qtar.body,fun args H res H' h=>?_⟩
 simp only [Qvqk] at h
 split at h
 ·obtain ⟨hg,rfl,rfl⟩:=eoh h
  exact (Qr8k _ _ _ _ hg).readTup CP_ok rfl
 ·obtain ⟨hg,rfl,rfl⟩:=eoh h
  refine Qewq.args ((Qr8k _ _ _ _ hg).readTup CP_ok rfl) rfl (fun j x x' hx hx' N w v hv=>?_)
  match j with
  | 0 =>
   simp only [qcZ,qsI] at hx hx'
   subst hx; subst hx'
   refine RepA.aggMono (by rfl) (fun j c d hc hd u hu=>?_) hv
   match j with
   | 0=>simp only [qcZ,qsI] at hc hd; subst hc; subst hd; exact hu
   | 1=>simp only [qcZ,List.getElem?_cons_succ,qsI] at hc hd; subst hc; subst hd; exact hu
   | 2=>simp only [qcZ,List.getElem?_cons_succ,qsI] at hc hd; subst hc; subst hd; exact hu.nilSl _
   | j + 3=>simp at hc
  | 1=>simp only [qcZ,List.getElem?_cons_succ,qsI] at hx hx'; subst hx; subst hx'; exact hv
  | j + 2=>simp at hx
 ·cases h
theorem Qkbt {ks : List Kind} {ps : List Point} {es : List Entry} (h : goodB ks ps es = true) : Q2xe ks ks ps ps es es = true:=by
 simp only [goodB,Q8cx,Q6lz,Qjyp,qaT,qdT,and_true] at h
 simp only [Q2xe,sameK,qaT,qdT,and_true]
 exact ⟨⟨h.2.1,h.2.2.1⟩,h.2.2.2⟩
theorem Q319 (a : List Entry) : ∀ b : List Entry,(newsE a b).length ≤ (chgs b).length
 | []=>Nat.le_refl _
 | e :: b=>by
  have h1 : newsE a (e :: b) = newsL a e.name e.fields ++ newsE a b:=rfl
  have h2 : chgs (e :: b) = chE e ++ chgs b:=rfl
  have h3 : (newsL a e.name e.fields).length ≤ (chE e).length:=by
   simp only [newsL,chE,List.length_map]; exact List.length_filter_le _ _
  have:=Q319 a b
  rw [h1,h2,List.length_append,List.length_append]; omega
theorem Qsal {ks : List Kind} {ps : List Point} {es : List Entry} {ks2 : List Kind} {ps2 : List Point} {es2 : List Entry} : (newsF ks ps es ks2 ps2 es2).length ≤ 60:=by
 unfold newsF
 by_cases h : Qn0o ks ps es = true ∧ Qn0o ks2 ps2 es2 = true
 ·rw [if_pos h]
  have h1:=Q319 es es2
  obtain ⟨h3,h4⟩:=Qm34 h.2
  have h2:=Qzzx h4
  have : es2.length * 5 ≤ 12 * 5:=Nat.mul_le_mul_right 5 h3
  omega
 ·rw [if_neg h]; exact Nat.zero_le _
theorem Qz0d {ks : List Kind} {ps : List Point} {es : List Entry} {ks2 : List Kind} {ps2 : List Point} {es2 : List Entry} (h : ¬ (Qjop ks ps es ks2 ps2 es2).code = 0) : (Qjop ks ps es ks2 ps2 es2).ks = [] ∧ (Qjop ks ps es ks2 ps2 es2).ps = [] ∧ (Qjop ks ps es ks2 ps2 es2).es = []:=by
 unfold Qjop at h ⊢
 by_cases h1 : Qn0o ks ps es = true ∧ Qn0o ks2 ps2 es2 = true
 ·rw [if_pos h1] at h ⊢
  by_cases h2 : ks = ks2 ∧ ps = ps2
  ·rw [if_pos h2] at h ⊢
   by_cases h3 : (mgS es es2).length ≤ 12
   ·rw [if_pos h3] at h; exact absurd rfl h
   ·rw [if_neg h3]; exact ⟨rfl,rfl,rfl⟩
  ·rw [if_neg h2]; exact ⟨rfl,rfl,rfl⟩
 ·rw [if_neg h1]; exact ⟨rfl,rfl,rfl⟩
theorem Qhyt {es es2 : List Entry} (h1 : szB es = true) (h2 : es.length < 1000000000) (h3 : szB es2 = true) (h4 : es2.length < 1000000000) : newsK es es2 = true:=by
 rw [newsK,h1,h3,decide_eq_true h2,decide_eq_true h4]; rfl
end Lx
namespace Lx
open Go Go.Proofs
noncomputable def Qx5p : RE Ty El:=⟨Tryz.prog,CP,[(Qmwh,Qkv9),(Qqd1,Qsip),(Qb03,Qeza),(Q5ho,Qz24),(Q33a,Qh54),(Q9b2,Qa5d),(Q9qt,Qtfi),(Qt0f,Qvqk),(Qr6y,Qsrq)],Tryz.f9,0,[],[(5,[(1,.any),(5,.any),(6,.any),(7,.any),(8,.any)]),(9,[(1,.any),(5,.any),(6,.any),(7,.any),(8,.any)]),(14,[(1,.any),(5,.any),(6,.any),(7,.any),(13,.any)]),(18,[(1,.any),(5,.any),(6,.any),(7,.any)])]⟩
theorem Qhef : REOK Qx5p Qyeo:=⟨CP_ok,(TabOK.cons Q6vs (TabOK.cons Qmlg (TabOK.cons Q1yh (TabOK.cons Qxl3 (TabOK.cons Qy17 (TabOK.cons Q8p0 (TabOK.cons Q8dg (TabOK.cons Qdvl (TabOK.cons Q9p5 Qye1))))))))),by kernel_rfl,by kernel_rfl⟩
theorem Q4qu (c m : List Int) : aRun Qx5p 600 false (body0 Qx5p.fn) (Q4gm Qx5p.fn [.sl .u8 c,.sl .u8 m] []) =
 ifb (decide ((↑c.length : Int) > (1048576 : Int))) (some (.ret (.bool true) [])) (ifb (decide ((↑m.length : Int) > (1048576 : Int))) (some (.ret (.bool true) [])) (ifb (Qf9o c) (ifb (mgK (Qgn6 c).ks (Qgn6 c).ps (Qgn6 c).es (Qgn6 c).ks2 (Qgn6 c).ps2 (Qgn6 c).es2) (some (.go (Qu6t Qx5p.fn 5) [.sl .u8 m,.ptr 0 0,.ptr 1 0,.ptr 2 0,.int .i64 ((Qjop (Qgn6 c).ks (Qgn6 c).ps (Qgn6 c).es (Qgn6 c).ks2 (Qgn6 c).ps2 (Qgn6 c).es2).code)] [.box [.sl .kind ((Qgn6 c).ks),.sl .point ((Qgn6 c).ps),.sl .entry ((Qgn6 c).es)],.box [.sl .kind ((Qgn6 c).ks2),.sl .point ((Qgn6 c).ps2),.sl .entry ((Qgn6 c).es2)],.box [.sl .kind ((Qjop (Qgn6 c).ks (Qgn6 c).ps (Qgn6 c).es (Qgn6 c).ks2 (Qgn6 c).ps2 (Qgn6 c).es2).ks),.sl .point ((Qjop (Qgn6 c).ks (Qgn6 c).ps (Qgn6 c).es (Qgn6 c).ks2 (Qgn6 c).ps2 (Qgn6 c).es2).ps),.sl .entry ((Qjop (Qgn6 c).ks (Qgn6 c).ps (Qgn6 c).es (Qgn6 c).ks2 (Qgn6 c).ps2 (Qgn6 c).es2).es)]])) (none)) (none))):=by kernel_rfl
theorem Q5r3 (x0 : List (El .u8)) (x1 : Int) (x2 : List (El .kind)) (x3 : List (El .point)) (x4 : List (El .entry)) (x5 : List (El .kind)) (x6 : List (El .point)) (x7 : List (El .entry)) (x8 : List (El .kind)) (x9 : List (El .point)) (x10 : List (El .entry)) : aRun Qx5p 600 true (Qu6t Qx5p.fn 5) (cutSt Qx5p.fn (Q1m4 Qx5p (Qu6t Qx5p.fn 5)) [.sl .u8 x0,.ptr 0 0,.ptr 1 0,.ptr 2 0,.int .i64 x1] [.box [.sl .kind x2,.sl .point x3,.sl .entry x4],.box [.sl .kind x5,.sl .point x6,.sl .entry x7],.box [.sl .kind x8,.sl .point x9,.sl .entry x10]]) =
 ifb (mgK x5 x6 x7 x2 x3 x4) (ifb (mgK x2 x3 x4 x5 x6 x7) (ifb (x1 != (Qjop x2 x3 x4 x5 x6 x7).code) (some (.ret (.bool false) [])) (ifb ((Qjop x5 x6 x7 x2 x3 x4).code != (Qjop x2 x3 x4 x5 x6 x7).code) (some (.ret (.bool false) [])) (ifb (Q2xe x8 (Qjop x2 x3 x4 x5 x6 x7).ks x9 (Qjop x2 x3 x4 x5 x6 x7).ps x10 (Qjop x2 x3 x4 x5 x6 x7).es) (ifb (Q2xe x8 (Qjop x5 x6 x7 x2 x3 x4).ks x9 (Qjop x5 x6 x7 x2 x3 x4).ps x10 (Qjop x5 x6 x7 x2 x3 x4).es) (some (.go (Qu6t Qx5p.fn 9) [.sl .u8 x0,.ptr 0 0,.ptr 1 0,.ptr 2 0,.int .i64 x1] [.box [.sl .kind x2,.sl .point x3,.sl .entry x4],.box [.sl .kind x5,.sl .point x6,.sl .entry x7],.box [.sl .kind x8,.sl .point x9,.sl .entry x10]])) (none)) (none)))) (none)) (none):=by kernel_rfl
theorem Quzb (x0 : List (El .u8)) (x1 : Int) (x2 : List (El .kind)) (x3 : List (El .point)) (x4 : List (El .entry)) (x5 : List (El .kind)) (x6 : List (El .point)) (x7 : List (El .entry)) (x8 : List (El .kind)) (x9 : List (El .point)) (x10 : List (El .entry)) : aRun Qx5p 600 true (Qu6t Qx5p.fn 9) (cutSt Qx5p.fn (Q1m4 Qx5p (Qu6t Qx5p.fn 9)) [.sl .u8 x0,.ptr 0 0,.ptr 1 0,.ptr 2 0,.int .i64 x1] [.box [.sl .kind x2,.sl .point x3,.sl .entry x4],.box [.sl .kind x5,.sl .point x6,.sl .entry x7],.box [.sl .kind x8,.sl .point x9,.sl .entry x10]]) =
 ifb (newsK x4 x7) (ifb (newsK x4 x7) (ifb (decide ((newsF x2 x3 x4 x5 x6 x7).length ≤ (1000000000 : Nat)) && decide (newsF x2 x3 x4 x5 x6 x7 = newsF x2 x3 x4 x5 x6 x7)) (ifb (x1 != 0) (ifb (Q2xe x8 [] x9 [] x10 []) (some (.ret (.bool true) [])) (none)) (some (.go (Qu6t Qx5p.fn 14) [.sl .u8 x0,.ptr 0 0,.ptr 1 0,.ptr 2 0,.sl .chg (newsF x2 x3 x4 x5 x6 x7)] [.box [.sl .kind x2,.sl .point x3,.sl .entry x4],.box [.sl .kind x5,.sl .point x6,.sl .entry x7],.box [.sl .kind x8,.sl .point x9,.sl .entry x10]]))) (none)) (none)) (none):=by kernel_rfl
theorem Qt4k (x0 : List (El .u8)) (x1 : List (El .chg)) (x2 : List (El .kind)) (x3 : List (El .point)) (x4 : List (El .entry)) (x5 : List (El .kind)) (x6 : List (El .point)) (x7 : List (El .entry)) (x8 : List (El .kind)) (x9 : List (El .point)) (x10 : List (El .entry)) : aRun Qx5p 600 true (Qu6t Qx5p.fn 14) (cutSt Qx5p.fn (Q1m4 Qx5p (Qu6t Qx5p.fn 14)) [.sl .u8 x0,.ptr 0 0,.ptr 1 0,.ptr 2 0,.sl .chg x1] [.box [.sl .kind x2,.sl .point x3,.sl .entry x4],.box [.sl .kind x5,.sl .point x6,.sl .entry x7],.box [.sl .kind x8,.sl .point x9,.sl .entry x10]]) =
 ifb (goodB x2 x3 x4 && Q7ga x1) (ifb (mgK x8 x9 x10 x5 x6 x7) (ifb (Q2xe (Q0ew x2 x3 x4 x1).ks x8 (Q0ew x2 x3 x4 x1).ps x9 (Q0ew x2 x3 x4 x1).es x10) (ifb ((Qjop x8 x9 x10 x5 x6 x7).code != 0) (some (.ret (.bool false) [])) (ifb (Q2xe (Qjop x8 x9 x10 x5 x6 x7).ks x8 (Qjop x8 x9 x10 x5 x6 x7).ps x9 (Qjop x8 x9 x10 x5 x6 x7).es x10) (ifb ((↑(Q0ew x2 x3 x4 x1).cs.length : Int) != (↑x1.length : Int)) (some (.ret (.bool false) [])) (ifb (newsK x10 x7) (ifb (newsK x10 x4) (ifb (decide (IntKind.i64.wrap ((↑(newsF x8 x9 x10 x5 x6 x7).length : Int) + (↑(newsF x8 x9 x10 x2 x3 x4).length : Int)) > (0 : Int))) (some (.ret (.bool false) [])) (some (.go (Qu6t Qx5p.fn 18) [.sl .u8 x0,.ptr 0 0,.ptr 1 0,.ptr 2 0] [.box [.sl .kind x2,.sl .point x3,.sl .entry x4],.box [.sl .kind x5,.sl .point x6,.sl .entry x7],.box [.sl .kind x8,.sl .point x9,.sl .entry x10]]))) (none)) (none))) (none))) (none)) (none)) (none):=by kernel_rfl
theorem Q8rc (x0 : List (El .u8)) (x1 : List (El .kind)) (x2 : List (El .point)) (x3 : List (El .entry)) (x4 : List (El .kind)) (x5 : List (El .point)) (x6 : List (El .entry)) (x7 : List (El .kind)) (x8 : List (El .point)) (x9 : List (El .entry)) : aRun Qx5p 600 true (Qu6t Qx5p.fn 18) (cutSt Qx5p.fn (Q1m4 Qx5p (Qu6t Qx5p.fn 18)) [.sl .u8 x0,.ptr 0 0,.ptr 1 0,.ptr 2 0] [.box [.sl .kind x1,.sl .point x2,.sl .entry x3],.box [.sl .kind x4,.sl .point x5,.sl .entry x6],.box [.sl .kind x7,.sl .point x8,.sl .entry x9]]) =
 ifb (Qf9o x0) (ifb (goodB x1 x2 [] && Q7ga (Qzux x0).l) (ifb (mgK x7 x8 x9 (Q0ew x1 x2 [] (Qzux x0).l).ks (Q0ew x1 x2 [] (Qzux x0).l).ps (Q0ew x1 x2 [] (Qzux x0).l).es) (ifb (mgK x4 x5 x6 (Q0ew x1 x2 [] (Qzux x0).l).ks (Q0ew x1 x2 [] (Qzux x0).l).ps (Q0ew x1 x2 [] (Qzux x0).l).es) (ifb (mgK x1 x2 x3 (Qjop x4 x5 x6 (Q0ew x1 x2 [] (Qzux x0).l).ks (Q0ew x1 x2 [] (Qzux x0).l).ps (Q0ew x1 x2 [] (Qzux x0).l).es).ks (Qjop x4 x5 x6 (Q0ew x1 x2 [] (Qzux x0).l).ks (Q0ew x1 x2 [] (Qzux x0).l).ps (Q0ew x1 x2 [] (Qzux x0).l).es).ps (Qjop x4 x5 x6 (Q0ew x1 x2 [] (Qzux x0).l).ks (Q0ew x1 x2 [] (Qzux x0).l).ps (Q0ew x1 x2 [] (Qzux x0).l).es).es) (ifb ((Qjop x7 x8 x9 (Q0ew x1 x2 [] (Qzux x0).l).ks (Q0ew x1 x2 [] (Qzux x0).l).ps (Q0ew x1 x2 [] (Qzux x0).l).es).code != 0) (some (.ret (.bool true) [])) (ifb ((Qjop x4 x5 x6 (Q0ew x1 x2 [] (Qzux x0).l).ks (Q0ew x1 x2 [] (Qzux x0).l).ps (Q0ew x1 x2 [] (Qzux x0).l).es).code != 0) (some (.ret (.bool true) [])) (ifb ((Qjop x1 x2 x3 (Qjop x4 x5 x6 (Q0ew x1 x2 [] (Qzux x0).l).ks (Q0ew x1 x2 [] (Qzux x0).l).ps (Q0ew x1 x2 [] (Qzux x0).l).es).ks (Qjop x4 x5 x6 (Q0ew x1 x2 [] (Qzux x0).l).ks (Q0ew x1 x2 [] (Qzux x0).l).ps (Q0ew x1 x2 [] (Qzux x0).l).es).ps (Qjop x4 x5 x6 (Q0ew x1 x2 [] (Qzux x0).l).ks (Q0ew x1 x2 [] (Qzux x0).l).ps (Q0ew x1 x2 [] (Qzux x0).l).es).es).code != 0) (some (.ret (.bool true) [])) (ifb (Q2xe (Qjop x7 x8 x9 (Q0ew x1 x2 [] (Qzux x0).l).ks (Q0ew x1 x2 [] (Qzux x0).l).ps (Q0ew x1 x2 [] (Qzux x0).l).es).ks (Qjop x1 x2 x3 (Qjop x4 x5 x6 (Q0ew x1 x2 [] (Qzux x0).l).ks (Q0ew x1 x2 [] (Qzux x0).l).ps (Q0ew x1 x2 [] (Qzux x0).l).es).ks (Qjop x4 x5 x6 (Q0ew x1 x2 [] (Qzux x0).l).ks (Q0ew x1 x2 [] (Qzux x0).l).ps (Q0ew x1 x2 [] (Qzux x0).l).es).ps (Qjop x4 x5 x6 (Q0ew x1 x2 [] (Qzux x0).l).ks (Q0ew x1 x2 [] (Qzux x0).l).ps (Q0ew x1 x2 [] (Qzux x0).l).es).es).ks (Qjop x7 x8 x9 (Q0ew x1 x2 [] (Qzux x0).l).ks (Q0ew x1 x2 [] (Qzux x0).l).ps (Q0ew x1 x2 [] (Qzux x0).l).es).ps (Qjop x1 x2 x3 (Qjop x4 x5 x6 (Q0ew x1 x2 [] (Qzux x0).l).ks (Q0ew x1 x2 [] (Qzux x0).l).ps (Q0ew x1 x2 [] (Qzux x0).l).es).ks (Qjop x4 x5 x6 (Q0ew x1 x2 [] (Qzux x0).l).ks (Q0ew x1 x2 [] (Qzux x0).l).ps (Q0ew x1 x2 [] (Qzux x0).l).es).ps (Qjop x4 x5 x6 (Q0ew x1 x2 [] (Qzux x0).l).ks (Q0ew x1 x2 [] (Qzux x0).l).ps (Q0ew x1 x2 [] (Qzux x0).l).es).es).ps (Qjop x7 x8 x9 (Q0ew x1 x2 [] (Qzux x0).l).ks (Q0ew x1 x2 [] (Qzux x0).l).ps (Q0ew x1 x2 [] (Qzux x0).l).es).es (Qjop x1 x2 x3 (Qjop x4 x5 x6 (Q0ew x1 x2 [] (Qzux x0).l).ks (Q0ew x1 x2 [] (Qzux x0).l).ps (Q0ew x1 x2 [] (Qzux x0).l).es).ks (Qjop x4 x5 x6 (Q0ew x1 x2 [] (Qzux x0).l).ks (Q0ew x1 x2 [] (Qzux x0).l).ps (Q0ew x1 x2 [] (Qzux x0).l).es).ps (Qjop x4 x5 x6 (Q0ew x1 x2 [] (Qzux x0).l).ks (Q0ew x1 x2 [] (Qzux x0).l).ps (Q0ew x1 x2 [] (Qzux x0).l).es).es).es) (some (.ret (.bool true) [])) (none))))) (none)) (none)) (none)) (none)) (none):=by kernel_rfl
theorem Q2qx (m : List Int) (hm : Qf9o m = true) (ks : List Kind) (ps : List Point) (es es2 : List Entry) (ha : goodE ks ps es = true) (hb : goodE ks ps es2 = true) (hl : (mgS es es2).length ≤ 12) :
  Cut Qx5p Qyeo 18 [.sl .u8 m,.ptr 0 0,.ptr 1 0,.ptr 2 0] [.box [.sl .kind ks,.sl .point ps,.sl .entry es],.box [.sl .kind ks,.sl .point ps,.sl .entry es2],.box [.sl .kind ks,.sl .point ps,.sl .entry (mgS es es2)]] (.bool true) []:=by
 have yes : Sat Qx5p Qyeo (.bool true) [] (some (.ret (.bool true) [])):=Sat.ret rfl rfl
 obtain ⟨hx,_⟩:=Q8k1 ha hb hl (l:=chgs es2) (fun c hc=>hc) rfl
 obtain ⟨_,gl,gv⟩:=(Qs6v m hm).2
 have hab:=ha
 have hbb:=hb
 have hxb:=hx
 simp only [goodE,qaT] at hab hbb hxb
 have h0 : goodE ks ps [] = true:=Qkew (Qg6k hab.1).1
 have h0b:=h0
 simp only [goodE,qaT] at h0b
 obtain ⟨ht,_⟩:=Qbzy (l:=(Qzux m).l) h0 gv
 have hT : Q0ew ks ps [] (Qzux m).l = ⟨ks,ps,(tkGo ks ps [] (Qzux m).l).1,(tkGo ks ps [] (Qzux m).l).2⟩:=by rw [Q0ew,if_pos h0b.1]
 have hc : Q7ga (Qzux m).l = true:=by
  simp only [Q7ga,qaT,qdT]
  exact ⟨by omega,gv⟩
 refine Cut.of Qhef rfl (Q8rc m ks ps es ks ps es2 ks ps _) ?_
 rw [hm,hT,h0b.2,hc]
 simp only [Qd8q,Bool.and_self]
 generalize (tkGo ks ps [] (Qzux m).l).1 = t at ht ⊢
 have htb:=ht
 simp only [goodE,qaT] at htb
 obtain ⟨gm,_⟩:=Q186 (ks:=ks) (ps:=ps) (es:=es2) (ks2:=ks) (ps2:=ps) (es2:=t) hbb.2 htb.2
 obtain ⟨gp,_⟩:=Q186 (ks:=ks) (ps:=ps) (es:=mgS es es2) (ks2:=ks) (ps2:=ps) (es2:=t) hxb.2 htb.2
 rw [show mgK ks ps (mgS es es2) ks ps t = true by rw [mgK,hxb.2,htb.2]; rfl,show mgK ks ps es2 ks ps t = true by rw [mgK,hbb.2,htb.2]; rfl,show mgK ks ps es (Qjop ks ps es2 ks ps t).ks (Qjop ks ps es2 ks ps t).ps (Qjop ks ps es2 ks ps t).es = true by rw [mgK,hab.2,gm]; rfl]
 simp only [Qd8q]
 refine Sat.ifb (fun _=>yes) (fun hf=>Sat.ifb (fun _=>yes) (fun hq=>Sat.ifb (fun _=>yes) (fun hs=>?_)))
 have zf : (Qjop ks ps (mgS es es2) ks ps t).code = 0:=by simpa using hf
 have zq : (Qjop ks ps es2 ks ps t).code = 0:=by simpa using hq
 obtain ⟨_,_,_,_,_,ef⟩:=Qf8f zf
 obtain ⟨_,_,_,_,_,eq⟩:=Qf8f zq
 rw [eq] at hs ⊢
 have zs : (Qjop ks ps es ks ps (mgS es2 t)).code = 0:=by simpa using hs
 obtain ⟨_,_,_,_,_,es'⟩:=Qf8f zs
 rw [ef] at gp
 rw [ef,es',← Qx5d (Qwk3 hab.1) (Qwk3 hbb.1) (Qwk3 htb.1),Qkbt gp]
 exact yes
theorem Qh1f (m : List Int) (hm : Qf9o m = true) (ks : List Kind) (ps : List Point) (es es2 : List Entry) (ha : goodE ks ps es = true) (hb : goodE ks ps es2 = true) (hl : (mgS es es2).length ≤ 12) :
  Cut Qx5p Qyeo 14 [.sl .u8 m,.ptr 0 0,.ptr 1 0,.ptr 2 0,.sl .chg (newsE es es2)] [.box [.sl .kind ks,.sl .point ps,.sl .entry es],.box [.sl .kind ks,.sl .point ps,.sl .entry es2],.box [.sl .kind ks,.sl .point ps,.sl .entry (mgS es es2)]] (.bool true) []:=by
 have yes : Sat Qx5p Qyeo (.bool true) [] (some (.ret (.bool true) [])):=Sat.ret rfl rfl
 have hab:=ha
 have hbb:=hb
 simp only [goodE,qaT] at hab hbb
 have sa:=Qwk3 hab.1
 have sb:=Qwk3 hbb.1
 obtain ⟨hx,ht1,ht2⟩:=Q8k1 ha hb hl (l:=newsE es es2) (fun c hc=>Q9fl hc) (Q0sw sa sb)
 have hxb:=hx
 simp only [goodE,qaT] at hxb
 have za:=hab.2
 have zb:=hbb.2
 have zx:=hxb.2
 simp only [goodB,qaT] at za zb zx
 have la:=(Qm34 hab.1).1
 have lb:=(Qm34 hbb.1).1
 have hc : Q7ga (newsE es es2) = true:=by
  have h1:=Q319 es es2
  have h2:=Qzzx (Qm34 hbb.1).2
  have : es2.length * 5 ≤ 12 * 5:=Nat.mul_le_mul_right 5 lb
  simp only [Q7ga,qaT,qdT]
  exact ⟨by omega,qlA.2 fun c hc=>Q6cq zb.1 c (Q9fl hc)⟩
 have hT : Q0ew ks ps es (newsE es es2) = ⟨ks,ps,mgS es es2,(tkGo ks ps es (newsE es es2)).2⟩:=by rw [Q0ew,if_pos hab.1,ht1]
 have hag : Qjop ks ps (mgS es es2) ks ps es2 = ⟨ks,ps,mgS es es2,0⟩:=by
  have e:=Qoja sa sb
  rw [Qrsb hxb.1 hbb.1 (by rw [e]; exact hl),e]
 have n1 : newsF ks ps (mgS es es2) ks ps es2 = []:=by rw [newsF,if_pos ⟨hxb.1,hbb.1⟩,Qaby sa sb]
 have n2 : newsF ks ps (mgS es es2) ks ps es = []:=by rw [newsF,if_pos ⟨hxb.1,hab.1⟩,Qkyq sa sb]
 refine Cut.of Qhef rfl (Qt4k m _ ks ps es ks ps es2 ks ps _) ?_
 rw [hab.2,hc,hT,hag,n1,n2,show mgK ks ps (mgS es es2) ks ps es2 = true by rw [mgK,hxb.2,hbb.2]; rfl,Qhyt zx.1 (by omega) zb.1 (by omega),Qhyt zx.1 (by omega) za.1 (by omega)]
 simp only [Bool.and_self,Qd8q,Qkbt hxb.2,ht2,bne_self_eq_false,Qk7y]
 rw [show decide (IntKind.i64.wrap (((([] : List Chg).length : Nat) : Int) + ((([] : List Chg).length : Nat) : Int)) > 0) = false from rfl]
 exact Sat.cut (Q2qx m hm ks ps es es2 ha hb hl)
theorem Qrkg (c m : List Int) (hg : (Qf9o c && Qf9o m) = true) : Qewq Tryz.prog CP Qyeo [.sl .u8 c,.sl .u8 m] [] (.bool true) []:=by
 refine Qewq.of Qhef (by kernel_rfl) (Q4qu c m) ?_
 have yes : Sat Qx5p Qyeo (.bool true) [] (some (.ret (.bool true) [])):=Sat.ret rfl rfl
 simp only [qaT] at hg
 obtain ⟨hg,hm⟩:=hg
 refine Sat.ifb (fun _=>yes) (fun _=>Sat.ifb (fun _=>yes) (fun _=>?_))
 obtain ⟨gA,gB⟩:=(Qjkx c hg).2
 rw [hg]
 generalize Qgn6 c = z at gA gB ⊢
 obtain ⟨ks,ps,es,ks2,ps2,es2⟩:=z
 simp only [goodS,qaT,qdT] at gA gB
 obtain ⟨gA,_,_,a9,_⟩:=gA
 obtain ⟨gB,_,_,b9,_⟩:=gB
 have za:=gA
 have zb:=gB
 simp only [goodB,qaT] at za zb
 have k1 : mgK ks ps es ks2 ps2 es2 = true:=by rw [mgK,gA,gB]; rfl
 have k2 : mgK ks2 ps2 es2 ks ps es = true:=by rw [mgK,gA,gB]; rfl
 obtain ⟨gM,_⟩:=Q186 gA gB
 dsimp only
 rw [k1]
 refine Sat.cut (Cut.of Qhef rfl (Q5r3 m _ ks ps es ks2 ps2 es2 _ _ _) ?_)
 rw [k1,k2,Q16w ks2 ps2 es2 ks ps es,Qkbt gM]
 simp only [Qd8q,bne_self_eq_false,Qk7y]
 refine Sat.cut (Cut.of Qhef rfl (Quzb m _ ks ps es ks2 ps2 es2 _ _ _) ?_)
 have hn:=Qsal (ks:=ks) (ps:=ps) (es:=es) (ks2:=ks2) (ps2:=ps2) (es2:=es2)
 rw [Qhyt za.1 (by omega) zb.1 (by omega),decide_eq_true (show (newsF ks ps es ks2 ps2 es2).length ≤ 1000000000 by omega)]
 simp only [Qd8q,decide_true,Bool.and_self]
 by_cases h0 : (Qjop ks ps es ks2 ps2 es2).code = 0
 ·obtain ⟨q1,q2,rfl,rfl,q3,q4⟩:=Qf8f h0
  rw [q4,newsF,if_pos ⟨q1,q2⟩]
  exact Sat.cut (Qh1f m hm ks ps es es2 (by rw [goodE,q1,gA]; rfl) (by rw [goodE,q2,gB]; rfl) q3)
 ·obtain ⟨e1,e2,e3⟩:=Qz0d h0
  rw [e1,e2,e3,show ((Qjop ks ps es ks2 ps2 es2).code != 0) = true by simpa using h0]
  exact yes
end Lx
