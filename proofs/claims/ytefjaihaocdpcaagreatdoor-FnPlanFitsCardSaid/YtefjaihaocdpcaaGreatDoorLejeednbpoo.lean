/- Forms, written and read. -/
import Derived.Test.YtefjaihaocdpcaaGreatDoorLccgallbkbl
set_option linter.unusedVariables false
set_option linter.unusedSimpArgs false
set_option maxRecDepth 4000
namespace Lx
open Go Go.Proofs
noncomputable def Q9xq : RE Ty El:=⟨Tryz.prog,CP,[(Qnsr,Q1ft)],Tryz.f105,0,[],[]⟩
theorem Qxf1 : REOK Q9xq Qiq5:=⟨CP_ok,(TabOK.cons Q6zv Qye1),by kernel_rfl,by kernel_rfl⟩
theorem Qbx0 (s : Str) : aRun Q9xq 600 false (body0 Q9xq.fn) (Q4gm Q9xq.fn [.str s] []) =
 ifb (szS s) (some (.ret (.str s) [])) (none):=by kernel_rfl
theorem Qpk2 (s : Str) (hg : szS s = true) : Qewq Tryz.prog CP Qiq5 [.str s] [] (.str s) []:=by
 refine Qewq.of Qxf1 (by kernel_rfl) (Qbx0 s) ?_
 exact Sat.nd hg (Sat.ret rfl rfl)
theorem Q8il : EntOK Tryz.prog CP Qiq5 Qsxi:=by
 refine ⟨eob (by kernel_rfl),fun _ _ _ _ h=>?_⟩
 simp only [Qsxi] at h
 split at h
 ·obtain ⟨hg,rfl,rfl⟩:=eoh h
  exact Qpk2 _ hg
 ·cases h

noncomputable def Qrep : RE Ty El:=⟨Tryz.prog,CP,[],Tryz.f106,0,[],[(2,[(0,.any),(1,.any),(7,.any),(8,.any)])]⟩
theorem Q7m2 : REOK Qrep Qbag:=⟨CP_ok,Qye1,by kernel_rfl,by kernel_rfl⟩
theorem Q9x3 (l : List Str) (x : Str) : aRun Qrep 600 false (body0 Qrep.fn) (Q4gm Qrep.fn [.sl .str l,.str x] []) =
 some (.go (Qu6t Qrep.fn 2) [.sl .str l,.str x,.int .i64 (↑l.length : Int),.int .i64 0] []):=by kernel_rfl
theorem Q4qn (x0 : List (El .str)) (x1 : Str) (x2 : Int) (x3 : Int) : aRun Qrep 600 true (Qu6t Qrep.fn 2) (cutSt Qrep.fn (Q1m4 Qrep (Qu6t Qrep.fn 2)) [.sl .str x0,.str x1,.int .i64 x2,.int .i64 x3] []) =
 ifb (decide (x3 < x2)) (ifb (inb x3 x0.length) (ifb (x1 == x0.getD x3.toNat (Qrep.C.dflt Ty.str)) (some (.ret (.int .i64 x3) [])) (some (.go (Qu6t Qrep.fn 2) [.sl .str x0,.str x1,.int .i64 x2,.int .i64 (IntKind.i64.wrap (x3 + 1))] []))) (none)) (some (.ret (.int .i64 (-1 : Int)) [])):=by kernel_rfl
theorem Qrub (l : List Str) (x : Str) (h0 : l.length ≤ 1000000000) : ∀ (d i : Nat),i + d = l.length → (∀ k < i,∀ y,l[k]? = some y → (y == x) = false) → Cut Qrep Qbag 2 [.sl .str l,.str x,.int .i64 (l.length : Int),.int .i64 (i : Int)] [] (.int .i64 (idxF (fun y=>y == x) l)) []:=by
 intro d
 induction d with
 | zero =>
  intro i hi hno
  refine Cut.of Q7m2 rfl (Q4qn l x l.length i) ?_
  rw [show decide ((i : Int) < (l.length : Int)) = false from decide_eq_false (by omega),Qk7y]
  refine Sat.retI ?_ rfl
  unfold idxF
  rw [List.findIdx?_eq_none_iff.2 (fun y hy=>by
   obtain ⟨j,hj,rfl⟩:=List.getElem_of_mem hy
   exact hno j (by omega) _ (qeG hj))]
 | succ d ih =>
  intro i hi hno
  refine Cut.of Q7m2 rfl (Q4qn l x l.length i) ?_
  have hlt : i < l.length:=by omega
  have hw : IntKind.wrap .i64 ((i : Int) + 1) = ((i + 1 : Nat) : Int):=by rw [Qbrg] <;> omega
  have hx : l.getD (i : Int).toNat (Qrep.C.dflt .str) = l[i]:=by simp [hlt]
  have hin : inb (i : Int) l.length = true:=by simp only [inb,qaT,qdT]; omega
  have hc : (x == l[i]) = (l[i] == x):=by
   by_cases e : x = l[i]
   ·rw [e]
   ·rw [beq_eq_false_iff_ne.2 e,beq_eq_false_iff_ne.2 (fun q=>e q.symm)]
  rw [show decide ((i : Int) < (l.length : Int)) = true from decide_eq_true (by omega),hin,hx,hw,hc]
  simp only [Qd8q]
  cases hn : (l[i] == x) with
  | true =>
   rw [Qd8q]
   refine Sat.retI ?_ rfl
   unfold idxF
   rw [List.findIdx?_eq_some_iff_getElem.2 ⟨hlt,hn,fun j hj=>by rw [hno j hj _ (qeG (by omega))]; simp⟩]
  | false =>
   rw [Qk7y]
   refine Sat.cut (ih (i + 1) (by omega) (fun k hk y hy=>?_))
   rcases Nat.lt_or_ge k i with h | h
   ·exact hno k h y hy
   ·obtain rfl : k = i:=by omega
    rw [qeG hlt] at hy
    obtain rfl:=Option.some.inj hy
    exact hn
theorem Q6lv (l : List Str) (x : Str) (hg : decide (l.length ≤ 1000000000) = true) : Qewq Tryz.prog CP Qbag [.sl .str l,.str x] [] (.int .i64 (idxF (fun y=>y == x) l)) []:=by
 refine Qewq.of Q7m2 (by kernel_rfl) (Q9x3 l x) ?_
 exact Sat.cut (Qrub l x (of_decide_eq_true hg) l.length 0 (by omega) (fun k hk=>by omega))
theorem Q3bw : EntOK Tryz.prog CP Qbag Qqy9:=by
 refine ⟨eob (by kernel_rfl),fun _ _ _ _ h=>?_⟩
 simp only [Qqy9] at h
 split at h
 ·obtain ⟨hg,rfl,rfl⟩:=eoh h
  exact Q6lv _ _ hg
 ·cases h

noncomputable def Qasx : RE Ty El:=⟨Tryz.prog,CP,[],Tryz.f108,0,[],[]⟩
theorem Qvco : REOK Qasx Qg7d:=⟨CP_ok,Qye1,by kernel_rfl,by kernel_rfl⟩
theorem Qcql  : aRun Qasx 600 false (body0 Qasx.fn) (Q4gm Qasx.fn [] []) =
 some (.ret (.sl .str [#[(107 : UInt8),(105 : UInt8),(110 : UInt8),(100 : UInt8)].toList, #[(116 : UInt8),(105 : UInt8),(109 : UInt8),(101 : UInt8)].toList, #[(108 : UInt8),(101 : UInt8),(118 : UInt8),(101 : UInt8),(108 : UInt8)].toList, #[(114 : UInt8),(111 : UInt8),(117 : UInt8),(116 : UInt8),(101 : UInt8)].toList, #[(115 : UInt8),(116 : UInt8),(97 : UInt8),(116 : UInt8),(101 : UInt8)].toList]) []):=by kernel_rfl
theorem Qsuz  : Qewq Tryz.prog CP Qg7d [] [] (.sl .str [wKind,wTime,Qswv,Qxlh,Qbwf]) []:=by
 refine Qewq.of Qvco (by kernel_rfl) (Qcql ) ?_
 exact Sat.ret rfl rfl
theorem Qld0 : EntOK Tryz.prog CP Qg7d Qz84:=by
 refine ⟨eob (by kernel_rfl),fun _ _ _ _ h=>?_⟩
 simp only [Qz84] at h
 split at h
 ·obtain ⟨hg,rfl,rfl⟩:=eoh h
  exact Qsuz
 ·cases h

noncomputable def Qx3z : RE Ty El:=⟨Tryz.prog,CP,[],Tryz.f107,0,[],[(2,[(0,.any),(3,.any)])]⟩
theorem Q6v2 : REOK Qx3z Q0xl:=⟨CP_ok,Qye1,by kernel_rfl,by kernel_rfl⟩
theorem Q286 (v : Str) : aRun Qx3z 600 false (body0 Qx3z.fn) (Q4gm Qx3z.fn [.str v] []) =
 some (.go (Qu6t Qx3z.fn 2) [.str v,.int .i64 0] []):=by kernel_rfl
theorem Qaeg (x0 : Str) (x1 : Int) : aRun Qx3z 600 true (Qu6t Qx3z.fn 2) (cutSt Qx3z.fn (Q1m4 Qx3z (Qu6t Qx3z.fn 2)) [.str x0,.int .i64 x1] []) =
 ifb (decide (x1 < (↑(List.length x0) : Int))) (ifb (inb x1 (List.length x0)) (ifb ((↑(List.getD x0 x1.toNat (0 : UInt8)).toNat : Int) == (10 : Int)) (some (.ret (.bool true) [])) (some (.go (Qu6t Qx3z.fn 2) [.str x0,.int .i64 (IntKind.i64.wrap (x1 + 1))] []))) (none)) (some (.ret (.bool false) [])):=by kernel_rfl
theorem Qyv0 (v : Str) (h0 : v.length ≤ 1000000000) : ∀ (d i : Nat),i + d = v.length → Cut Qx3z Q0xl 2 [.str v,.int .i64 (i : Int)] [] (.bool (hasNL (v.drop i))) []:=by
 intro d
 induction d with
 | zero =>
  intro i hi
  refine Cut.of Q6v2 rfl (Qaeg v i) ?_
  rw [show decide ((i : Int) < (v.length : Int)) = false from decide_eq_false (by omega),List.drop_of_length_le (by omega)]
  exact Sat.ret rfl rfl
 | succ d ih =>
  intro i hi
  refine Cut.of Q6v2 rfl (Qaeg v i) ?_
  have hlt : i < v.length:=by omega
  have hw : IntKind.wrap .i64 ((i : Int) + 1) = ((i + 1 : Nat) : Int):=by rw [Qbrg] <;> omega
  have hx : v.getD (i : Int).toNat 0 = v[i]:=by simp [hlt]
  have hin : inb (i : Int) v.length = true:=by simp only [inb,qaT,qdT]; omega
  have hd : v.drop i = v[i] :: v.drop (i + 1):=qdC hlt
  have e : (((v[i].toNat : Nat) : Int) == 10) = (v[i].toNat == 10):=by
   apply Bool.eq_iff_iff.2
   simp only [beq_iff_eq]; omega
  have nx:=ih (i + 1) (by omega)
  rw [show decide ((i : Int) < (v.length : Int)) = true from decide_eq_true (by omega),hin,hx,hw,hd,e]
  simp only [Qd8q]
  have hc : hasNL (v[i] :: v.drop (i + 1)) = (v[i].toNat == 10 || hasNL (v.drop (i + 1))):=rfl
  rw [hc]
  cases v[i].toNat == 10 with
  | true=>exact Sat.ret rfl rfl
  | false=>rw [Bool.false_or]; exact Sat.cut nx
theorem Qw5x (v : Str) (hg : szV v = true) : Qewq Tryz.prog CP Q0xl [.str v] [] (.bool (hasNL v)) []:=by
 refine Qewq.of Q6v2 (by kernel_rfl) (Q286 v) ?_
 exact Sat.cut (Qyv0 v (of_decide_eq_true hg) v.length 0 (by omega))
theorem Q1w4 : EntOK Tryz.prog CP Q0xl Qsiq:=by
 refine ⟨eob (by kernel_rfl),fun _ _ _ _ h=>?_⟩
 simp only [Qsiq] at h
 split at h
 ·obtain ⟨hg,rfl,rfl⟩:=eoh h
  exact Qw5x _ hg
 ·cases h

noncomputable def Qtej : RE Ty El:=⟨Tryz.prog,CP,[],Tryz.f109,0,[],[]⟩
theorem Qfoi : REOK Qtej Qstj:=⟨CP_ok,Qye1,by kernel_rfl,by kernel_rfl⟩
theorem Q8b0 (n : Int) : aRun Qtej 600 false (body0 Qtej.fn) (Q4gm Qtej.fn [.int .i64 n] []) =
 ifb (decide (n < 10)) (some (.ret (.str (List.map (fun n=>UInt8.ofNat n.toNat) (List.map (fun n=>n) [IntKind.u8.wrap (IntKind.i64.wrap ((48 : Int) + n))]))) [])) (none):=by kernel_rfl
theorem Qf50 (n : Int) (hg : inR n 0 9 = true) : Qewq Tryz.prog CP Qstj [.int .i64 n] [] (.str (decS n)) []:=by
 refine Qewq.of Qfoi (by kernel_rfl) (Q8b0 n) ?_
 simp only [inR,qaT,qdT] at hg
 obtain ⟨g0,g1⟩:=hg
 have hn : n = (n.toNat : Int):=by omega
 have hw1 : n < 10 → IntKind.u8.wrap (IntKind.i64.wrap ((48 : Int) + n)) = 48 + n:=fun h=>by
  rw [Qbrg (by omega) (by omega)]; unfold IntKind.wrap; simp [IntKind.bits,IntKind.signed]; omega
 have hw2 : IntKind.u8.wrap (IntKind.i64.wrap ((48 : Int) + n.tmod 10)) = 48 + ((n.toNat % 10 : Nat) : Int):=by
  have e : n.tmod 10 = ((n.toNat % 10 : Nat) : Int):=by rw [Int.tmod_eq_emod_of_nonneg g0]; omega
  rw [e,Qbrg (by omega) (by omega)]; unfold IntKind.wrap; simp [IntKind.bits,IntKind.signed]; omega
 have hq : IntKind.i64.wrap (n.tdiv 10) = ((n.toNat / 10 : Nat) : Int):=by
  have e : n.tdiv 10 = ((n.toNat / 10 : Nat) : Int):=by rw [Int.tdiv_eq_ediv_of_nonneg g0]; omega
  rw [e,Qbrg (by omega) (by omega)]
 refine Sat.ifb (fun h=>?_) (fun h=>?_)
 ·have h:=of_decide_eq_true h
  refine Sat.ret ?_ rfl
  rw [hw1 h,decS,Lib.decDigits_one (by omega)]
  simp only [List.map_cons,List.map_nil]
  rw [show (48 + n).toNat = 48 + n.toNat by omega]
 ·have h:=of_decide_eq_false h
  omega
theorem Q9fy : EntOK Tryz.prog CP Qstj Q9bk:=by
 refine ⟨eob (by kernel_rfl),fun _ _ _ _ h=>?_⟩
 simp only [Q9bk,Q947] at h
 split at h
 ·obtain ⟨hg,rfl,rfl⟩:=eoh h
  exact Qf50 _ hg
 ·cases h

noncomputable def Qubs : RE Ty El:=⟨Tryz.prog,CP,[(Qstj,Q9bk)],Tryz.f109,0,[],[]⟩
theorem Qp8v : REOK Qubs Qstj:=⟨CP_ok,(TabOK.cons Q9fy Qye1),by kernel_rfl,by kernel_rfl⟩
theorem Q7nv (n : Int) : aRun Qubs 600 false (body0 Qubs.fn) (Q4gm Qubs.fn [.int .i64 n] []) =
 ifb (decide (n < 10)) (some (.ret (.str (List.map (fun n=>UInt8.ofNat n.toNat) (List.map (fun n=>n) [IntKind.u8.wrap (IntKind.i64.wrap ((48 : Int) + n))]))) [])) (ifb (inR (IntKind.i64.wrap (n.tdiv (10 : Int))) (0 : Int) (9 : Int)) (ifb (decide (List.length (decS (IntKind.i64.wrap (n.tdiv (10 : Int)))) + (List.map (fun n=>UInt8.ofNat n.toNat) (List.map (fun n=>n) [IntKind.u8.wrap (IntKind.i64.wrap ((48 : Int) + n.tmod (10 : Int)))])).length ≤ (9223372036854775807 : Nat))) (some (.ret (.str (decS (IntKind.i64.wrap (n.tdiv (10 : Int))) ++ List.map (fun n=>UInt8.ofNat n.toNat) (List.map (fun n=>n) [IntKind.u8.wrap (IntKind.i64.wrap ((48 : Int) + n.tmod (10 : Int)))]))) [])) (none)) (none)):=by kernel_rfl
theorem Qdmy (n : Int) (hg : inR n 0 99 = true) : Qewq Tryz.prog CP Qstj [.int .i64 n] [] (.str (decS n)) []:=by
 refine Qewq.of Qp8v (by kernel_rfl) (Q7nv n) ?_
 simp only [inR,qaT,qdT] at hg
 obtain ⟨g0,g1⟩:=hg
 have hn : n = (n.toNat : Int):=by omega
 have hw1 : n < 10 → IntKind.u8.wrap (IntKind.i64.wrap ((48 : Int) + n)) = 48 + n:=fun h=>by
  rw [Qbrg (by omega) (by omega)]; unfold IntKind.wrap; simp [IntKind.bits,IntKind.signed]; omega
 have hw2 : IntKind.u8.wrap (IntKind.i64.wrap ((48 : Int) + n.tmod 10)) = 48 + ((n.toNat % 10 : Nat) : Int):=by
  have e : n.tmod 10 = ((n.toNat % 10 : Nat) : Int):=by rw [Int.tmod_eq_emod_of_nonneg g0]; omega
  rw [e,Qbrg (by omega) (by omega)]; unfold IntKind.wrap; simp [IntKind.bits,IntKind.signed]; omega
 have hq : IntKind.i64.wrap (n.tdiv 10) = ((n.toNat / 10 : Nat) : Int):=by
  have e : n.tdiv 10 = ((n.toNat / 10 : Nat) : Int):=by rw [Int.tdiv_eq_ediv_of_nonneg g0]; omega
  rw [e,Qbrg (by omega) (by omega)]
 refine Sat.ifb (fun h=>?_) (fun h=>?_)
 ·have h:=of_decide_eq_true h
  refine Sat.ret ?_ rfl
  rw [hw1 h,decS,Lib.decDigits_one (by omega)]
  simp only [List.map_cons,List.map_nil]
  rw [show (48 + n).toNat = 48 + n.toNat by omega]
 ·have h:=of_decide_eq_false h
  rw [hq,hw2]
  refine Sat.nd (by simp only [inR,qaT,qdT]; omega) ?_
  refine Sat.nd (decide_eq_true (by have:=Qqxq 9 (n:=n.toNat / 10) (by omega); simp only [decS,Int.toNat_natCast,List.map_cons,List.map_nil,List.length_singleton]; omega)) ?_
  refine Sat.ret ?_ rfl
  have e : decS n = Lib.decDigits (n.toNat / 10) ++ [UInt8.ofNat (48 + n.toNat % 10)]:=Qadg (by omega)
  rw [e,show decS ((n.toNat / 10 : Nat) : Int) = Lib.decDigits (n.toNat / 10) by rw [decS,Int.toNat_natCast]]
  simp only [List.map_cons,List.map_nil]
  rw [show ((48 : Int) + ((n.toNat % 10 : Nat) : Int)).toNat = 48 + n.toNat % 10 by omega]
theorem Qxgz : EntOK Tryz.prog CP Qstj Qol5:=by
 refine ⟨eob (by kernel_rfl),fun _ _ _ _ h=>?_⟩
 simp only [Qol5,Q947] at h
 split at h
 ·obtain ⟨hg,rfl,rfl⟩:=eoh h
  exact Qdmy _ hg
 ·cases h

noncomputable def Qc1d : RE Ty El:=⟨Tryz.prog,CP,[(Qstj,Qol5)],Tryz.f109,0,[],[]⟩
theorem Q2gp : REOK Qc1d Qstj:=⟨CP_ok,(TabOK.cons Qxgz Qye1),by kernel_rfl,by kernel_rfl⟩
theorem Ql4j (n : Int) : aRun Qc1d 600 false (body0 Qc1d.fn) (Q4gm Qc1d.fn [.int .i64 n] []) =
 ifb (decide (n < 10)) (some (.ret (.str (List.map (fun n=>UInt8.ofNat n.toNat) (List.map (fun n=>n) [IntKind.u8.wrap (IntKind.i64.wrap ((48 : Int) + n))]))) [])) (ifb (inR (IntKind.i64.wrap (n.tdiv (10 : Int))) (0 : Int) (99 : Int)) (ifb (decide (List.length (decS (IntKind.i64.wrap (n.tdiv (10 : Int)))) + (List.map (fun n=>UInt8.ofNat n.toNat) (List.map (fun n=>n) [IntKind.u8.wrap (IntKind.i64.wrap ((48 : Int) + n.tmod (10 : Int)))])).length ≤ (9223372036854775807 : Nat))) (some (.ret (.str (decS (IntKind.i64.wrap (n.tdiv (10 : Int))) ++ List.map (fun n=>UInt8.ofNat n.toNat) (List.map (fun n=>n) [IntKind.u8.wrap (IntKind.i64.wrap ((48 : Int) + n.tmod (10 : Int)))]))) [])) (none)) (none)):=by kernel_rfl
theorem Qi08 (n : Int) (hg : inR n 0 999 = true) : Qewq Tryz.prog CP Qstj [.int .i64 n] [] (.str (decS n)) []:=by
 refine Qewq.of Q2gp (by kernel_rfl) (Ql4j n) ?_
 simp only [inR,qaT,qdT] at hg
 obtain ⟨g0,g1⟩:=hg
 have hn : n = (n.toNat : Int):=by omega
 have hw1 : n < 10 → IntKind.u8.wrap (IntKind.i64.wrap ((48 : Int) + n)) = 48 + n:=fun h=>by
  rw [Qbrg (by omega) (by omega)]; unfold IntKind.wrap; simp [IntKind.bits,IntKind.signed]; omega
 have hw2 : IntKind.u8.wrap (IntKind.i64.wrap ((48 : Int) + n.tmod 10)) = 48 + ((n.toNat % 10 : Nat) : Int):=by
  have e : n.tmod 10 = ((n.toNat % 10 : Nat) : Int):=by rw [Int.tmod_eq_emod_of_nonneg g0]; omega
  rw [e,Qbrg (by omega) (by omega)]; unfold IntKind.wrap; simp [IntKind.bits,IntKind.signed]; omega
 have hq : IntKind.i64.wrap (n.tdiv 10) = ((n.toNat / 10 : Nat) : Int):=by
  have e : n.tdiv 10 = ((n.toNat / 10 : Nat) : Int):=by rw [Int.tdiv_eq_ediv_of_nonneg g0]; omega
  rw [e,Qbrg (by omega) (by omega)]
 refine Sat.ifb (fun h=>?_) (fun h=>?_)
 ·have h:=of_decide_eq_true h
  refine Sat.ret ?_ rfl
  rw [hw1 h,decS,Lib.decDigits_one (by omega)]
  simp only [List.map_cons,List.map_nil]
  rw [show (48 + n).toNat = 48 + n.toNat by omega]
 ·have h:=of_decide_eq_false h
  rw [hq,hw2]
  refine Sat.nd (by simp only [inR,qaT,qdT]; omega) ?_
  refine Sat.nd (decide_eq_true (by have:=Qqxq 9 (n:=n.toNat / 10) (by omega); simp only [decS,Int.toNat_natCast,List.map_cons,List.map_nil,List.length_singleton]; omega)) ?_
  refine Sat.ret ?_ rfl
  have e : decS n = Lib.decDigits (n.toNat / 10) ++ [UInt8.ofNat (48 + n.toNat % 10)]:=Qadg (by omega)
  rw [e,show decS ((n.toNat / 10 : Nat) : Int) = Lib.decDigits (n.toNat / 10) by rw [decS,Int.toNat_natCast]]
  simp only [List.map_cons,List.map_nil]
  rw [show ((48 : Int) + ((n.toNat % 10 : Nat) : Int)).toNat = 48 + n.toNat % 10 by omega]
theorem Qnin : EntOK Tryz.prog CP Qstj Q5dm:=by
 refine ⟨eob (by kernel_rfl),fun _ _ _ _ h=>?_⟩
 simp only [Q5dm,Q947] at h
 split at h
 ·obtain ⟨hg,rfl,rfl⟩:=eoh h
  exact Qi08 _ hg
 ·cases h

noncomputable def Qv1p : RE Ty El:=⟨Tryz.prog,CP,[(Qstj,Q5dm)],Tryz.f109,0,[],[]⟩
theorem Qyvr : REOK Qv1p Qstj:=⟨CP_ok,(TabOK.cons Qnin Qye1),by kernel_rfl,by kernel_rfl⟩
theorem Qedb (n : Int) : aRun Qv1p 600 false (body0 Qv1p.fn) (Q4gm Qv1p.fn [.int .i64 n] []) =
 ifb (decide (n < 10)) (some (.ret (.str (List.map (fun n=>UInt8.ofNat n.toNat) (List.map (fun n=>n) [IntKind.u8.wrap (IntKind.i64.wrap ((48 : Int) + n))]))) [])) (ifb (inR (IntKind.i64.wrap (n.tdiv (10 : Int))) (0 : Int) (999 : Int)) (ifb (decide (List.length (decS (IntKind.i64.wrap (n.tdiv (10 : Int)))) + (List.map (fun n=>UInt8.ofNat n.toNat) (List.map (fun n=>n) [IntKind.u8.wrap (IntKind.i64.wrap ((48 : Int) + n.tmod (10 : Int)))])).length ≤ (9223372036854775807 : Nat))) (some (.ret (.str (decS (IntKind.i64.wrap (n.tdiv (10 : Int))) ++ List.map (fun n=>UInt8.ofNat n.toNat) (List.map (fun n=>n) [IntKind.u8.wrap (IntKind.i64.wrap ((48 : Int) + n.tmod (10 : Int)))]))) [])) (none)) (none)):=by kernel_rfl
theorem Qrcc (n : Int) (hg : inR n 0 9999 = true) : Qewq Tryz.prog CP Qstj [.int .i64 n] [] (.str (decS n)) []:=by
 refine Qewq.of Qyvr (by kernel_rfl) (Qedb n) ?_
 simp only [inR,qaT,qdT] at hg
 obtain ⟨g0,g1⟩:=hg
 have hn : n = (n.toNat : Int):=by omega
 have hw1 : n < 10 → IntKind.u8.wrap (IntKind.i64.wrap ((48 : Int) + n)) = 48 + n:=fun h=>by
  rw [Qbrg (by omega) (by omega)]; unfold IntKind.wrap; simp [IntKind.bits,IntKind.signed]; omega
 have hw2 : IntKind.u8.wrap (IntKind.i64.wrap ((48 : Int) + n.tmod 10)) = 48 + ((n.toNat % 10 : Nat) : Int):=by
  have e : n.tmod 10 = ((n.toNat % 10 : Nat) : Int):=by rw [Int.tmod_eq_emod_of_nonneg g0]; omega
  rw [e,Qbrg (by omega) (by omega)]; unfold IntKind.wrap; simp [IntKind.bits,IntKind.signed]; omega
 have hq : IntKind.i64.wrap (n.tdiv 10) = ((n.toNat / 10 : Nat) : Int):=by
  have e : n.tdiv 10 = ((n.toNat / 10 : Nat) : Int):=by rw [Int.tdiv_eq_ediv_of_nonneg g0]; omega
  rw [e,Qbrg (by omega) (by omega)]
 refine Sat.ifb (fun h=>?_) (fun h=>?_)
 ·have h:=of_decide_eq_true h
  refine Sat.ret ?_ rfl
  rw [hw1 h,decS,Lib.decDigits_one (by omega)]
  simp only [List.map_cons,List.map_nil]
  rw [show (48 + n).toNat = 48 + n.toNat by omega]
 ·have h:=of_decide_eq_false h
  rw [hq,hw2]
  refine Sat.nd (by simp only [inR,qaT,qdT]; omega) ?_
  refine Sat.nd (decide_eq_true (by have:=Qqxq 9 (n:=n.toNat / 10) (by omega); simp only [decS,Int.toNat_natCast,List.map_cons,List.map_nil,List.length_singleton]; omega)) ?_
  refine Sat.ret ?_ rfl
  have e : decS n = Lib.decDigits (n.toNat / 10) ++ [UInt8.ofNat (48 + n.toNat % 10)]:=Qadg (by omega)
  rw [e,show decS ((n.toNat / 10 : Nat) : Int) = Lib.decDigits (n.toNat / 10) by rw [decS,Int.toNat_natCast]]
  simp only [List.map_cons,List.map_nil]
  rw [show ((48 : Int) + ((n.toNat % 10 : Nat) : Int)).toNat = 48 + n.toNat % 10 by omega]
theorem Qsjv : EntOK Tryz.prog CP Qstj Qyz8:=by
 refine ⟨eob (by kernel_rfl),fun _ _ _ _ h=>?_⟩
 simp only [Qyz8,Q947] at h
 split at h
 ·obtain ⟨hg,rfl,rfl⟩:=eoh h
  exact Qrcc _ hg
 ·cases h

noncomputable def Q5in : RE Ty El:=⟨Tryz.prog,CP,[(Qstj,Qyz8)],Tryz.f109,0,[],[]⟩
theorem Q8qk : REOK Q5in Qstj:=⟨CP_ok,(TabOK.cons Qsjv Qye1),by kernel_rfl,by kernel_rfl⟩
theorem Qphx (n : Int) : aRun Q5in 600 false (body0 Q5in.fn) (Q4gm Q5in.fn [.int .i64 n] []) =
 ifb (decide (n < 10)) (some (.ret (.str (List.map (fun n=>UInt8.ofNat n.toNat) (List.map (fun n=>n) [IntKind.u8.wrap (IntKind.i64.wrap ((48 : Int) + n))]))) [])) (ifb (inR (IntKind.i64.wrap (n.tdiv (10 : Int))) (0 : Int) (9999 : Int)) (ifb (decide (List.length (decS (IntKind.i64.wrap (n.tdiv (10 : Int)))) + (List.map (fun n=>UInt8.ofNat n.toNat) (List.map (fun n=>n) [IntKind.u8.wrap (IntKind.i64.wrap ((48 : Int) + n.tmod (10 : Int)))])).length ≤ (9223372036854775807 : Nat))) (some (.ret (.str (decS (IntKind.i64.wrap (n.tdiv (10 : Int))) ++ List.map (fun n=>UInt8.ofNat n.toNat) (List.map (fun n=>n) [IntKind.u8.wrap (IntKind.i64.wrap ((48 : Int) + n.tmod (10 : Int)))]))) [])) (none)) (none)):=by kernel_rfl
theorem Q908 (n : Int) (hg : inR n 0 99999 = true) : Qewq Tryz.prog CP Qstj [.int .i64 n] [] (.str (decS n)) []:=by
 refine Qewq.of Q8qk (by kernel_rfl) (Qphx n) ?_
 simp only [inR,qaT,qdT] at hg
 obtain ⟨g0,g1⟩:=hg
 have hn : n = (n.toNat : Int):=by omega
 have hw1 : n < 10 → IntKind.u8.wrap (IntKind.i64.wrap ((48 : Int) + n)) = 48 + n:=fun h=>by
  rw [Qbrg (by omega) (by omega)]; unfold IntKind.wrap; simp [IntKind.bits,IntKind.signed]; omega
 have hw2 : IntKind.u8.wrap (IntKind.i64.wrap ((48 : Int) + n.tmod 10)) = 48 + ((n.toNat % 10 : Nat) : Int):=by
  have e : n.tmod 10 = ((n.toNat % 10 : Nat) : Int):=by rw [Int.tmod_eq_emod_of_nonneg g0]; omega
  rw [e,Qbrg (by omega) (by omega)]; unfold IntKind.wrap; simp [IntKind.bits,IntKind.signed]; omega
 have hq : IntKind.i64.wrap (n.tdiv 10) = ((n.toNat / 10 : Nat) : Int):=by
  have e : n.tdiv 10 = ((n.toNat / 10 : Nat) : Int):=by rw [Int.tdiv_eq_ediv_of_nonneg g0]; omega
  rw [e,Qbrg (by omega) (by omega)]
 refine Sat.ifb (fun h=>?_) (fun h=>?_)
 ·have h:=of_decide_eq_true h
  refine Sat.ret ?_ rfl
  rw [hw1 h,decS,Lib.decDigits_one (by omega)]
  simp only [List.map_cons,List.map_nil]
  rw [show (48 + n).toNat = 48 + n.toNat by omega]
 ·have h:=of_decide_eq_false h
  rw [hq,hw2]
  refine Sat.nd (by simp only [inR,qaT,qdT]; omega) ?_
  refine Sat.nd (decide_eq_true (by have:=Qqxq 9 (n:=n.toNat / 10) (by omega); simp only [decS,Int.toNat_natCast,List.map_cons,List.map_nil,List.length_singleton]; omega)) ?_
  refine Sat.ret ?_ rfl
  have e : decS n = Lib.decDigits (n.toNat / 10) ++ [UInt8.ofNat (48 + n.toNat % 10)]:=Qadg (by omega)
  rw [e,show decS ((n.toNat / 10 : Nat) : Int) = Lib.decDigits (n.toNat / 10) by rw [decS,Int.toNat_natCast]]
  simp only [List.map_cons,List.map_nil]
  rw [show ((48 : Int) + ((n.toNat % 10 : Nat) : Int)).toNat = 48 + n.toNat % 10 by omega]
theorem Qho8 : EntOK Tryz.prog CP Qstj Q8wj:=by
 refine ⟨eob (by kernel_rfl),fun _ _ _ _ h=>?_⟩
 simp only [Q8wj,Q947] at h
 split at h
 ·obtain ⟨hg,rfl,rfl⟩:=eoh h
  exact Q908 _ hg
 ·cases h

noncomputable def Q183 : RE Ty El:=⟨Tryz.prog,CP,[(Qstj,Q8wj)],Tryz.f109,0,[],[]⟩
theorem Q5ku : REOK Q183 Qstj:=⟨CP_ok,(TabOK.cons Qho8 Qye1),by kernel_rfl,by kernel_rfl⟩
theorem Q03t (n : Int) : aRun Q183 600 false (body0 Q183.fn) (Q4gm Q183.fn [.int .i64 n] []) =
 ifb (decide (n < 10)) (some (.ret (.str (List.map (fun n=>UInt8.ofNat n.toNat) (List.map (fun n=>n) [IntKind.u8.wrap (IntKind.i64.wrap ((48 : Int) + n))]))) [])) (ifb (inR (IntKind.i64.wrap (n.tdiv (10 : Int))) (0 : Int) (99999 : Int)) (ifb (decide (List.length (decS (IntKind.i64.wrap (n.tdiv (10 : Int)))) + (List.map (fun n=>UInt8.ofNat n.toNat) (List.map (fun n=>n) [IntKind.u8.wrap (IntKind.i64.wrap ((48 : Int) + n.tmod (10 : Int)))])).length ≤ (9223372036854775807 : Nat))) (some (.ret (.str (decS (IntKind.i64.wrap (n.tdiv (10 : Int))) ++ List.map (fun n=>UInt8.ofNat n.toNat) (List.map (fun n=>n) [IntKind.u8.wrap (IntKind.i64.wrap ((48 : Int) + n.tmod (10 : Int)))]))) [])) (none)) (none)):=by kernel_rfl
theorem Q7qp (n : Int) (hg : inR n 0 999999 = true) : Qewq Tryz.prog CP Qstj [.int .i64 n] [] (.str (decS n)) []:=by
 refine Qewq.of Q5ku (by kernel_rfl) (Q03t n) ?_
 simp only [inR,qaT,qdT] at hg
 obtain ⟨g0,g1⟩:=hg
 have hn : n = (n.toNat : Int):=by omega
 have hw1 : n < 10 → IntKind.u8.wrap (IntKind.i64.wrap ((48 : Int) + n)) = 48 + n:=fun h=>by
  rw [Qbrg (by omega) (by omega)]; unfold IntKind.wrap; simp [IntKind.bits,IntKind.signed]; omega
 have hw2 : IntKind.u8.wrap (IntKind.i64.wrap ((48 : Int) + n.tmod 10)) = 48 + ((n.toNat % 10 : Nat) : Int):=by
  have e : n.tmod 10 = ((n.toNat % 10 : Nat) : Int):=by rw [Int.tmod_eq_emod_of_nonneg g0]; omega
  rw [e,Qbrg (by omega) (by omega)]; unfold IntKind.wrap; simp [IntKind.bits,IntKind.signed]; omega
 have hq : IntKind.i64.wrap (n.tdiv 10) = ((n.toNat / 10 : Nat) : Int):=by
  have e : n.tdiv 10 = ((n.toNat / 10 : Nat) : Int):=by rw [Int.tdiv_eq_ediv_of_nonneg g0]; omega
  rw [e,Qbrg (by omega) (by omega)]
 refine Sat.ifb (fun h=>?_) (fun h=>?_)
 ·have h:=of_decide_eq_true h
  refine Sat.ret ?_ rfl
  rw [hw1 h,decS,Lib.decDigits_one (by omega)]
  simp only [List.map_cons,List.map_nil]
  rw [show (48 + n).toNat = 48 + n.toNat by omega]
 ·have h:=of_decide_eq_false h
  rw [hq,hw2]
  refine Sat.nd (by simp only [inR,qaT,qdT]; omega) ?_
  refine Sat.nd (decide_eq_true (by have:=Qqxq 9 (n:=n.toNat / 10) (by omega); simp only [decS,Int.toNat_natCast,List.map_cons,List.map_nil,List.length_singleton]; omega)) ?_
  refine Sat.ret ?_ rfl
  have e : decS n = Lib.decDigits (n.toNat / 10) ++ [UInt8.ofNat (48 + n.toNat % 10)]:=Qadg (by omega)
  rw [e,show decS ((n.toNat / 10 : Nat) : Int) = Lib.decDigits (n.toNat / 10) by rw [decS,Int.toNat_natCast]]
  simp only [List.map_cons,List.map_nil]
  rw [show ((48 : Int) + ((n.toNat % 10 : Nat) : Int)).toNat = 48 + n.toNat % 10 by omega]
theorem Qi9x : EntOK Tryz.prog CP Qstj Q7xl:=by
 refine ⟨eob (by kernel_rfl),fun _ _ _ _ h=>?_⟩
 simp only [Q7xl,Q947] at h
 split at h
 ·obtain ⟨hg,rfl,rfl⟩:=eoh h
  exact Q7qp _ hg
 ·cases h

noncomputable def Qtqu : RE Ty El:=⟨Tryz.prog,CP,[(Qstj,Q7xl)],Tryz.f109,0,[],[]⟩
theorem Qn7g : REOK Qtqu Qstj:=⟨CP_ok,(TabOK.cons Qi9x Qye1),by kernel_rfl,by kernel_rfl⟩
theorem Qnbl (n : Int) : aRun Qtqu 600 false (body0 Qtqu.fn) (Q4gm Qtqu.fn [.int .i64 n] []) =
 ifb (decide (n < 10)) (some (.ret (.str (List.map (fun n=>UInt8.ofNat n.toNat) (List.map (fun n=>n) [IntKind.u8.wrap (IntKind.i64.wrap ((48 : Int) + n))]))) [])) (ifb (inR (IntKind.i64.wrap (n.tdiv (10 : Int))) (0 : Int) (999999 : Int)) (ifb (decide (List.length (decS (IntKind.i64.wrap (n.tdiv (10 : Int)))) + (List.map (fun n=>UInt8.ofNat n.toNat) (List.map (fun n=>n) [IntKind.u8.wrap (IntKind.i64.wrap ((48 : Int) + n.tmod (10 : Int)))])).length ≤ (9223372036854775807 : Nat))) (some (.ret (.str (decS (IntKind.i64.wrap (n.tdiv (10 : Int))) ++ List.map (fun n=>UInt8.ofNat n.toNat) (List.map (fun n=>n) [IntKind.u8.wrap (IntKind.i64.wrap ((48 : Int) + n.tmod (10 : Int)))]))) [])) (none)) (none)):=by kernel_rfl
theorem Qg09 (n : Int) (hg : inR n 0 9999999 = true) : Qewq Tryz.prog CP Qstj [.int .i64 n] [] (.str (decS n)) []:=by
 refine Qewq.of Qn7g (by kernel_rfl) (Qnbl n) ?_
 simp only [inR,qaT,qdT] at hg
 obtain ⟨g0,g1⟩:=hg
 have hn : n = (n.toNat : Int):=by omega
 have hw1 : n < 10 → IntKind.u8.wrap (IntKind.i64.wrap ((48 : Int) + n)) = 48 + n:=fun h=>by
  rw [Qbrg (by omega) (by omega)]; unfold IntKind.wrap; simp [IntKind.bits,IntKind.signed]; omega
 have hw2 : IntKind.u8.wrap (IntKind.i64.wrap ((48 : Int) + n.tmod 10)) = 48 + ((n.toNat % 10 : Nat) : Int):=by
  have e : n.tmod 10 = ((n.toNat % 10 : Nat) : Int):=by rw [Int.tmod_eq_emod_of_nonneg g0]; omega
  rw [e,Qbrg (by omega) (by omega)]; unfold IntKind.wrap; simp [IntKind.bits,IntKind.signed]; omega
 have hq : IntKind.i64.wrap (n.tdiv 10) = ((n.toNat / 10 : Nat) : Int):=by
  have e : n.tdiv 10 = ((n.toNat / 10 : Nat) : Int):=by rw [Int.tdiv_eq_ediv_of_nonneg g0]; omega
  rw [e,Qbrg (by omega) (by omega)]
 refine Sat.ifb (fun h=>?_) (fun h=>?_)
 ·have h:=of_decide_eq_true h
  refine Sat.ret ?_ rfl
  rw [hw1 h,decS,Lib.decDigits_one (by omega)]
  simp only [List.map_cons,List.map_nil]
  rw [show (48 + n).toNat = 48 + n.toNat by omega]
 ·have h:=of_decide_eq_false h
  rw [hq,hw2]
  refine Sat.nd (by simp only [inR,qaT,qdT]; omega) ?_
  refine Sat.nd (decide_eq_true (by have:=Qqxq 9 (n:=n.toNat / 10) (by omega); simp only [decS,Int.toNat_natCast,List.map_cons,List.map_nil,List.length_singleton]; omega)) ?_
  refine Sat.ret ?_ rfl
  have e : decS n = Lib.decDigits (n.toNat / 10) ++ [UInt8.ofNat (48 + n.toNat % 10)]:=Qadg (by omega)
  rw [e,show decS ((n.toNat / 10 : Nat) : Int) = Lib.decDigits (n.toNat / 10) by rw [decS,Int.toNat_natCast]]
  simp only [List.map_cons,List.map_nil]
  rw [show ((48 : Int) + ((n.toNat % 10 : Nat) : Int)).toNat = 48 + n.toNat % 10 by omega]
theorem Qse0 : EntOK Tryz.prog CP Qstj Qzn9:=by
 refine ⟨eob (by kernel_rfl),fun _ _ _ _ h=>?_⟩
 simp only [Qzn9,Q947] at h
 split at h
 ·obtain ⟨hg,rfl,rfl⟩:=eoh h
  exact Qg09 _ hg
 ·cases h

noncomputable def Qroh : RE Ty El:=⟨Tryz.prog,CP,[(Q9ho,Qcc2),(Qn2h,Q0vx),(Q0am,Qf28),(Qvow,Qo6n)],Tryz.f26,0,[],[]⟩
theorem Qu89 : REOK Qroh Qfq7:=⟨CP_ok,(TabOK.cons Q8k7 (TabOK.cons Qfgu (TabOK.cons Q8b1 (TabOK.cons Quvh Qye1)))),by kernel_rfl,by kernel_rfl⟩
theorem Qk49 (fl : Str) (w m : Int) (v : Str) : aRun Qroh 600 false (body0 Qroh.fn) (Q4gm Qroh.fn [.agg [.str fl,.int .i64 w,.int .i64 m,.str v]] []) =
 ifb (!Q2rq fl) (some (.ret (.str #[].toList) [])) (ifb (!inR w (1 : Int) (5 : Int)) (some (.ret (.str #[].toList) [])) (ifb (!inR m (1 : Int) (1000000 : Int)) (some (.ret (.str #[].toList) [])) (ifb (v == #[].toList) (some (.ret (.str #[].toList) [])) (ifb (szS v) (ifb (List.any v fun b=>b == (10 : UInt8)) (some (.ret (.str #[].toList) [])) (ifb (decide (#[(115 : UInt8),(101 : UInt8),(116 : UInt8),(32 : UInt8)].toList.length + List.length fl ≤ (9223372036854775807 : Nat))) (ifb (decide ((#[(115 : UInt8),(101 : UInt8),(116 : UInt8),(32 : UInt8)].toList ++ fl).length + #[(32 : UInt8)].toList.length ≤ (9223372036854775807 : Nat))) (ifb (inb w globW.length) (ifb (decide ((#[(115 : UInt8),(101 : UInt8),(116 : UInt8),(32 : UInt8)].toList ++ fl ++ #[(32 : UInt8)].toList).length + List.length (globW.getD w.toNat (Qroh.C.dflt Ty.str)) ≤ (9223372036854775807 : Nat))) (ifb (decide ((#[(115 : UInt8),(101 : UInt8),(116 : UInt8),(32 : UInt8)].toList ++ fl ++ #[(32 : UInt8)].toList ++ globW.getD w.toNat (Qroh.C.dflt Ty.str)).length + #[(32 : UInt8)].toList.length ≤ (9223372036854775807 : Nat))) (ifb (inR m (0 : Int) (1000000000 : Int)) (ifb (decide ((#[(115 : UInt8),(101 : UInt8),(116 : UInt8),(32 : UInt8)].toList ++ fl ++ #[(32 : UInt8)].toList ++ globW.getD w.toNat (Qroh.C.dflt Ty.str) ++ #[(32 : UInt8)].toList).length + List.length (decS m) ≤ (9223372036854775807 : Nat))) (ifb (decide ((#[(115 : UInt8),(101 : UInt8),(116 : UInt8),(32 : UInt8)].toList ++ fl ++ #[(32 : UInt8)].toList ++ globW.getD w.toNat (Qroh.C.dflt Ty.str) ++ #[(32 : UInt8)].toList ++ decS m).length + #[(32 : UInt8)].toList.length ≤ (9223372036854775807 : Nat))) (ifb (decide ((#[(115 : UInt8),(101 : UInt8),(116 : UInt8),(32 : UInt8)].toList ++ fl ++ #[(32 : UInt8)].toList ++ globW.getD w.toNat (Qroh.C.dflt Ty.str) ++ #[(32 : UInt8)].toList ++ decS m ++ #[(32 : UInt8)].toList).length + List.length v ≤ (9223372036854775807 : Nat))) (some (.ret (.str (#[(115 : UInt8),(101 : UInt8),(116 : UInt8),(32 : UInt8)].toList ++ fl ++ #[(32 : UInt8)].toList ++ globW.getD w.toNat (Qroh.C.dflt Ty.str) ++ #[(32 : UInt8)].toList ++ decS m ++ #[(32 : UInt8)].toList ++ v)) [])) (none)) (none)) (none)) (none)) (none)) (none)) (none)) (none)) (none))) (none))))):=by kernel_rfl
theorem Qhs9 (fl : Str) (w m : Int) (v : Str) (hg : szV v = true) : Qewq Tryz.prog CP Qfq7 [.agg [.str fl,.int .i64 w,.int .i64 m,.str v]] [] (.str (formF ⟨fl,w,m,v⟩)) []:=by
 refine Qewq.of Qu89 (by kernel_rfl) (Qk49 fl w m v) ?_
 have hv:=of_decide_eq_true (show szV v = true from hg)
 cases h1 : Q2rq fl with
 | false=>rw [Qgf2 (by simp [Qenx,h1])]; exact Sat.ret rfl rfl
 | true =>
 simp only [Bool.not_true,Qk7y]
 cases h2 : inR w 1 5 with
 | false=>rw [Qgf2 (by simp [Qenx,h2])]; exact Sat.ret rfl rfl
 | true =>
 simp only [Bool.not_true,Qk7y]
 cases h3 : inR m 1 1000000 with
 | false=>rw [Qgf2 (by simp [Qenx,h3])]; exact Sat.ret rfl rfl
 | true =>
 simp only [Bool.not_true,Qk7y]
 by_cases h4 : v = []
 ·subst h4
  rw [Qgf2 (by simp [Qenx])]; exact Sat.ret rfl rfl
 have h4' : (v == []) = false:=beq_eq_false_iff_ne.2 h4
 rw [show (v == #[].toList) = false from h4']
 simp only [Qk7y]
 refine Sat.nd hg ?_
 rw [anyNL]
 cases h5 : hasNL v with
 | true=>rw [Qgf2 (by simp [Qenx,h5])]; exact Sat.ret rfl rfl
 | false =>
 simp only [Qk7y]
 have hf : formF ⟨fl,w,m,v⟩ = formB ⟨fl,w,m,v⟩:=if_pos (by simp only [Qenx,h1,h2,h3,h4',h5]; rfl)
 rw [hf]
 unfold formB
 have hfl : fl.length ≤ 8:=by simp only [Q2rq,qaT,qdT] at h1; exact h1.2.1
 have hm:=h3
 have hw:=h2
 simp only [inR,qaT,qdT] at hm hw
 have hd:=Qj32 (n:=m) (by simp only [inR,qaT,qdT]; omega)
 have hwl:=Q9ne w
 have e : globW.getD w.toNat (Qroh.C.dflt .str) = Qkm3.getD w.toNat []:=rfl
 have hin : inb w globW.length = true:=by rw [show globW.length = 6 from rfl]; simp only [inb,qaT,qdT]; omega
 rw [e,hin]
 generalize Qkm3.getD w.toNat [] = wd at hwl ⊢
 generalize decS m = dd at hd ⊢
 have q : ∀ n : Nat,n ≤ 2000000000 → decide (n ≤ 9223372036854775807) = true:=fun n h=>decide_eq_true (by omega)
 refine Sat.nd (q _ (by simp; omega)) (Sat.nd (q _ (by simp; omega)) (Sat.nd rfl (Sat.nd (q _ (by simp; omega)) (Sat.nd (q _ (by simp; omega)) (Sat.nd (by simp only [inR,qaT,qdT]; omega) (Sat.nd (q _ (by simp; omega)) (Sat.nd (q _ (by simp; omega)) (Sat.nd (q _ (by simp; omega)) (Sat.ret ?_ rfl)))))))))
 refine congrArg AV.str ?_
 simp [wSet]
theorem Q80o : EntOK Tryz.prog CP Qfq7 Qvn1:=by
 refine ⟨eob (by kernel_rfl),fun _ _ _ _ h=>?_⟩
 simp only [Qvn1] at h
 split at h
 ·obtain ⟨hg,rfl,rfl⟩:=eoh h
  exact Qhs9 _ _ _ _ hg
 ·cases h

noncomputable def Q0xa : RE Ty El:=⟨Tryz.prog,CP,[(Qnn1,Q4bc),(Qyp5,Qc4s),(Q0xl,Qsiq),(Qg7d,Qz84),(Qstj,Qzn9)],Tryz.f28,0,[],[]⟩
theorem Qq6u : REOK Q0xa Qyqz:=⟨CP_ok,(TabOK.cons Q7n8 (TabOK.cons Qzgd (TabOK.cons Q1w4 (TabOK.cons Qld0 (TabOK.cons Qse0 Qye1))))),by kernel_rfl,by kernel_rfl⟩
theorem Qsfr (fl : Str) (w m : Int) (v : Str) : aRun Q0xa 600 false (body0 Q0xa.fn) (Q4gm Q0xa.fn [.agg [.str fl,.int .i64 w,.int .i64 m,.str v]] []) =
 ifb (!Q2rq fl) (some (.ret (.str #[].toList) [])) (ifb (!inR m (1 : Int) (1000000 : Int)) (some (.ret (.str #[].toList) [])) (ifb (!inR w (1 : Int) (5 : Int)) (some (.ret (.str #[].toList) [])) (ifb (v == #[].toList) (some (.ret (.str #[].toList) [])) (ifb (szV v) (ifb (hasNL v) (some (.ret (.str #[].toList) [])) (ifb (decide (#[(115 : UInt8),(101 : UInt8),(116 : UInt8),(32 : UInt8)].toList.length + List.length fl ≤ (9223372036854775807 : Nat))) (ifb (decide ((#[(115 : UInt8),(101 : UInt8),(116 : UInt8),(32 : UInt8)].toList ++ fl).length + #[(32 : UInt8)].toList.length ≤ (9223372036854775807 : Nat))) (ifb (inb (IntKind.i64.wrap (w - 1)) [wKind,wTime,Qswv,Qxlh,Qbwf].length) (ifb (decide ((#[(115 : UInt8),(101 : UInt8),(116 : UInt8),(32 : UInt8)].toList ++ fl ++ #[(32 : UInt8)].toList).length + List.length ([wKind,wTime,Qswv,Qxlh,Qbwf].getD (IntKind.i64.wrap (w - 1)).toNat (Q0xa.C.dflt Ty.str)) ≤ (9223372036854775807 : Nat))) (ifb (decide ((#[(115 : UInt8),(101 : UInt8),(116 : UInt8),(32 : UInt8)].toList ++ fl ++ #[(32 : UInt8)].toList ++ [wKind,wTime,Qswv,Qxlh,Qbwf].getD (IntKind.i64.wrap (w - 1)).toNat (Q0xa.C.dflt Ty.str)).length + #[(32 : UInt8)].toList.length ≤ (9223372036854775807 : Nat))) (ifb (inR m (0 : Int) (9999999 : Int)) (ifb (decide ((#[(115 : UInt8),(101 : UInt8),(116 : UInt8),(32 : UInt8)].toList ++ fl ++ #[(32 : UInt8)].toList ++ [wKind,wTime,Qswv,Qxlh,Qbwf].getD (IntKind.i64.wrap (w - 1)).toNat (Q0xa.C.dflt Ty.str) ++ #[(32 : UInt8)].toList).length + List.length (decS m) ≤ (9223372036854775807 : Nat))) (ifb (decide ((#[(115 : UInt8),(101 : UInt8),(116 : UInt8),(32 : UInt8)].toList ++ fl ++ #[(32 : UInt8)].toList ++ [wKind,wTime,Qswv,Qxlh,Qbwf].getD (IntKind.i64.wrap (w - 1)).toNat (Q0xa.C.dflt Ty.str) ++ #[(32 : UInt8)].toList ++ decS m).length + #[(32 : UInt8)].toList.length ≤ (9223372036854775807 : Nat))) (ifb (decide ((#[(115 : UInt8),(101 : UInt8),(116 : UInt8),(32 : UInt8)].toList ++ fl ++ #[(32 : UInt8)].toList ++ [wKind,wTime,Qswv,Qxlh,Qbwf].getD (IntKind.i64.wrap (w - 1)).toNat (Q0xa.C.dflt Ty.str) ++ #[(32 : UInt8)].toList ++ decS m ++ #[(32 : UInt8)].toList).length + List.length v ≤ (9223372036854775807 : Nat))) (some (.ret (.str (#[(115 : UInt8),(101 : UInt8),(116 : UInt8),(32 : UInt8)].toList ++ fl ++ #[(32 : UInt8)].toList ++ [wKind,wTime,Qswv,Qxlh,Qbwf].getD (IntKind.i64.wrap (w - 1)).toNat (Q0xa.C.dflt Ty.str) ++ #[(32 : UInt8)].toList ++ decS m ++ #[(32 : UInt8)].toList ++ v)) [])) (none)) (none)) (none)) (none)) (none)) (none)) (none)) (none)) (none))) (none))))):=by kernel_rfl
theorem Qmu9 (fl : Str) (w m : Int) (v : Str) (hg : szV v = true) : Qewq Tryz.prog CP Qyqz [.agg [.str fl,.int .i64 w,.int .i64 m,.str v]] [] (.str (formF ⟨fl,w,m,v⟩)) []:=by
 refine Qewq.of Qq6u (by kernel_rfl) (Qsfr fl w m v) ?_
 have hv:=of_decide_eq_true (show szV v = true from hg)
 cases h1 : Q2rq fl with
 | false=>rw [Qgf2 (by simp [Qenx,h1])]; exact Sat.ret rfl rfl
 | true =>
 simp only [Bool.not_true,Qk7y]
 cases h3 : inR m 1 1000000 with
 | false=>rw [Qgf2 (by simp [Qenx,h3])]; exact Sat.ret rfl rfl
 | true =>
 simp only [Bool.not_true,Qk7y]
 cases h2 : inR w 1 5 with
 | false=>rw [Qgf2 (by simp [Qenx,h2])]; exact Sat.ret rfl rfl
 | true =>
 simp only [Bool.not_true,Qk7y]
 by_cases h4 : v = []
 ·subst h4
  rw [Qgf2 (by simp [Qenx])]; exact Sat.ret rfl rfl
 have h4' : (v == []) = false:=beq_eq_false_iff_ne.2 h4
 rw [show (v == #[].toList) = false from h4']
 simp only [Qk7y]
 refine Sat.nd hg ?_
 cases h5 : hasNL v with
 | true=>rw [Qgf2 (by simp [Qenx,h5])]; exact Sat.ret rfl rfl
 | false =>
 simp only [Qk7y]
 have hf : formF ⟨fl,w,m,v⟩ = formB ⟨fl,w,m,v⟩:=if_pos (by simp only [Qenx,h1,h2,h3,h4',h5]; rfl)
 rw [hf]
 unfold formB
 have hfl : fl.length ≤ 8:=by simp only [Q2rq,qaT,qdT] at h1; exact h1.2.1
 have hm:=h3
 have hw:=h2
 simp only [inR,qaT,qdT] at hm hw
 have hd:=Qj32 (n:=m) (by simp only [inR,qaT,qdT]; omega)
 have hwl:=Q9ne w
 have e0 : IntKind.i64.wrap (w - 1) = w - 1:=by rw [Qbrg] <;> omega
 rw [e0]
 have e : [wKind,wTime,Qswv,Qxlh,Qbwf].getD (w - 1).toNat (Q0xa.C.dflt .str) = Qkm3.getD w.toNat []:=by
  obtain ⟨k,rfl⟩ : ∃ k : Nat,w = (k : Int) + 1:=⟨(w - 1).toNat,by omega⟩
  rw [show ((k : Int) + 1 - 1).toNat = k by omega,show ((k : Int) + 1).toNat = k + 1 by omega]; rfl
 have hin : inb (w - 1) [wKind,wTime,Qswv,Qxlh,Qbwf].length = true:=by simp only [inb,List.length_cons,List.length_nil,qaT,qdT]; omega
 rw [e,hin]
 generalize Qkm3.getD w.toNat [] = wd at hwl ⊢
 generalize decS m = dd at hd ⊢
 have q : ∀ n : Nat,n ≤ 2000000000 → decide (n ≤ 9223372036854775807) = true:=fun n h=>decide_eq_true (by omega)
 refine Sat.nd (q _ (by simp; omega)) (Sat.nd (q _ (by simp; omega)) (Sat.nd rfl (Sat.nd (q _ (by simp; omega)) (Sat.nd (q _ (by simp; omega)) (Sat.nd (by simp only [inR,qaT,qdT]; omega) (Sat.nd (q _ (by simp; omega)) (Sat.nd (q _ (by simp; omega)) (Sat.nd (q _ (by simp; omega)) (Sat.ret ?_ rfl)))))))))
 refine congrArg AV.str ?_
 simp [wSet]
theorem Qawc : EntOK Tryz.prog CP Qyqz Qzlv:=by
 refine ⟨eob (by kernel_rfl),fun _ _ _ _ h=>?_⟩
 simp only [Qzlv,Qvn1] at h
 split at h
 ·obtain ⟨hg,rfl,rfl⟩:=eoh h
  exact Qmu9 _ _ _ _ hg
 ·cases h

noncomputable def Q6ts : RE Ty El:=⟨Tryz.prog,CP,[(Qzc0,Q56p),(Q8l1,Q18u),(Qiq5,Qsxi),(Qbag,Qqy9),(Qfq7,Qvn1)],Tryz.f27,0,[],[]⟩
theorem Qobc : REOK Q6ts Qg3n:=⟨CP_ok,(TabOK.cons Qicf (TabOK.cons Qbi7 (TabOK.cons Q8il (TabOK.cons Q3bw (TabOK.cons Q80o Qye1))))),by kernel_rfl,by kernel_rfl⟩
theorem Qhuv (s : Str) : aRun Q6ts 600 false (body0 Q6ts.fn) (Q4gm Q6ts.fn [.str s] []) =
 ifb (szS s && (!decide ((5 : Int) = (0 : Int)) && decide ((5 : Int) ≤ (1000000000 : Int)))) (ifb ((↑(Lib.splitK [(32 : UInt8)] (0 : Nat) (Q6c2 s (32 : UInt8) (5 : Int)) s).length : Int) != (5 : Int)) (some (.ret (.tup [.agg [.str #[].toList,.int .i64 0,.int .i64 0,.str #[].toList],.bool false]) [])) (ifb (inb (3 : Int) (Lib.splitK [(32 : UInt8)] (0 : Nat) (Q6c2 s (32 : UInt8) (5 : Int)) s).length) (ifb (inb (1 : Int) (Lib.splitK [(32 : UInt8)] (0 : Nat) (Q6c2 s (32 : UInt8) (5 : Int)) s).length) (ifb (szS ((Lib.splitK [(32 : UInt8)] (0 : Nat) (Q6c2 s (32 : UInt8) (5 : Int)) s).getD (Int.toNat (1 : Int)) (Q6ts.C.dflt Ty.str))) (ifb (inb (2 : Int) (Lib.splitK [(32 : UInt8)] (0 : Nat) (Q6c2 s (32 : UInt8) (5 : Int)) s).length) (ifb (inb (4 : Int) (Lib.splitK [(32 : UInt8)] (0 : Nat) (Q6c2 s (32 : UInt8) (5 : Int)) s).length) (ifb (szS ((Lib.splitK [(32 : UInt8)] (0 : Nat) (Q6c2 s (32 : UInt8) (5 : Int)) s).getD (Int.toNat (4 : Int)) (Q6ts.C.dflt Ty.str))) (ifb (!decB ((Lib.splitK [(32 : UInt8)] (0 : Nat) (Q6c2 s (32 : UInt8) (5 : Int)) s).getD (Int.toNat (3 : Int)) (Q6ts.C.dflt Ty.str))) (some (.ret (.tup [.agg [.str #[].toList,.int .i64 0,.int .i64 0,.str #[].toList],.bool false]) [])) (ifb (s == #[].toList) (some (.ret (.tup [.agg [.str #[].toList,.int .i64 0,.int .i64 0,.str #[].toList],.bool false]) [])) (ifb (szV ((Lib.splitK [(32 : UInt8)] (0 : Nat) (Q6c2 s (32 : UInt8) (5 : Int)) s).getD (Int.toNat (4 : Int)) (Q6ts.C.dflt Ty.str))) (ifb (!formF (Chg.mk ((Lib.splitK [(32 : UInt8)] (0 : Nat) (Q6c2 s (32 : UInt8) (5 : Int)) s).getD (Int.toNat (1 : Int)) (Q6ts.C.dflt Ty.str)) (max2A (idxF (fun y=>y == (Lib.splitK [(32 : UInt8)] (0 : Nat) (Q6c2 s (32 : UInt8) (5 : Int)) s).getD (Int.toNat (2 : Int)) (Q6ts.C.dflt Ty.str)) globW) (0 : Int)) (decV ((Lib.splitK [(32 : UInt8)] (0 : Nat) (Q6c2 s (32 : UInt8) (5 : Int)) s).getD (Int.toNat (3 : Int)) (Q6ts.C.dflt Ty.str))) ((Lib.splitK [(32 : UInt8)] (0 : Nat) (Q6c2 s (32 : UInt8) (5 : Int)) s).getD (Int.toNat (4 : Int)) (Q6ts.C.dflt Ty.str))) == s) (some (.ret (.tup [.agg [.str #[].toList,.int .i64 0,.int .i64 0,.str #[].toList],.bool false]) [])) (some (.ret (.tup [.agg [.str ((Lib.splitK [(32 : UInt8)] (0 : Nat) (Q6c2 s (32 : UInt8) (5 : Int)) s).getD (Int.toNat (1 : Int)) (Q6ts.C.dflt Ty.str)),.int .i64 (max2A (idxF (fun y=>y == (Lib.splitK [(32 : UInt8)] (0 : Nat) (Q6c2 s (32 : UInt8) (5 : Int)) s).getD (Int.toNat (2 : Int)) (Q6ts.C.dflt Ty.str)) globW) (0 : Int)),.int .i64 (decV ((Lib.splitK [(32 : UInt8)] (0 : Nat) (Q6c2 s (32 : UInt8) (5 : Int)) s).getD (Int.toNat (3 : Int)) (Q6ts.C.dflt Ty.str))),.str ((Lib.splitK [(32 : UInt8)] (0 : Nat) (Q6c2 s (32 : UInt8) (5 : Int)) s).getD (Int.toNat (4 : Int)) (Q6ts.C.dflt Ty.str))],.bool true]) []))) (none)))) (none)) (none)) (none)) (none)) (none)) (none))) (none):=by kernel_rfl
theorem Q6tf (s : Str) (hg : szS s = true) : Qewq Tryz.prog CP Qg3n [.str s] [] (.tup [chV (readR s),.bool (readF s).isSome]) []:=by
 refine Qewq.of Qobc (by kernel_rfl) (Qhuv s) ?_
 have hs:=of_decide_eq_true (show szS s = true from hg)
 rw [show (szS s && (!decide ((5 : Int) = (0 : Int)) && decide ((5 : Int) ≤ (1000000000 : Int)))) = true by rw [show szS s = true from hg]; rfl]
 simp only [Qd8q]
 rcases Q34y s with ⟨w0,w1,w2,w3,l,hl,hc,hk,hn⟩ | ⟨h1,h2⟩
 ·have hp : ∀ w ∈ [w0,w1,w2,w3],w.length ≤ s.length:=fun w hw=>Qh3y 32 s w (by
   rw [hc]; simp only [List.mem_cons,List.not_mem_nil,or_false] at hw ⊢
   rcases hw with rfl | rfl | rfl | rfl <;> simp)
  have p1:=hp w1 (by simp)
  have hr : ∀ k : Int,k = numF w3 → (Chg.mk w1 (whatF w2) k (s.drop (w0.length + w1.length + w2.length + w3.length + 4))) = readC s (cutS 32 s):=fun k hk=>by
   rw [hk,hc]; rfl
  rw [hk]
  simp only [List.length_cons,List.length_nil,List.getD_cons_zero,List.getD_cons_succ,Int.toNat_zero,show Int.toNat 1 = 1 from rfl,show Int.toNat 2 = 2 from rfl,show Int.toNat 3 = 3 from rfl,show Int.toNat 4 = 4 from rfl]
  have hd : (s.drop (w0.length + w1.length + w2.length + w3.length + 4)).length ≤ 1000000000:=by rw [List.length_drop]; omega
  generalize hv : s.drop (w0.length + w1.length + w2.length + w3.length + 4) = v at hd hr ⊢
  simp only [show inb (1 : Int) (0+1+1+1+1+1) = true from rfl,show inb (2 : Int) (0+1+1+1+1+1) = true from rfl,show inb (3 : Int) (0+1+1+1+1+1) = true from rfl,show inb (4 : Int) (0+1+1+1+1+1) = true from rfl,show (((0+1+1+1+1+1 : Nat) : Int) != 5) = false from rfl,Bool.not_true,Qd8q,Qk7y]
  refine Sat.nd (decide_eq_true (by omega)) (Sat.nd (decide_eq_true hd) ?_)
  cases hb : decB w3 with
  | false =>
   rw [readR,Q8g8 hc hb]
   exact Sat.ret rfl rfl
  | true =>
   have hnil : (s == []) = false:=by
    rw [beq_eq_false_iff_ne]; intro e; subst e; simp at hn
   rw [show (s == #[].toList) = false from hnil,Q7ri hb,show max2A (idxF (fun y=>y == w2) globW) (0 : Int) = whatF w2 from Qfem w2]
   simp only [Bool.not_true,Qk7y]
   refine Sat.nd (decide_eq_true hd) ?_
   rw [hr _ rfl]
   have h5 : 5 ≤ (cutS 32 s).length:=by
    rw [hc]; have:=List.length_pos_iff.2 hl; simp only [List.length_cons]; omega
   cases hf : (formF (readC s (cutS 32 s)) == s) with
   | true =>
    have e : readF s = some (readC s (cutS 32 s)):=if_pos ⟨h5,eq_of_beq hf⟩
    rw [readR,e]
    simp only [Bool.not_true,Qk7y]
    refine Sat.ret ?_ rfl
    rw [Option.getD_some,← hr _ rfl]; rfl
   | false =>
    have e : readF s = none:=if_neg (fun h=>by rw [h.2] at hf; simp at hf)
    rw [readR,e]
    exact Sat.ret rfl rfl
 ·have hne : (((Lib.splitK [(32 : UInt8)] (0 : Nat) (Q6c2 s (32 : UInt8) (5 : Int)) s).length : Int) != (5 : Int)) = true:=by
   simp only [bne_iff_ne,ne_eq]; omega
  rw [hne,readR,Qtk8 h1]
  exact Sat.ret rfl rfl
theorem Qrmu : EntOK Tryz.prog CP Qg3n Qdux:=by
 refine ⟨eob (by kernel_rfl),fun _ _ _ _ h=>?_⟩
 simp only [Qdux] at h
 split at h
 ·obtain ⟨hg,rfl,rfl⟩:=eoh h
  exact Q6tf _ hg
 ·cases h

noncomputable def Qxdv : RE Ty El:=⟨Tryz.prog,CP,[(Q001,Qi2p),(Qqw4,Qmli),(Qg7d,Qz84),(Qyqz,Qzlv)],Tryz.f30,0,[],[(6,[(0,.any),(2,.any),(4,.any),(5,.any),(6,.any)])]⟩
theorem Q57s : REOK Qxdv Qs3r:=⟨CP_ok,(TabOK.cons Ql4s (TabOK.cons Qlxw (TabOK.cons Qld0 (TabOK.cons Qawc Qye1)))),by kernel_rfl,by kernel_rfl⟩
theorem Q7ne (s : Str) : aRun Qxdv 600 false (body0 Qxdv.fn) (Q4gm Qxdv.fn [.str s] []) =
 ifb (decide (List.length s ≤ (1000000000 : Nat))) (ifb (decide ((↑(cutS (32 : Int) s).length : Int) < (5 : Int))) (some (.ret (.tup [.agg [.str #[].toList,.int .i64 0,.int .i64 0,.str #[].toList],.bool false]) [])) (ifb (inb (1 : Int) (cutS (32 : Int) s).length) (ifb (inb (3 : Int) (cutS (32 : Int) s).length) (some (.go (Qu6t Qxdv.fn 6) [.str s,.ptr 0 0,.sl .str (cutS (32 : Int) s),.ptr 1 0,.int .i64 0] [.box [.str #[].toList,.int .i64 0,.int .i64 0,.str #[].toList],.box [.str ((cutS (32 : Int) s).getD (Int.toNat (1 : Int)) (Qxdv.C.dflt Ty.str)),.int .i64 0,.int .i64 (numF ((cutS (32 : Int) s).getD (Int.toNat (3 : Int)) (Qxdv.C.dflt Ty.str))),.str #[].toList]])) (none)) (none))) (none):=by kernel_rfl
theorem Qza2 (x0 : Str) (x1 : List (El .str)) (x2 : Int) (x3 : Str) (x4 : Int) (x5 : Int) (x6 : Str) (x7 : Str) (x8 : Int) (x9 : Int) (x10 : Str) : aRun Qxdv 600 true (Qu6t Qxdv.fn 6) (cutSt Qxdv.fn (Q1m4 Qxdv (Qu6t Qxdv.fn 6)) [.str x0,.ptr 0 0,.sl .str x1,.ptr 1 0,.int .i64 x2] [.box [.str x3,.int .i64 x4,.int .i64 x5,.str x6],.box [.str x7,.int .i64 x8,.int .i64 x9,.str x10]]) =
 ifb (decide (x2 < (↑[wKind,wTime,Qswv,Qxlh,Qbwf].length : Int))) (ifb (inb x2 [wKind,wTime,Qswv,Qxlh,Qbwf].length) (ifb (inb (2 : Int) x1.length) (ifb ([wKind,wTime,Qswv,Qxlh,Qbwf].getD x2.toNat (Qxdv.C.dflt Ty.str) == x1.getD (Int.toNat (2 : Int)) (Qxdv.C.dflt Ty.str)) (some (.go (Qu6t Qxdv.fn 6) [.str x0,.ptr 0 0,.sl .str x1,.ptr 1 0,.int .i64 (IntKind.i64.wrap (x2 + 1))] [.box [.str x3,.int .i64 x4,.int .i64 x5,.str x6],.box [.str x7,.int .i64 (IntKind.i64.wrap (x2 + 1)),.int .i64 x9,.str x10]])) (some (.go (Qu6t Qxdv.fn 6) [.str x0,.ptr 0 0,.sl .str x1,.ptr 1 0,.int .i64 (IntKind.i64.wrap (x2 + 1))] [.box [.str x3,.int .i64 x4,.int .i64 x5,.str x6],.box [.str x7,.int .i64 x8,.int .i64 x9,.str x10]]))) (none)) (none)) (ifb (inb (0 : Int) x1.length) (ifb (inb (1 : Int) x1.length) (ifb (inb (2 : Int) x1.length) (ifb (inb (3 : Int) x1.length) (ifb (decide (0 ≤ IntKind.i64.wrap (IntKind.i64.wrap (IntKind.i64.wrap (IntKind.i64.wrap ((↑(List.length (x1.getD (Int.toNat (0 : Int)) (Qxdv.C.dflt Ty.str))) : Int) + (↑(List.length (x1.getD (Int.toNat (1 : Int)) (Qxdv.C.dflt Ty.str))) : Int)) + (↑(List.length (x1.getD (Int.toNat (2 : Int)) (Qxdv.C.dflt Ty.str))) : Int)) + (↑(List.length (x1.getD (Int.toNat (3 : Int)) (Qxdv.C.dflt Ty.str))) : Int)) + 4)) && (decide (IntKind.i64.wrap (IntKind.i64.wrap (IntKind.i64.wrap (IntKind.i64.wrap ((↑(List.length (x1.getD (Int.toNat (0 : Int)) (Qxdv.C.dflt Ty.str))) : Int) + (↑(List.length (x1.getD (Int.toNat (1 : Int)) (Qxdv.C.dflt Ty.str))) : Int)) + (↑(List.length (x1.getD (Int.toNat (2 : Int)) (Qxdv.C.dflt Ty.str))) : Int)) + (↑(List.length (x1.getD (Int.toNat (3 : Int)) (Qxdv.C.dflt Ty.str))) : Int)) + 4) ≤ (↑(List.length x0) : Int)) && decide ((↑(List.length x0) : Int) ≤ (↑(List.length x0) : Int)))) (ifb (szV (List.take ((↑(List.length x0) : Int).toNat - (IntKind.i64.wrap (IntKind.i64.wrap (IntKind.i64.wrap (IntKind.i64.wrap ((↑(List.length (x1.getD (Int.toNat (0 : Int)) (Qxdv.C.dflt Ty.str))) : Int) + (↑(List.length (x1.getD (Int.toNat (1 : Int)) (Qxdv.C.dflt Ty.str))) : Int)) + (↑(List.length (x1.getD (Int.toNat (2 : Int)) (Qxdv.C.dflt Ty.str))) : Int)) + (↑(List.length (x1.getD (Int.toNat (3 : Int)) (Qxdv.C.dflt Ty.str))) : Int)) + 4)).toNat) (List.drop (IntKind.i64.wrap (IntKind.i64.wrap (IntKind.i64.wrap (IntKind.i64.wrap ((↑(List.length (x1.getD (Int.toNat (0 : Int)) (Qxdv.C.dflt Ty.str))) : Int) + (↑(List.length (x1.getD (Int.toNat (1 : Int)) (Qxdv.C.dflt Ty.str))) : Int)) + (↑(List.length (x1.getD (Int.toNat (2 : Int)) (Qxdv.C.dflt Ty.str))) : Int)) + (↑(List.length (x1.getD (Int.toNat (3 : Int)) (Qxdv.C.dflt Ty.str))) : Int)) + 4)).toNat x0))) (ifb (!formF (Chg.mk x7 x8 x9 (List.take ((↑(List.length x0) : Int).toNat - (IntKind.i64.wrap (IntKind.i64.wrap (IntKind.i64.wrap (IntKind.i64.wrap ((↑(List.length (x1.getD (Int.toNat (0 : Int)) (Qxdv.C.dflt Ty.str))) : Int) + (↑(List.length (x1.getD (Int.toNat (1 : Int)) (Qxdv.C.dflt Ty.str))) : Int)) + (↑(List.length (x1.getD (Int.toNat (2 : Int)) (Qxdv.C.dflt Ty.str))) : Int)) + (↑(List.length (x1.getD (Int.toNat (3 : Int)) (Qxdv.C.dflt Ty.str))) : Int)) + 4)).toNat) (List.drop (IntKind.i64.wrap (IntKind.i64.wrap (IntKind.i64.wrap (IntKind.i64.wrap ((↑(List.length (x1.getD (Int.toNat (0 : Int)) (Qxdv.C.dflt Ty.str))) : Int) + (↑(List.length (x1.getD (Int.toNat (1 : Int)) (Qxdv.C.dflt Ty.str))) : Int)) + (↑(List.length (x1.getD (Int.toNat (2 : Int)) (Qxdv.C.dflt Ty.str))) : Int)) + (↑(List.length (x1.getD (Int.toNat (3 : Int)) (Qxdv.C.dflt Ty.str))) : Int)) + 4)).toNat x0))) == x0) (some (.ret (.tup [.agg [.str #[].toList,.int .i64 0,.int .i64 0,.str #[].toList],.bool false]) [])) (some (.ret (.tup [.agg [.str x7,.int .i64 x8,.int .i64 x9,.str (List.take ((↑(List.length x0) : Int).toNat - (IntKind.i64.wrap (IntKind.i64.wrap (IntKind.i64.wrap (IntKind.i64.wrap ((↑(List.length (x1.getD (Int.toNat (0 : Int)) (Qxdv.C.dflt Ty.str))) : Int) + (↑(List.length (x1.getD (Int.toNat (1 : Int)) (Qxdv.C.dflt Ty.str))) : Int)) + (↑(List.length (x1.getD (Int.toNat (2 : Int)) (Qxdv.C.dflt Ty.str))) : Int)) + (↑(List.length (x1.getD (Int.toNat (3 : Int)) (Qxdv.C.dflt Ty.str))) : Int)) + 4)).toNat) (List.drop (IntKind.i64.wrap (IntKind.i64.wrap (IntKind.i64.wrap (IntKind.i64.wrap ((↑(List.length (x1.getD (Int.toNat (0 : Int)) (Qxdv.C.dflt Ty.str))) : Int) + (↑(List.length (x1.getD (Int.toNat (1 : Int)) (Qxdv.C.dflt Ty.str))) : Int)) + (↑(List.length (x1.getD (Int.toNat (2 : Int)) (Qxdv.C.dflt Ty.str))) : Int)) + (↑(List.length (x1.getD (Int.toNat (3 : Int)) (Qxdv.C.dflt Ty.str))) : Int)) + 4)).toNat x0))],.bool true]) []))) (none)) (none)) (none)) (none)) (none)) (none)):=by kernel_rfl
theorem Qsqn (s w0 w1 w2 w3 : Str) (l : List Str) (hs : s.length ≤ 1000000000) (hl : l ≠ []) (hc : cutS 32 s = w0 :: w1 :: w2 :: w3 :: l) (hn : w0.length + w1.length + w2.length + w3.length + 4 ≤ s.length) : ∀ (d i : Nat),i + d = 5 →
  Cut Qxdv Qs3r 6 [.str s,.ptr 0 0,.sl .str (w0 :: w1 :: w2 :: w3 :: l),.ptr 1 0,.int .i64 (i : Int)] [.box [.str [],.int .i64 (0 : Int),.int .i64 (0 : Int),.str []],.box [.str w1,.int .i64 (whatG w2 i),.int .i64 (numF w3),.str []]] (.tup [chV (readR s),.bool (readF s).isSome]) []:=by
 intro d
 induction d with
 | zero =>
  intro i hi
  obtain rfl : i = 5:=by omega
  refine Cut.of Q57s rfl (Qza2 s _ _ [] 0 0 [] w1 _ (numF w3) []) ?_
  have e0 : ∀ (a b : Nat),a + b ≤ 2000000000 → IntKind.i64.wrap ((a : Int) + (b : Int)) = ((a + b : Nat) : Int):=fun a b h=>by rw [Qbrg] <;> omega
  rw [show decide (((5 : Nat) : Int) < (([wKind,wTime,Qswv,Qxlh,Qbwf].length : Nat) : Int)) = false from rfl]
  simp only [Qk7y]
  refine Sat.nd (by simp [inb]; omega) (Sat.nd (by simp [inb]; omega) (Sat.nd (by simp [inb]; omega) (Sat.nd (by simp [inb]; omega) ?_)))
  simp only [List.getD_cons_zero,List.getD_cons_succ,Int.toNat_zero,show Int.toNat 1 = 1 from rfl,show Int.toNat 2 = 2 from rfl,show Int.toNat 3 = 3 from rfl]
  rw [e0 _ _ (by omega),e0 _ _ (by omega),e0 _ _ (by omega),show ((4 : Int)) = ((4 : Nat) : Int) from rfl,e0 _ _ (by omega),Qu0p]
  have hr : (Chg.mk w1 (whatF w2) (numF w3) (s.drop (w0.length + w1.length + w2.length + w3.length + 4))) = readC s (cutS 32 s):=by rw [hc]; rfl
  have ht : List.take (((s.length : Nat) : Int).toNat - ((w0.length + w1.length + w2.length + w3.length + 4 : Nat) : Int).toNat) (List.drop ((w0.length + w1.length + w2.length + w3.length + 4 : Nat) : Int).toNat s) = s.drop (w0.length + w1.length + w2.length + w3.length + 4):=by
   rw [Int.toNat_natCast,Int.toNat_natCast]
   exact List.take_of_length_le (by rw [List.length_drop]; omega)
  rw [ht]
  have hd : (s.drop (w0.length + w1.length + w2.length + w3.length + 4)).length ≤ 1000000000:=by rw [List.length_drop]; omega
  refine Sat.nd (by simp only [qaT,qdT]; omega) (Sat.nd (decide_eq_true hd) ?_)
  rw [hr]
  have h5 : 5 ≤ (cutS 32 s).length:=by
   rw [hc]; have:=List.length_pos_iff.2 hl; simp only [List.length_cons]; omega
  cases hf : (formF (readC s (cutS 32 s)) == s) with
  | true =>
   have e : readF s = some (readC s (cutS 32 s)):=if_pos ⟨h5,eq_of_beq hf⟩
   rw [readR,e]
   simp only [Bool.not_true,Qk7y]
   refine Sat.ret ?_ rfl
   rw [Option.getD_some,← hr]; rfl
  | false =>
   have e : readF s = none:=if_neg (fun h=>by rw [h.2] at hf; simp at hf)
   rw [readR,e]
   exact Sat.ret rfl rfl
 | succ d ih =>
  intro i hi
  refine Cut.of Q57s rfl (Qza2 s _ i [] 0 0 [] w1 _ (numF w3) []) ?_
  have hw : IntKind.wrap .i64 ((i : Int) + 1) = ((i + 1 : Nat) : Int):=by rw [Qbrg] <;> omega
  have nx:=ih (i + 1) (by omega)
  have ex : [wKind,wTime,Qswv,Qxlh,Qbwf].getD (i : Int).toNat (Qxdv.C.dflt .str) = Q2ck.getD i []:=rfl
  have e2 : (w0 :: w1 :: w2 :: w3 :: l).getD (Int.toNat 2) (Qxdv.C.dflt .str) = w2:=rfl
  rw [show decide ((i : Int) < (([wKind,wTime,Qswv,Qxlh,Qbwf].length : Nat) : Int)) = true from decide_eq_true (by simp only [List.length_cons,List.length_nil]; omega)]
  simp only [Qd8q]
  refine Sat.nd (by simp only [inb,List.length_cons,List.length_nil,qaT,qdT]; omega) (Sat.nd (by simp [inb]; omega) ?_)
  rw [ex,e2,hw]
  cases hq : (Q2ck.getD i [] == w2) with
  | true =>
   have eg : whatG w2 (i + 1) = ((i + 1 : Nat) : Int):=by rw [whatG,if_pos hq]
   rw [eg] at nx
   exact Sat.cut nx
  | false =>
   have eg : whatG w2 (i + 1) = whatG w2 i:=by rw [whatG,if_neg (by rw [hq]; simp)]
   rw [eg] at nx
   exact Sat.cut nx
theorem Qugs (s : Str) (hg : szS s = true) : Qewq Tryz.prog CP Qs3r [.str s] [] (.tup [chV (readR s),.bool (readF s).isSome]) []:=by
 refine Qewq.of Q57s (by kernel_rfl) (Q7ne s) ?_
 have hs:=of_decide_eq_true (show szS s = true from hg)
 rw [decide_eq_true hs]
 simp only [Qd8q]
 rcases Q34y s with ⟨w0,w1,w2,w3,l,hl,hc,hk,hn⟩ | ⟨h1,h2⟩
 ·rw [hc,decide_eq_false (show ¬ (((w0 :: w1 :: w2 :: w3 :: l).length : Nat) : Int) < 5 by have:=List.length_pos_iff.2 hl; simp only [List.length_cons]; omega)]
  simp only [Qk7y]
  refine Sat.nd (by simp [inb]; omega) (Sat.nd (by simp [inb]; omega) ?_)
  exact Sat.cut (Qsqn s w0 w1 w2 w3 l hs hl hc hn 5 0 rfl)
 ·rw [decide_eq_true (show (((cutS 32 s).length : Nat) : Int) < 5 by omega),readR,Qtk8 h1]
  exact Sat.ret rfl rfl
theorem Qkik : EntOK Tryz.prog CP Qs3r Q01i:=by
 refine ⟨eob (by kernel_rfl),fun _ _ _ _ h=>?_⟩
 simp only [Q01i,Qdux] at h
 split at h
 ·obtain ⟨hg,rfl,rfl⟩:=eoh h
  exact Qugs _ hg
 ·cases h
end Lx
namespace Lx
open Go Go.Proofs
def Qc8z (p : Int) (x : ChgP) : Prop:=x.c.value.length ≤ 1000 ∧ p ≤ x.p ∧ x.p ≤ p + 30
noncomputable def dChgS (bs : List Int) (p : Int) (ks : List Kind) (ps : List Point) : ChgP:=drawn (fun x=>Qewq Tryz.prog CP Qhy2 [.ptr 0 0,.agg [.sl .kind ks,.sl .point ps]] [.box [.sl .u8 bs,.int .i64 p]] (.agg [.str x.c.flight,.int .i64 x.c.what,.int .i64 x.c.number,.str x.c.value]) [.box [.sl .u8 bs,.int .i64 x.p]] ∧ Qc8z p x)
noncomputable def Qs50 : Ent Ty El:=⟨[.io,.ro],0,fun a h=>match a,h with
 | [.ptr 0 0,.agg [.sl .kind ks,.sl .point ps]],[.box [.sl .u8 bs,.int .i64 p]]=>some (chgK bs p ks ps,.agg [.str (dChgS bs p ks ps).c.flight,.int .i64 (dChgS bs p ks ps).c.what,.int .i64 (dChgS bs p ks ps).c.number,.str (dChgS bs p ks ps).c.value],[.box [.sl .u8 bs,.int .i64 (dChgS bs p ks ps).p]])
 | _,_=>none⟩
noncomputable def dSpCS (bs : List Int) (p : Int) (c : Chg) : ChgP:=drawn (fun x=>Qewq Tryz.prog CP Qpj2 [.ptr 0 0,.agg [.str c.flight,.int .i64 c.what,.int .i64 c.number,.str c.value]] [.box [.sl .u8 bs,.int .i64 p]] (.agg [.str x.c.flight,.int .i64 x.c.what,.int .i64 x.c.number,.str x.c.value]) [.box [.sl .u8 bs,.int .i64 x.p]] ∧ Qc8z p x)
def spcKS (bs : List Int) (p : Int) (v : Str) : Bool:=Qf9o bs && (decide (0 ≤ p) && (decide (p ≤ 890000) && decide (v.length ≤ 1000)))
noncomputable def Qfk2 : Ent Ty El:=⟨[.io,.ro],0,fun a h=>match a,h with
 | [.ptr 0 0,.agg [.str fl,.int .i64 w,.int .i64 n,.str v]],[.box [.sl .u8 bs,.int .i64 p]]=>some (spcKS bs p v,.agg [.str (dSpCS bs p ⟨fl,w,n,v⟩).c.flight,.int .i64 (dSpCS bs p ⟨fl,w,n,v⟩).c.what,.int .i64 (dSpCS bs p ⟨fl,w,n,v⟩).c.number,.str (dSpCS bs p ⟨fl,w,n,v⟩).c.value],[.box [.sl .u8 bs,.int .i64 (dSpCS bs p ⟨fl,w,n,v⟩).p]])
 | _,_=>none⟩
theorem Qsto {bs : List Int} {p q w n : Int} {f v : Str} (h1 : v.length ≤ 1000) (h2 : p ≤ q) (h3 : q ≤ p + 30) : ∃ x : ChgP,(AV.agg [.str f,.int .i64 w,.int .i64 n,.str v] : AV Ty El) = .agg [.str x.c.flight,.int .i64 x.c.what,.int .i64 x.c.number,.str x.c.value] ∧ ([.box [.sl .u8 bs,.int .i64 q]] : List (AObj Ty El)) = [.box [.sl .u8 bs,.int .i64 x.p]] ∧ Qc8z p x:=⟨⟨⟨f,w,n,v⟩,q⟩,rfl,rfl,h1,h2,h3⟩
theorem Q95l (bs : List Int) (p : Int) (ks : List Kind) (ps : List Point) (hg : chgK bs p ks ps = true) : Qewq Tryz.prog CP Qhy2 [.ptr 0 0,.agg [.sl .kind ks,.sl .point ps]] [.box [.sl .u8 bs,.int .i64 p]] (.agg [.str (dChgS bs p ks ps).c.flight,.int .i64 (dChgS bs p ks ps).c.what,.int .i64 (dChgS bs p ks ps).c.number,.str (dChgS bs p ks ps).c.value]) [.box [.sl .u8 bs,.int .i64 (dChgS bs p ks ps).p]] ∧ Qc8z p (dChgS bs p ks ps):=by
 simp only [chgK,qaT,qdT] at hg
 obtain ⟨hbs,h0,h9,h16,hn,h1⟩:=hg
 have ps0 : ∀ (q : Int),p ≤ q → q ≤ p + 10 → posOk q = true:=fun q h2 h3=>Q8s4 (by omega) (by omega)
 have rd : ∀ (q : Int) (l : List Str),p ≤ q → q ≤ p + 10 → 0 < l.length → (rdOk bs q && decide (0 < l.length)) = true:=fun q l h2 h3 hl=>by rw [rdOk,hbs,ps0 q h2 h3,decide_eq_true hl]; rfl
 have vl : ∀ (q w : Int),p ≤ q → q ≤ p + 10 → valK bs q ks ps = true ∧ (dVal bs q ks ps w).s.length ≤ 1000 ∧ p ≤ (dVal bs q ks ps w).p ∧ (dVal bs q ks ps w).p ≤ p + 30:=fun q w h2 h3=>by
  have hv : valK bs q ks ps = true:=by simp only [valK,rdK,qaT,qdT]; exact ⟨⟨hbs,by omega,by omega⟩,h16,hn,h1⟩
  obtain ⟨a1,a2,a3⟩:=(Qpyo bs q ks ps w hv).2
  exact ⟨hv,by omega,by omega,by omega⟩
 have hE : CallE Qgih.P Qgih.C Qhy2 [.ptr 0 0,.agg [.sl .kind ks,.sl .point ps]] [.box [.sl .u8 bs,.int .i64 p]] (fun v h=>∃ x : ChgP,v = .agg [.str x.c.flight,.int .i64 x.c.what,.int .i64 x.c.number,.str x.c.value] ∧ h = [.box [.sl .u8 bs,.int .i64 x.p]] ∧ Qc8z p x):=by
  refine CallE.of Qe50 (by kernel_rfl) (Qhjm bs p ks ps) ?_
  have hc : ∀ (q w : Int),p ≤ q → q ≤ p + 5 → CutE Qgih Qhy2 4 [.ptr 0 0,.ptr 1 0,.ptr 2 0,.int .i64 w] [.box [.sl .u8 bs,.int .i64 q],.box [.sl .kind ks,.sl .point ps],.box [.str [],.int .i64 0,.int .i64 0,.str []]] (fun v h=>∃ x : ChgP,v = .agg [.str x.c.flight,.int .i64 x.c.what,.int .i64 x.c.number,.str x.c.value] ∧ h = [.box [.sl .u8 bs,.int .i64 x.p]] ∧ Qc8z p x):=fun q w h2 h3=>by
   refine CutE.of Qe50 rfl (Qczd w bs q ks ps [] 0 0 []) ?_
   obtain ⟨v1,v2,v3,v4⟩:=vl (q + 1 + 1) w (by omega) (by omega)
   exact SatE.need (rd _ _ (by omega) (by omega) (Nat.zero_lt_succ _)) (SatE.need (ps0 _ (by omega) (by omega)) (SatE.need v1 (SatE.ret (Qsto v2 v3 v4))))
  refine SatE.need (ps0 _ (by omega) (by omega)) (SatE.ifb (fun _=>SatE.need (ps0 _ (by omega) (by omega)) (SatE.ifb (fun _=>?_) (fun _=>?_))) (fun _=>?_))
  ·exact SatE.cut (hc _ _ (by omega) (by omega))
  ·exact SatE.cut (hc _ _ (by omega) (by omega))
  ·exact SatE.cut (hc _ _ (by omega) (by omega))
 obtain ⟨v,H',h,x,rfl,rfl,hx⟩:=hE
 unfold dChgS
 exact Qk78 (p:=fun x : ChgP=>Qewq Tryz.prog CP Qhy2 [.ptr 0 0,.agg [.sl .kind ks,.sl .point ps]] [.box [.sl .u8 bs,.int .i64 p]] (.agg [.str x.c.flight,.int .i64 x.c.what,.int .i64 x.c.number,.str x.c.value]) [.box [.sl .u8 bs,.int .i64 x.p]] ∧ Qc8z p x) ⟨x,h,hx⟩
theorem Q2b4 (bs : List Int) (p : Int) (fl : Str) (w n : Int) (v : Str) (hg : spcKS bs p v = true) : Qewq Tryz.prog CP Qpj2 [.ptr 0 0,.agg [.str fl,.int .i64 w,.int .i64 n,.str v]] [.box [.sl .u8 bs,.int .i64 p]] (.agg [.str (dSpCS bs p ⟨fl,w,n,v⟩).c.flight,.int .i64 (dSpCS bs p ⟨fl,w,n,v⟩).c.what,.int .i64 (dSpCS bs p ⟨fl,w,n,v⟩).c.number,.str (dSpCS bs p ⟨fl,w,n,v⟩).c.value]) [.box [.sl .u8 bs,.int .i64 (dSpCS bs p ⟨fl,w,n,v⟩).p]] ∧ Qc8z p (dSpCS bs p ⟨fl,w,n,v⟩):=by
 simp only [spcKS,qaT,qdT] at hg
 obtain ⟨hbs,h0,h9,hv⟩:=hg
 have ps0 : ∀ (q : Int),p ≤ q → q ≤ p + 10 → posOk q = true:=fun q h2 h3=>Q8s4 (by omega) (by omega)
 have pk : ∀ (q n : Int),p ≤ q → q ≤ p + 10 → 1 ≤ n → 0 ≤ pickV bs q n ∧ pickV bs q n < n:=fun q n h2 h3 h4=>Q5va hbs (ps0 q h2 h3) h4
 have rd0 : ∀ (q : Int),p ≤ q → q ≤ p + 10 → rdOk bs q = true:=fun q h2 h3=>by rw [rdOk,hbs,ps0 q h2 h3]; rfl
 have hE : CallE Q6fp.P Q6fp.C Qpj2 [.ptr 0 0,.agg [.str fl,.int .i64 w,.int .i64 n,.str v]] [.box [.sl .u8 bs,.int .i64 p]] (fun v h=>∃ x : ChgP,v = (.agg [.str x.c.flight,.int .i64 x.c.what,.int .i64 x.c.number,.str x.c.value]) ∧ h = [.box [.sl .u8 bs,.int .i64 x.p]] ∧ Qc8z p x):=by
  refine CallE.of Qi6u (by kernel_rfl) (Q2cc bs p fl w n v) ?_
  refine SatE.need (ps0 _ (by omega) (by omega)) (SatE.ifb (fun _=>?_) (fun _=>SatE.ifb (fun _=>?_) (fun _=>SatE.ifb (fun _=>?_) (fun _=>?_))))
  ·obtain ⟨a1,a2⟩:=pk (p + 1) 2 (by omega) (by omega) (by omega)
   have hw : IntKind.i64.wrap (8 + pickV bs (p + 1) 2) = 8 + pickV bs (p + 1) 2:=Qbrg (by omega) (by omega)
   rw [hw]
   exact SatE.need (ps0 _ (by omega) (by omega)) (SatE.need (by rw [qaT]; exact ⟨decide_eq_true (by simp),decide_eq_true (by omega)⟩) (SatE.need (by rw [rd0 _ (by omega) (by omega)]; rfl) (SatE.ret (Qsto hv (by omega) (by omega)))))
  ·exact SatE.need (ps0 _ (by omega) (by omega)) (SatE.ret (Qsto hv (by omega) (by omega)))
  ·have hi : inb (pickV bs (p + 1) 4) [(0 : Int),(-1 : Int),(1000000 : Int),(1000001 : Int)].length = true:=inbL (pk (p + 1) 4 (by omega) (by omega) (by omega))
   exact SatE.need (ps0 _ (by omega) (by omega)) (SatE.need hi (SatE.ret (Qsto hv (by omega) (by omega))))
  ·exact SatE.need (rd0 _ (by omega) (by omega)) (SatE.ret (Qsto (Nat.le_trans (Qgo3 (M:=100) (by rfl)) (by omega)) (by omega) (by omega)))
 obtain ⟨v',H',h,x,rfl,rfl,hx⟩:=hE
 unfold dSpCS
 exact Qk78 (p:=fun x : ChgP=>Qewq Tryz.prog CP Qpj2 [.ptr 0 0,.agg [.str fl,.int .i64 w,.int .i64 n,.str v]] [.box [.sl .u8 bs,.int .i64 p]] (.agg [.str x.c.flight,.int .i64 x.c.what,.int .i64 x.c.number,.str x.c.value]) [.box [.sl .u8 bs,.int .i64 x.p]] ∧ Qc8z p x) ⟨x,h,hx⟩
theorem Qj73 : EntOK Tryz.prog CP Qhy2 Qs50:=by
 refine ⟨eob (by kernel_rfl),fun _ _ _ _ h=>?_⟩
 simp only [Qs50] at h
 split at h
 ·obtain ⟨hg,rfl,rfl⟩:=eoh h
  exact (Q95l _ _ _ _ hg).1
 ·cases h
theorem Q9f6 : EntOK Tryz.prog CP Qpj2 Qfk2:=by
 refine ⟨eob (by kernel_rfl),fun _ _ _ _ h=>?_⟩
 simp only [Qfk2] at h
 split at h
 ·obtain ⟨hg,rfl,rfl⟩:=eoh h
  exact (Q2b4 _ _ _ _ _ _ hg).1
 ·cases h
theorem Qtuu {s : Str} (h : s.length ≤ 1000000) : szS s = true:=decide_eq_true (by omega)
theorem Q3ih {c : Chg} : (formF c).length ≤ c.value.length + 100:=by
 unfold formF
 split
 ·rename_i h
  simp only [Qenx,Q2rq,inR,qaT,qdT] at h
  obtain ⟨⟨_,h1,_⟩,h2,h3,_⟩:=h
  have hd:=Qj32 (n:=c.number) (by simp only [inR,qaT,qdT]; omega)
  have hw:=Q9ne c.what
  simp only [formB,wSet,List.length_append,List.length_cons,List.length_nil]
  omega
 ·simp
structure BendP where
 s : Str
 p : Int
 deriving Inhabited
def Qp3x (p : Int) (x : BendP) : Prop:=szS x.s = true ∧ p ≤ x.p ∧ x.p ≤ p + 3
noncomputable def dBend (bs : List Int) (p : Int) (s : Str) : BendP:=drawn (fun x=>Qewq Tryz.prog CP Qrls [.ptr 0 0,.str s] [.box [.sl .u8 bs,.int .i64 p]] (.str x.s) [.box [.sl .u8 bs,.int .i64 x.p]] ∧ Qp3x p x)
def bendK (bs : List Int) (p : Int) (s : Str) : Bool:=Qf9o bs && (decide (0 ≤ p) && (decide (p ≤ 890000) && decide (s.length ≤ 2000)))
noncomputable def Q51w : Ent Ty El:=⟨[.io,.ro],0,fun a h=>match a,h with
 | [.ptr 0 0,.str s],[.box [.sl .u8 bs,.int .i64 p]]=>some (bendK bs p s,.str (dBend bs p s).s,[.box [.sl .u8 bs,.int .i64 (dBend bs p s).p]])
 | _,_=>none⟩
structure CokD where
 ks : List Kind
 ps : List Point
 c : Chg
 deriving Inhabited
def Qaw5 (x : CokD) : Prop:=Qib4 x.ks x.ps = true ∧ x.c.value.length ≤ 1000
noncomputable def dCok (c : List Int) : CokD:=drawn (fun x=>Qewq Tryz.prog CP Qs18 [.sl .u8 c] [] (.tup [.agg [.sl .kind x.ks,.sl .point x.ps],.agg [.str x.c.flight,.int .i64 x.c.what,.int .i64 x.c.number,.str x.c.value]]) [] ∧ Qaw5 x)
noncomputable def Qamt : Ent Ty El:=⟨[.ro],0,fun a h=>match a,h with
 | [.sl .u8 c],[]=>some (Qf9o c,.tup [.agg [.sl .kind (dCok c).ks,.sl .point (dCok c).ps],.agg [.str (dCok c).c.flight,.int .i64 (dCok c).c.what,.int .i64 (dCok c).c.number,.str (dCok c).c.value]],[])
 | _,_=>none⟩
structure StrD where
 s : Str
 deriving Inhabited
def Qjlx (x : StrD) : Prop:=szS x.s = true
noncomputable def dRead (c : List Int) : StrD:=drawn (fun x=>Qewq Tryz.prog CP Qign [.sl .u8 c] [] (.str x.s) [] ∧ Qjlx x)
noncomputable def Qzzd : Ent Ty El:=⟨[.ro],0,fun a h=>match a,h with
 | [.sl .u8 c],[]=>some (Qf9o c,.str (dRead c).s,[])
 | _,_=>none⟩
end Lx
namespace Lx
open Go Go.Proofs
noncomputable def Qfkx : RE Ty El:=⟨Tryz.prog,CP,[(Qpxs,Q7v2),(Qchm,Q2vb)],Tryz.f110,1,[],[]⟩
theorem Q2rt : REOK Qfkx Qrls:=⟨CP_ok,(TabOK.cons Q0e7 (TabOK.cons Qyvd Qye1)),by kernel_rfl,by kernel_rfl⟩
theorem Q7vk (bs : List Int) (p : Int) (s : Str) : aRun Qfkx 600 false (body0 Qfkx.fn) (Q4gm Qfkx.fn [.ptr 0 0,.str s] [.box [.sl .u8 bs,.int .i64 p]]) =
 ifb (posOk p) (ifb (posOk (p + 1)) (ifb (pickV bs (p + 1) (4 : Int) == (0 : Int)) (ifb (decide ((0 : Int) ≤ (0 : Int)) && (decide (0 ≤ IntKind.i64.wrap ((IntKind.i64.wrap (pickV bs p (256 : Int) * IntKind.i64.wrap ((↑(List.length s) : Int) + 1))).tdiv (256 : Int))) && decide (IntKind.i64.wrap ((IntKind.i64.wrap (pickV bs p (256 : Int) * IntKind.i64.wrap ((↑(List.length s) : Int) + 1))).tdiv (256 : Int)) ≤ (↑(List.length s) : Int)))) (some (.ret (.str (List.take ((IntKind.i64.wrap ((IntKind.i64.wrap (pickV bs p (256 : Int) * IntKind.i64.wrap ((↑(List.length s) : Int) + 1))).tdiv (256 : Int))).toNat - Int.toNat (0 : Int)) (List.drop (Int.toNat (0 : Int)) s))) [.box [.sl .u8 bs,.int .i64 (p + 1 + 1)]])) (none)) (ifb (pickV bs (p + 1) (4 : Int) == (1 : Int)) (ifb (decide ((0 : Int) ≤ (0 : Int)) && (decide (0 ≤ IntKind.i64.wrap ((IntKind.i64.wrap (pickV bs p (256 : Int) * IntKind.i64.wrap ((↑(List.length s) : Int) + 1))).tdiv (256 : Int))) && decide (IntKind.i64.wrap ((IntKind.i64.wrap (pickV bs p (256 : Int) * IntKind.i64.wrap ((↑(List.length s) : Int) + 1))).tdiv (256 : Int)) ≤ (↑(List.length s) : Int)))) (ifb (rdOk bs (p + 1 + 1) && decide ((0 : Nat) < [#[(32 : UInt8)].toList, #[(48 : UInt8)].toList, #[(10 : UInt8)].toList, #[(45 : UInt8)].toList, #[(120 : UInt8)].toList].length)) (ifb (decide ((List.take ((IntKind.i64.wrap ((IntKind.i64.wrap (pickV bs p (256 : Int) * IntKind.i64.wrap ((↑(List.length s) : Int) + 1))).tdiv (256 : Int))).toNat - Int.toNat (0 : Int)) (List.drop (Int.toNat (0 : Int)) s)).length + List.length (ofV bs (p + 1 + 1) [#[(32 : UInt8)].toList, #[(48 : UInt8)].toList, #[(10 : UInt8)].toList, #[(45 : UInt8)].toList, #[(120 : UInt8)].toList]) ≤ (9223372036854775807 : Nat))) (ifb (decide (0 ≤ IntKind.i64.wrap ((IntKind.i64.wrap (pickV bs p (256 : Int) * IntKind.i64.wrap ((↑(List.length s) : Int) + 1))).tdiv (256 : Int))) && (decide (IntKind.i64.wrap ((IntKind.i64.wrap (pickV bs p (256 : Int) * IntKind.i64.wrap ((↑(List.length s) : Int) + 1))).tdiv (256 : Int)) ≤ (↑(List.length s) : Int)) && decide ((↑(List.length s) : Int) ≤ (↑(List.length s) : Int)))) (ifb (decide ((List.take ((IntKind.i64.wrap ((IntKind.i64.wrap (pickV bs p (256 : Int) * IntKind.i64.wrap ((↑(List.length s) : Int) + 1))).tdiv (256 : Int))).toNat - Int.toNat (0 : Int)) (List.drop (Int.toNat (0 : Int)) s) ++ ofV bs (p + 1 + 1) [#[(32 : UInt8)].toList, #[(48 : UInt8)].toList, #[(10 : UInt8)].toList, #[(45 : UInt8)].toList, #[(120 : UInt8)].toList]).length + (List.take ((↑(List.length s) : Int).toNat - (IntKind.i64.wrap ((IntKind.i64.wrap (pickV bs p (256 : Int) * IntKind.i64.wrap ((↑(List.length s) : Int) + 1))).tdiv (256 : Int))).toNat) (List.drop (IntKind.i64.wrap ((IntKind.i64.wrap (pickV bs p (256 : Int) * IntKind.i64.wrap ((↑(List.length s) : Int) + 1))).tdiv (256 : Int))).toNat s)).length ≤ (9223372036854775807 : Nat))) (some (.ret (.str (List.take ((IntKind.i64.wrap ((IntKind.i64.wrap (pickV bs p (256 : Int) * IntKind.i64.wrap ((↑(List.length s) : Int) + 1))).tdiv (256 : Int))).toNat - Int.toNat (0 : Int)) (List.drop (Int.toNat (0 : Int)) s) ++ ofV bs (p + 1 + 1) [#[(32 : UInt8)].toList, #[(48 : UInt8)].toList, #[(10 : UInt8)].toList, #[(45 : UInt8)].toList, #[(120 : UInt8)].toList] ++ List.take ((↑(List.length s) : Int).toNat - (IntKind.i64.wrap ((IntKind.i64.wrap (pickV bs p (256 : Int) * IntKind.i64.wrap ((↑(List.length s) : Int) + 1))).tdiv (256 : Int))).toNat) (List.drop (IntKind.i64.wrap ((IntKind.i64.wrap (pickV bs p (256 : Int) * IntKind.i64.wrap ((↑(List.length s) : Int) + 1))).tdiv (256 : Int))).toNat s))) [.box [.sl .u8 bs,.int .i64 (p + 1 + 1 + 1)]])) (none)) (none)) (none)) (none)) (none)) (ifb (pickV bs (p + 1) (4 : Int) == (2 : Int)) (ifb (decide (IntKind.i64.wrap ((IntKind.i64.wrap (pickV bs p (256 : Int) * IntKind.i64.wrap ((↑(List.length s) : Int) + 1))).tdiv (256 : Int)) < (↑(List.length s) : Int))) (ifb (decide ((0 : Int) ≤ (0 : Int)) && (decide (0 ≤ IntKind.i64.wrap ((IntKind.i64.wrap (pickV bs p (256 : Int) * IntKind.i64.wrap ((↑(List.length s) : Int) + 1))).tdiv (256 : Int))) && decide (IntKind.i64.wrap ((IntKind.i64.wrap (pickV bs p (256 : Int) * IntKind.i64.wrap ((↑(List.length s) : Int) + 1))).tdiv (256 : Int)) ≤ (↑(List.length s) : Int)))) (ifb (decide (0 ≤ IntKind.i64.wrap (IntKind.i64.wrap ((IntKind.i64.wrap (pickV bs p (256 : Int) * IntKind.i64.wrap ((↑(List.length s) : Int) + 1))).tdiv (256 : Int)) + 1)) && (decide (IntKind.i64.wrap (IntKind.i64.wrap ((IntKind.i64.wrap (pickV bs p (256 : Int) * IntKind.i64.wrap ((↑(List.length s) : Int) + 1))).tdiv (256 : Int)) + 1) ≤ (↑(List.length s) : Int)) && decide ((↑(List.length s) : Int) ≤ (↑(List.length s) : Int)))) (ifb (decide ((List.take ((IntKind.i64.wrap ((IntKind.i64.wrap (pickV bs p (256 : Int) * IntKind.i64.wrap ((↑(List.length s) : Int) + 1))).tdiv (256 : Int))).toNat - Int.toNat (0 : Int)) (List.drop (Int.toNat (0 : Int)) s)).length + (List.take ((↑(List.length s) : Int).toNat - (IntKind.i64.wrap (IntKind.i64.wrap ((IntKind.i64.wrap (pickV bs p (256 : Int) * IntKind.i64.wrap ((↑(List.length s) : Int) + 1))).tdiv (256 : Int)) + 1)).toNat) (List.drop (IntKind.i64.wrap (IntKind.i64.wrap ((IntKind.i64.wrap (pickV bs p (256 : Int) * IntKind.i64.wrap ((↑(List.length s) : Int) + 1))).tdiv (256 : Int)) + 1)).toNat s)).length ≤ (9223372036854775807 : Nat))) (some (.ret (.str (List.take ((IntKind.i64.wrap ((IntKind.i64.wrap (pickV bs p (256 : Int) * IntKind.i64.wrap ((↑(List.length s) : Int) + 1))).tdiv (256 : Int))).toNat - Int.toNat (0 : Int)) (List.drop (Int.toNat (0 : Int)) s) ++ List.take ((↑(List.length s) : Int).toNat - (IntKind.i64.wrap (IntKind.i64.wrap ((IntKind.i64.wrap (pickV bs p (256 : Int) * IntKind.i64.wrap ((↑(List.length s) : Int) + 1))).tdiv (256 : Int)) + 1)).toNat) (List.drop (IntKind.i64.wrap (IntKind.i64.wrap ((IntKind.i64.wrap (pickV bs p (256 : Int) * IntKind.i64.wrap ((↑(List.length s) : Int) + 1))).tdiv (256 : Int)) + 1)).toNat s))) [.box [.sl .u8 bs,.int .i64 (p + 1 + 1)]])) (none)) (none)) (none)) (ifb (decide (0 ≤ IntKind.i64.wrap ((IntKind.i64.wrap (pickV bs p (256 : Int) * IntKind.i64.wrap ((↑(List.length s) : Int) + 1))).tdiv (256 : Int))) && (decide (IntKind.i64.wrap ((IntKind.i64.wrap (pickV bs p (256 : Int) * IntKind.i64.wrap ((↑(List.length s) : Int) + 1))).tdiv (256 : Int)) ≤ (↑(List.length s) : Int)) && decide ((↑(List.length s) : Int) ≤ (↑(List.length s) : Int)))) (ifb (decide (List.length s + (List.take ((↑(List.length s) : Int).toNat - (IntKind.i64.wrap ((IntKind.i64.wrap (pickV bs p (256 : Int) * IntKind.i64.wrap ((↑(List.length s) : Int) + 1))).tdiv (256 : Int))).toNat) (List.drop (IntKind.i64.wrap ((IntKind.i64.wrap (pickV bs p (256 : Int) * IntKind.i64.wrap ((↑(List.length s) : Int) + 1))).tdiv (256 : Int))).toNat s)).length ≤ (9223372036854775807 : Nat))) (some (.ret (.str (s ++ List.take ((↑(List.length s) : Int).toNat - (IntKind.i64.wrap ((IntKind.i64.wrap (pickV bs p (256 : Int) * IntKind.i64.wrap ((↑(List.length s) : Int) + 1))).tdiv (256 : Int))).toNat) (List.drop (IntKind.i64.wrap ((IntKind.i64.wrap (pickV bs p (256 : Int) * IntKind.i64.wrap ((↑(List.length s) : Int) + 1))).tdiv (256 : Int))).toNat s))) [.box [.sl .u8 bs,.int .i64 (p + 1 + 1)]])) (none)) (none))) (ifb (decide (0 ≤ IntKind.i64.wrap ((IntKind.i64.wrap (pickV bs p (256 : Int) * IntKind.i64.wrap ((↑(List.length s) : Int) + 1))).tdiv (256 : Int))) && (decide (IntKind.i64.wrap ((IntKind.i64.wrap (pickV bs p (256 : Int) * IntKind.i64.wrap ((↑(List.length s) : Int) + 1))).tdiv (256 : Int)) ≤ (↑(List.length s) : Int)) && decide ((↑(List.length s) : Int) ≤ (↑(List.length s) : Int)))) (ifb (decide (List.length s + (List.take ((↑(List.length s) : Int).toNat - (IntKind.i64.wrap ((IntKind.i64.wrap (pickV bs p (256 : Int) * IntKind.i64.wrap ((↑(List.length s) : Int) + 1))).tdiv (256 : Int))).toNat) (List.drop (IntKind.i64.wrap ((IntKind.i64.wrap (pickV bs p (256 : Int) * IntKind.i64.wrap ((↑(List.length s) : Int) + 1))).tdiv (256 : Int))).toNat s)).length ≤ (9223372036854775807 : Nat))) (some (.ret (.str (s ++ List.take ((↑(List.length s) : Int).toNat - (IntKind.i64.wrap ((IntKind.i64.wrap (pickV bs p (256 : Int) * IntKind.i64.wrap ((↑(List.length s) : Int) + 1))).tdiv (256 : Int))).toNat) (List.drop (IntKind.i64.wrap ((IntKind.i64.wrap (pickV bs p (256 : Int) * IntKind.i64.wrap ((↑(List.length s) : Int) + 1))).tdiv (256 : Int))).toNat s))) [.box [.sl .u8 bs,.int .i64 (p + 1 + 1)]])) (none)) (none))))) (none)) (none):=by kernel_rfl
theorem Qwr2 {bs : List Int} {p q : Int} {s : Str} (h1 : s.length ≤ 100000) (h2 : p ≤ q) (h3 : q ≤ p + 3) : ∃ x : BendP,(AV.str s : AV Ty El) = .str x.s ∧ ([.box [.sl .u8 bs,.int .i64 q]] : List (AObj Ty El)) = [.box [.sl .u8 bs,.int .i64 x.p]] ∧ Qp3x p x:=⟨⟨s,q⟩,rfl,rfl,Qtuu (Nat.le_trans h1 (by omega)),h2,h3⟩
theorem Qvgm (bs : List Int) (p : Int) (s : Str) (hg : bendK bs p s = true) : Qewq Tryz.prog CP Qrls [.ptr 0 0,.str s] [.box [.sl .u8 bs,.int .i64 p]] (.str (dBend bs p s).s) [.box [.sl .u8 bs,.int .i64 (dBend bs p s).p]] ∧ Qp3x p (dBend bs p s):=by
 simp only [bendK,qaT,qdT] at hg
 obtain ⟨hbs,h0,h9,hs⟩:=hg
 have ps0 : ∀ (q : Int),p ≤ q → q ≤ p + 10 → posOk q = true:=fun q h2 h3=>Q8s4 (by omega) (by omega)
 have rd0 : ∀ (q : Int),p ≤ q → q ≤ p + 10 → rdOk bs q = true:=fun q h2 h3=>by rw [rdOk,hbs,ps0 q h2 h3]; rfl
 have hE : CallE Qfkx.P Qfkx.C Qrls [.ptr 0 0,.str s] [.box [.sl .u8 bs,.int .i64 p]] (fun v h=>∃ x : BendP,v = .str x.s ∧ h = [.box [.sl .u8 bs,.int .i64 x.p]] ∧ Qp3x p x):=by
  refine CallE.of Q2rt (by kernel_rfl) (Q7vk bs p s) ?_
  obtain ⟨a1,a2⟩:=Q5va (n:=256) hbs (ps0 p (by omega) (by omega)) (by omega)
  obtain ⟨k,hk⟩:=Int.eq_ofNat_of_zero_le a1
  rw [hk] at a2 ⊢
  have w1 : IntKind.i64.wrap ((s.length : Int) + 1) = ((s.length + 1 : Nat) : Int):=by rw [Qbrg] <;> omega
  have hkm : k * (s.length + 1) ≤ 255 * (s.length + 1):=Nat.mul_le_mul_right _ (by omega)
  have w2 : IntKind.i64.wrap ((k : Int) * ((s.length + 1 : Nat) : Int)) = ((k * (s.length + 1) : Nat) : Int):=by rw [show (k : Int) * ((s.length + 1 : Nat) : Int) = ((k * (s.length + 1) : Nat) : Int) from (Int.natCast_mul _ _).symm,Qbrg] <;> omega
  have w3 : ((k * (s.length + 1) : Nat) : Int).tdiv 256 = ((k * (s.length + 1) / 256 : Nat) : Int):=by rw [Int.tdiv_eq_ediv_of_nonneg (Int.natCast_nonneg _)]; rfl
  have hj : k * (s.length + 1) / 256 ≤ s.length:=by omega
  have w4 : IntKind.i64.wrap ((k * (s.length + 1) / 256 : Nat) : Int) = ((k * (s.length + 1) / 256 : Nat) : Int):=by rw [Qbrg] <;> omega
  rw [w1,w2,w3,w4]
  generalize k * (s.length + 1) / 256 = j at hj ⊢
  have c0 : (decide ((0 : Int) ≤ 0) && (decide ((0 : Int) ≤ (j : Int)) && decide ((j : Int) ≤ (s.length : Int)))) = true:=by simp only [qaT,qdT]; omega
  have c1 : (decide ((0 : Int) ≤ (j : Int)) && (decide ((j : Int) ≤ (s.length : Int)) && decide ((s.length : Int) ≤ (s.length : Int)))) = true:=by simp only [qaT,qdT]; omega
  have t0 : ∀ a b : Nat,(List.take a (List.drop b s)).length ≤ 2000:=fun a b=>by rw [List.length_take,List.length_drop]; omega
  have q : ∀ n : Nat,n ≤ 2000000000 → decide (n ≤ 9223372036854775807) = true:=fun n h=>decide_eq_true (by omega)
  have hx : ∀ l,(l.all fun s=>decide (s.length ≤ 100)) = true → (ofV bs (p + 1 + 1) l).length ≤ 100:=fun l h=>Qgo3 (M:=100) h
  refine SatE.need (ps0 _ (by omega) (by omega)) (SatE.need (ps0 _ (by omega) (by omega)) (SatE.ifb (fun _=>?_) (fun _=>SatE.ifb (fun _=>?_) (fun _=>SatE.ifb (fun _=>?_) (fun _=>?_)))))
  ·exact SatE.need c0 (SatE.ret (Qwr2 (Nat.le_trans (t0 _ _) (by omega)) (by omega) (by omega)))
  ·refine SatE.need c0 (SatE.need (by rw [rd0 _ (by omega) (by omega)]; rfl) ?_)
   have h5:=hx [#[(32 : UInt8)].toList, #[(48 : UInt8)].toList, #[(10 : UInt8)].toList, #[(45 : UInt8)].toList, #[(120 : UInt8)].toList] rfl
   generalize ofV bs (p + 1 + 1) [#[(32 : UInt8)].toList, #[(48 : UInt8)].toList, #[(10 : UInt8)].toList, #[(45 : UInt8)].toList, #[(120 : UInt8)].toList] = y at h5 ⊢
   have ta:=t0 ((j : Int).toNat - Int.toNat 0) (Int.toNat 0)
   have tb:=t0 ((s.length : Int).toNat - (j : Int).toNat) (j : Int).toNat
   generalize List.take ((j : Int).toNat - Int.toNat 0) (List.drop (Int.toNat 0) s) = xa at ta ⊢
   generalize List.take ((s.length : Int).toNat - (j : Int).toNat) (List.drop (j : Int).toNat s) = xb at tb ⊢
   exact SatE.need (q _ (by omega)) (SatE.need c1 (SatE.need (q _ (by rw [List.length_append]; omega)) (SatE.ret (Qwr2 (by rw [List.length_append,List.length_append]; omega) (by omega) (by omega)))))
  ·refine SatE.ifb (fun hlt=>?_) (fun _=>?_)
   ·have hl:=of_decide_eq_true hlt
    have w5 : IntKind.i64.wrap ((j : Int) + 1) = ((j + 1 : Nat) : Int):=by rw [Qbrg] <;> omega
    rw [w5]
    have c2 : (decide ((0 : Int) ≤ ((j + 1 : Nat) : Int)) && (decide (((j + 1 : Nat) : Int) ≤ (s.length : Int)) && decide ((s.length : Int) ≤ (s.length : Int)))) = true:=by simp only [qaT,qdT]; omega
    have ta:=t0 ((j : Int).toNat - Int.toNat 0) (Int.toNat 0)
    have tb:=t0 ((s.length : Int).toNat - ((j + 1 : Nat) : Int).toNat) ((j + 1 : Nat) : Int).toNat
    generalize List.take ((j : Int).toNat - Int.toNat 0) (List.drop (Int.toNat 0) s) = xa at ta ⊢
    generalize List.take ((s.length : Int).toNat - ((j + 1 : Nat) : Int).toNat) (List.drop ((j + 1 : Nat) : Int).toNat s) = xb at tb ⊢
    exact SatE.need c0 (SatE.need c2 (SatE.need (q _ (by omega)) (SatE.ret (Qwr2 (by rw [List.length_append]; omega) (by omega) (by omega)))))
   ·have tb:=t0 ((s.length : Int).toNat - (j : Int).toNat) (j : Int).toNat
    generalize List.take ((s.length : Int).toNat - (j : Int).toNat) (List.drop (j : Int).toNat s) = xb at tb ⊢
    exact SatE.need c1 (SatE.need (q _ (by omega)) (SatE.ret (Qwr2 (by rw [List.length_append]; omega) (by omega) (by omega))))
  ·have tb:=t0 ((s.length : Int).toNat - (j : Int).toNat) (j : Int).toNat
   generalize List.take ((s.length : Int).toNat - (j : Int).toNat) (List.drop (j : Int).toNat s) = xb at tb ⊢
   exact SatE.need c1 (SatE.need (q _ (by omega)) (SatE.ret (Qwr2 (by rw [List.length_append]; omega) (by omega) (by omega))))
 obtain ⟨v,H',h,x,rfl,rfl,hx⟩:=hE
 unfold dBend
 exact Qk78 (p:=fun x : BendP=>Qewq Tryz.prog CP Qrls [.ptr 0 0,.str s] [.box [.sl .u8 bs,.int .i64 p]] (.str x.s) [.box [.sl .u8 bs,.int .i64 x.p]] ∧ Qp3x p x) ⟨x,h,hx⟩
theorem Qc3v (bs : List Int) (p : Int) (s : Str) (hg : bendK bs p s = true) : Qewq Tryz.prog CP Qrls [.ptr 0 0,.str s] [.box [.sl .u8 bs,.int .i64 p]] (.str (dBend bs p s).s) [.box [.sl .u8 bs,.int .i64 (dBend bs p s).p]]:=by
 exact (Qvgm bs p s hg).1
theorem Qz1o : EntOK Tryz.prog CP Qrls Q51w:=by
 refine ⟨eob (by kernel_rfl),fun _ _ _ _ h=>?_⟩
 simp only [Q51w] at h
 split at h
 ·obtain ⟨hg,rfl,rfl⟩:=eoh h
  exact Qc3v _ _ _ hg
 ·cases h

noncomputable def Qkbf : RE Ty El:=⟨Tryz.prog,CP,[(Qajm,Qqtq),(Qwua,Qu46),(Qhy2,Qs50),(Qpj2,Qfk2),(Qpxs,Q7v2)],Tryz.f22,0,[.agg [.ro .kind,.ro .point],.any],[]⟩
theorem Qsgk : REOK Qkbf Qs18:=⟨CP_ok,(TabOK.cons Q3w2 (TabOK.cons Ql5k (TabOK.cons Qj73 (TabOK.cons Q9f6 (TabOK.cons Q0e7 Qye1))))),by kernel_rfl,by kernel_rfl⟩
theorem Qmxk (c : List Int) : aRun Qkbf 600 false (body0 Qkbf.fn) (Q4gm Qkbf.fn [.sl .u8 c] []) =
 ifb (rdK (List.take (2000 : Nat) c) (0 : Int)) (ifb (chgK (List.take (2000 : Nat) c) (dBase (List.take (2000 : Nat) c) (0 : Int)).p (dBase (List.take (2000 : Nat) c) (0 : Int)).ks (dBase (List.take (2000 : Nat) c) (0 : Int)).ps) (ifb (posOk (dChgS (List.take (2000 : Nat) c) (dBase (List.take (2000 : Nat) c) (0 : Int)).p (dBase (List.take (2000 : Nat) c) (0 : Int)).ks (dBase (List.take (2000 : Nat) c) (0 : Int)).ps).p) (ifb (pickV (List.take (2000 : Nat) c) (dChgS (List.take (2000 : Nat) c) (dBase (List.take (2000 : Nat) c) (0 : Int)).p (dBase (List.take (2000 : Nat) c) (0 : Int)).ks (dBase (List.take (2000 : Nat) c) (0 : Int)).ps).p (2 : Int) == (0 : Int)) (ifb (spcKS (List.take (2000 : Nat) c) ((dChgS (List.take (2000 : Nat) c) (dBase (List.take (2000 : Nat) c) (0 : Int)).p (dBase (List.take (2000 : Nat) c) (0 : Int)).ks (dBase (List.take (2000 : Nat) c) (0 : Int)).ps).p + 1) (dChgS (List.take (2000 : Nat) c) (dBase (List.take (2000 : Nat) c) (0 : Int)).p (dBase (List.take (2000 : Nat) c) (0 : Int)).ks (dBase (List.take (2000 : Nat) c) (0 : Int)).ps).c.value) (some (.ret (.tup [.agg [.sl .kind ((dBase (List.take (2000 : Nat) c) (0 : Int)).ks),.sl .point ((dBase (List.take (2000 : Nat) c) (0 : Int)).ps)],.agg [.str ((dSpCS (List.take (2000 : Nat) c) ((dChgS (List.take (2000 : Nat) c) (dBase (List.take (2000 : Nat) c) (0 : Int)).p (dBase (List.take (2000 : Nat) c) (0 : Int)).ks (dBase (List.take (2000 : Nat) c) (0 : Int)).ps).p + 1) (dChgS (List.take (2000 : Nat) c) (dBase (List.take (2000 : Nat) c) (0 : Int)).p (dBase (List.take (2000 : Nat) c) (0 : Int)).ks (dBase (List.take (2000 : Nat) c) (0 : Int)).ps).c).c.flight),.int .i64 ((dSpCS (List.take (2000 : Nat) c) ((dChgS (List.take (2000 : Nat) c) (dBase (List.take (2000 : Nat) c) (0 : Int)).p (dBase (List.take (2000 : Nat) c) (0 : Int)).ks (dBase (List.take (2000 : Nat) c) (0 : Int)).ps).p + 1) (dChgS (List.take (2000 : Nat) c) (dBase (List.take (2000 : Nat) c) (0 : Int)).p (dBase (List.take (2000 : Nat) c) (0 : Int)).ks (dBase (List.take (2000 : Nat) c) (0 : Int)).ps).c).c.what),.int .i64 ((dSpCS (List.take (2000 : Nat) c) ((dChgS (List.take (2000 : Nat) c) (dBase (List.take (2000 : Nat) c) (0 : Int)).p (dBase (List.take (2000 : Nat) c) (0 : Int)).ks (dBase (List.take (2000 : Nat) c) (0 : Int)).ps).p + 1) (dChgS (List.take (2000 : Nat) c) (dBase (List.take (2000 : Nat) c) (0 : Int)).p (dBase (List.take (2000 : Nat) c) (0 : Int)).ks (dBase (List.take (2000 : Nat) c) (0 : Int)).ps).c).c.number),.str ((dSpCS (List.take (2000 : Nat) c) ((dChgS (List.take (2000 : Nat) c) (dBase (List.take (2000 : Nat) c) (0 : Int)).p (dBase (List.take (2000 : Nat) c) (0 : Int)).ks (dBase (List.take (2000 : Nat) c) (0 : Int)).ps).p + 1) (dChgS (List.take (2000 : Nat) c) (dBase (List.take (2000 : Nat) c) (0 : Int)).p (dBase (List.take (2000 : Nat) c) (0 : Int)).ks (dBase (List.take (2000 : Nat) c) (0 : Int)).ps).c).c.value)]]) [])) (none)) (some (.ret (.tup [.agg [.sl .kind ((dBase (List.take (2000 : Nat) c) (0 : Int)).ks),.sl .point ((dBase (List.take (2000 : Nat) c) (0 : Int)).ps)],.agg [.str ((dChgS (List.take (2000 : Nat) c) (dBase (List.take (2000 : Nat) c) (0 : Int)).p (dBase (List.take (2000 : Nat) c) (0 : Int)).ks (dBase (List.take (2000 : Nat) c) (0 : Int)).ps).c.flight),.int .i64 ((dChgS (List.take (2000 : Nat) c) (dBase (List.take (2000 : Nat) c) (0 : Int)).p (dBase (List.take (2000 : Nat) c) (0 : Int)).ks (dBase (List.take (2000 : Nat) c) (0 : Int)).ps).c.what),.int .i64 ((dChgS (List.take (2000 : Nat) c) (dBase (List.take (2000 : Nat) c) (0 : Int)).p (dBase (List.take (2000 : Nat) c) (0 : Int)).ks (dBase (List.take (2000 : Nat) c) (0 : Int)).ps).c.number),.str ((dChgS (List.take (2000 : Nat) c) (dBase (List.take (2000 : Nat) c) (0 : Int)).p (dBase (List.take (2000 : Nat) c) (0 : Int)).ks (dBase (List.take (2000 : Nat) c) (0 : Int)).ps).c.value)]]) []))) (none)) (none)) (none):=by kernel_rfl
theorem Q1qt (c : List Int) (hg : Qf9o c = true) : Qewq Tryz.prog CP Qs18 [.sl .u8 c] [] (.tup [.agg [.sl .kind (dCok c).ks,.sl .point (dCok c).ps],.agg [.str (dCok c).c.flight,.int .i64 (dCok c).c.what,.int .i64 (dCok c).c.number,.str (dCok c).c.value]]) [] ∧ Qaw5 (dCok c):=by
 have hbs:=Qz2g hg 2000
 have hr : rdK (c.take 2000) 0 = true:=by simp only [rdK,qaT,qdT]; exact ⟨hbs,by omega,by omega⟩
 obtain ⟨b1,b2,b3,b4,b5⟩:=(Q46n (c.take 2000) 0 hr).2
 have hE : CallE Qkbf.P Qkbf.C Qs18 [.sl .u8 c] [] (fun v h=>∃ x : CokD,v = (.tup [.agg [.sl .kind x.ks,.sl .point x.ps],.agg [.str x.c.flight,.int .i64 x.c.what,.int .i64 x.c.number,.str x.c.value]]) ∧ h = [] ∧ Qaw5 x):=by
  refine CallE.of Qsgk (by kernel_rfl) (Qmxk c) ?_
  generalize dBase (c.take 2000) 0 = z at *
  have hn:=Qd1y b1
  have hc : chgK (c.take 2000) z.p z.ks z.ps = true:=by simp only [chgK,qaT,qdT]; exact ⟨hbs,by omega,by omega,hn.1,hn.2,b3⟩
  obtain ⟨c1,c2,c3⟩:=(Q95l (c.take 2000) z.p z.ks z.ps hc).2
  generalize dChgS (c.take 2000) z.p z.ks z.ps = y at *
  have sp : spcKS (c.take 2000) (y.p + 1) y.c.value = true:=by simp only [spcKS,qaT,qdT]; exact ⟨hbs,by omega,by omega,c1⟩
  obtain ⟨d1,d2,d3⟩:=(Q2b4 (c.take 2000) (y.p + 1) y.c.flight y.c.what y.c.number y.c.value sp).2
  exact SatE.need hr (SatE.need hc (SatE.need (Q8s4 (by omega) (by omega)) (SatE.ifb (fun _=>SatE.need sp (SatE.ret ⟨⟨_,_,_⟩,rfl,rfl,b1,d1⟩)) (fun _=>SatE.ret ⟨⟨_,_,_⟩,rfl,rfl,b1,c1⟩))))
 obtain ⟨v,H',h,x,rfl,rfl,hx⟩:=hE
 unfold dCok
 exact Qk78 (p:=fun x : CokD=>Qewq Tryz.prog CP Qs18 [.sl .u8 c] [] (.tup [.agg [.sl .kind x.ks,.sl .point x.ps],.agg [.str x.c.flight,.int .i64 x.c.what,.int .i64 x.c.number,.str x.c.value]]) [] ∧ Qaw5 x) ⟨x,h,hx⟩
theorem Qj6a (c : List Int) (hg : Qf9o c = true) : Qewq Tryz.prog CP Qs18 [.sl .u8 c] [] (.tup [.agg [.sl .kind (dCok c).ks,.sl .point (dCok c).ps],.agg [.str (dCok c).c.flight,.int .i64 (dCok c).c.what,.int .i64 (dCok c).c.number,.str (dCok c).c.value]]) []:=by
 exact (Q1qt c hg).1
theorem Qszv : EntOK Tryz.prog CP Qs18 Qamt:=by
 refine ⟨eob (by kernel_rfl),fun _ _ _ _ h=>?_⟩
 simp only [Qamt] at h
 split at h
 ·obtain ⟨hg,rfl,rfl⟩:=eoh h
  exact Qj6a _ hg
 ·cases h

noncomputable def Qte0 : RE Ty El:=⟨Tryz.prog,CP,[(Qajm,Qqtq),(Qwua,Qu46),(Qhy2,Qs50),(Qyqz,Qzlv),(Qrls,Q51w),(Qpxs,Q7v2)],Tryz.f29,0,[],[]⟩
theorem Q6se : REOK Qte0 Qign:=⟨CP_ok,(TabOK.cons Q3w2 (TabOK.cons Ql5k (TabOK.cons Qj73 (TabOK.cons Qawc (TabOK.cons Qz1o (TabOK.cons Q0e7 Qye1)))))),by kernel_rfl,by kernel_rfl⟩
theorem Qs02 (c : List Int) : aRun Qte0 600 false (body0 Qte0.fn) (Q4gm Qte0.fn [.sl .u8 c] []) =
 ifb (rdK (List.take (2000 : Nat) c) (0 : Int)) (ifb (chgK (List.take (2000 : Nat) c) (dBase (List.take (2000 : Nat) c) (0 : Int)).p (dBase (List.take (2000 : Nat) c) (0 : Int)).ks (dBase (List.take (2000 : Nat) c) (0 : Int)).ps) (ifb (szV (dChgS (List.take (2000 : Nat) c) (dBase (List.take (2000 : Nat) c) (0 : Int)).p (dBase (List.take (2000 : Nat) c) (0 : Int)).ks (dBase (List.take (2000 : Nat) c) (0 : Int)).ps).c.value) (ifb (posOk (dChgS (List.take (2000 : Nat) c) (dBase (List.take (2000 : Nat) c) (0 : Int)).p (dBase (List.take (2000 : Nat) c) (0 : Int)).ks (dBase (List.take (2000 : Nat) c) (0 : Int)).ps).p) (ifb (pickV (List.take (2000 : Nat) c) (dChgS (List.take (2000 : Nat) c) (dBase (List.take (2000 : Nat) c) (0 : Int)).p (dBase (List.take (2000 : Nat) c) (0 : Int)).ks (dBase (List.take (2000 : Nat) c) (0 : Int)).ps).p (2 : Int) == (0 : Int)) (ifb (bendK (List.take (2000 : Nat) c) ((dChgS (List.take (2000 : Nat) c) (dBase (List.take (2000 : Nat) c) (0 : Int)).p (dBase (List.take (2000 : Nat) c) (0 : Int)).ks (dBase (List.take (2000 : Nat) c) (0 : Int)).ps).p + 1) (formF (dChgS (List.take (2000 : Nat) c) (dBase (List.take (2000 : Nat) c) (0 : Int)).p (dBase (List.take (2000 : Nat) c) (0 : Int)).ks (dBase (List.take (2000 : Nat) c) (0 : Int)).ps).c)) (some (.ret (.str ((dBend (List.take (2000 : Nat) c) ((dChgS (List.take (2000 : Nat) c) (dBase (List.take (2000 : Nat) c) (0 : Int)).p (dBase (List.take (2000 : Nat) c) (0 : Int)).ks (dBase (List.take (2000 : Nat) c) (0 : Int)).ps).p + 1) (formF (dChgS (List.take (2000 : Nat) c) (dBase (List.take (2000 : Nat) c) (0 : Int)).p (dBase (List.take (2000 : Nat) c) (0 : Int)).ks (dBase (List.take (2000 : Nat) c) (0 : Int)).ps).c)).s)) [])) (none)) (some (.ret (.str (formF (dChgS (List.take (2000 : Nat) c) (dBase (List.take (2000 : Nat) c) (0 : Int)).p (dBase (List.take (2000 : Nat) c) (0 : Int)).ks (dBase (List.take (2000 : Nat) c) (0 : Int)).ps).c)) []))) (none)) (none)) (none)) (none):=by kernel_rfl
theorem Qjhs (c : List Int) (hg : Qf9o c = true) : Qewq Tryz.prog CP Qign [.sl .u8 c] [] (.str (dRead c).s) [] ∧ Qjlx (dRead c):=by
 have hbs:=Qz2g hg 2000
 have hr : rdK (c.take 2000) 0 = true:=by simp only [rdK,qaT,qdT]; exact ⟨hbs,by omega,by omega⟩
 obtain ⟨b1,b2,b3,b4,b5⟩:=(Q46n (c.take 2000) 0 hr).2
 have hE : CallE Qte0.P Qte0.C Qign [.sl .u8 c] [] (fun v h=>∃ x : StrD,v = (.str x.s) ∧ h = [] ∧ Qjlx x):=by
  refine CallE.of Q6se (by kernel_rfl) (Qs02 c) ?_
  generalize dBase (c.take 2000) 0 = z at *
  have hn:=Qd1y b1
  have hc : chgK (c.take 2000) z.p z.ks z.ps = true:=by simp only [chgK,qaT,qdT]; exact ⟨hbs,by omega,by omega,hn.1,hn.2,b3⟩
  obtain ⟨c1,c2,c3⟩:=(Q95l (c.take 2000) z.p z.ks z.ps hc).2
  generalize dChgS (c.take 2000) z.p z.ks z.ps = y at *
  have hf : (formF ⟨y.c.flight,y.c.what,y.c.number,y.c.value⟩).length ≤ y.c.value.length + 100:=Q3ih
  have bk : bendK (c.take 2000) (y.p + 1) (formF ⟨y.c.flight,y.c.what,y.c.number,y.c.value⟩) = true:=by simp only [bendK,qaT,qdT]; exact ⟨hbs,by omega,by omega,by omega⟩
  obtain ⟨d1,d2,d3⟩:=(Qvgm (c.take 2000) (y.p + 1) _ bk).2
  exact SatE.need hr (SatE.need hc (SatE.need (decide_eq_true (by omega)) (SatE.need (Q8s4 (by omega) (by omega)) (SatE.ifb (fun _=>SatE.need bk (SatE.ret ⟨⟨_⟩,rfl,rfl,d1⟩)) (fun _=>SatE.ret ⟨⟨_⟩,rfl,rfl,Qtuu (Nat.le_trans hf (by omega))⟩)))))
 obtain ⟨v,H',h,x,rfl,rfl,hx⟩:=hE
 unfold dRead
 exact Qk78 (p:=fun x : StrD=>Qewq Tryz.prog CP Qign [.sl .u8 c] [] (.str x.s) [] ∧ Qjlx x) ⟨x,h,hx⟩
theorem Qlyb (c : List Int) (hg : Qf9o c = true) : Qewq Tryz.prog CP Qign [.sl .u8 c] [] (.str (dRead c).s) []:=by
 exact (Qjhs c hg).1
theorem Qcb5 : EntOK Tryz.prog CP Qign Qzzd:=by
 refine ⟨eob (by kernel_rfl),fun _ _ _ _ h=>?_⟩
 simp only [Qzzd] at h
 split at h
 ·obtain ⟨hg,rfl,rfl⟩:=eoh h
  exact Qlyb _ hg
 ·cases h
end Lx
namespace Lx
open Go
section
variable {Ty : Type} {El : Ty → Type} {C : Cod Ty El} {P : Program}
theorem Qewq.readTup (hC : CodOK P C) {g : FuncId} {args : List (AV Ty El)} {cs ds : List (AV Ty El)} {H' : List (AObj Ty El)} (h : Qewq P C g args [] (.tup cs) H') (hl : omap (lend C (hpOf H') 4) cs = some ds) : Qewq P C g args [] (.tup ds) []:=by
 intro w N vs hN hsz hrep
 refine (h w N vs hN hsz hrep).mono ?_
 rintro en w' ⟨v,N',rfl,hH,hv,hio,hroI,hroO,hfr,hF⟩
 let N2 : Nm:={ ν:=N'.ν,F:=fun _ _=>False,G:=fun _ _ _ _=>False,ro:=fun b=>N'.ro b ∨ ∃ r,N'.F r b }
 have e0 : ∀ r,hpOf ([] : List (AObj Ty El)) r = .gone:=fun r=>by simp [hpOf]
 refine ⟨v,N2,rfl,⟨fun r=>?_,fun r p v u hg=>hg.elim,fun r=>?_,fun r p v u hg=>hg.elim,fun r r' b h1 _=>h1.elim,fun r b h1 _=>h1.elim,fun b hb=>?_,hH.glTo hC (fun b hb=>.inl hb) (fun _ _=>rfl)⟩, ?_,fun r hr=>by simp at hr,fun b hb=>.inl (hroI b hb),fun b hb=>?_,hfr,fun r b hb=>hb.elim⟩
 ·rw [e0]; exact fun b hb=>hb
 ·rw [e0]; trivial
 ·rcases hb with hb | ⟨r,hb⟩
  ·exact hH.roLt b hb
  ·exact (hH.obj r).lt hC hb
 ·obtain ⟨h1,h2⟩:=Qd6l hl
  cases hv with
  | tup us cs hs hu =>
   refine .tup us ds (hs.trans h1.symm) (fun j u d hj hd=>?_)
   obtain ⟨c,hc,hcd⟩:=h2 j d hd
   exact Q8vp hC hH (N':=N2) (fun b hb=>.inl hb) (ok:=fun _=>True) (fun r b _ hb=>.inr ⟨r,hb⟩) 4 c d u (hu j u c hj hc) hcd (fun _ _=>trivial)
 ·rcases hb with hb | ⟨r,hb⟩
  ·exact hroO b hb
  ·exact .inr (hF r b hb)
end
end Lx
namespace Lx
open Go Go.Proofs
def Qy3z : Ent Ty El:=⟨[.ro,.ro],0,fun a h=>match a,h with
 | [.agg [.sl .kind ks,.sl .point ps,.nils],.agg [.str fl,.int .i64 w,.int .i64 m,.str v]],[] =>
  some (goodB ks ps [] && szV v,.tup [.agg [.sl .kind (takeF ks ps [] ⟨fl,w,m,v⟩).ks,.sl .point (takeF ks ps [] ⟨fl,w,m,v⟩).ps,.sl .entry (takeF ks ps [] ⟨fl,w,m,v⟩).es],.int .i64 (takeF ks ps [] ⟨fl,w,m,v⟩).code],[])
 | _,_=>none⟩
theorem Qiyx : EntOK Tryz.prog CP Q64l Qy3z:=by
 refine ⟨Q7d1.body,fun args H res H' h=>?_⟩
 simp only [Qy3z] at h
 split at h
 ·obtain ⟨hg,rfl,rfl⟩:=eoh h
  refine Qewq.args ((Qzoi _ _ _ _ _ _ _ hg).readTup CP_ok rfl) rfl (fun j x x' hx hx' N w v hv=>?_)
  match j with
  | 0 =>
   simp only [qcZ,qsI] at hx hx'
   subst hx; subst hx'
   refine RepA.aggMono (by rfl) (fun j c d hc hd u hu=>?_) hv
   match j with
   | 0=>simp only [qcZ,qsI] at hc hd; subst hc; subst hd; exact hu
   | 1=>simp only [qcZ,List.getElem?_cons_succ,qsI] at hc hd; subst hc; subst hd; exact hu
   | 2=>simp only [qcZ,List.getElem?_cons_succ,qsI] at hc hd; subst hc; subst hd; exact hu.nilSl _
   | j + 3=>simp at hc
  | 1=>simp only [qcZ,List.getElem?_cons_succ,qsI] at hx hx'; subst hx; subst hx'; exact hv
  | j + 2=>simp at hx
 ·cases h
theorem Qlj2 {ks : List Kind} {ps : List Point} {c : Chg} (h : goodE ks ps [] = true) : ((takeF ks ps [] c).code == 0) = Qs7k ks ps c:=by
 simp only [goodE,qaT] at h
 unfold takeF
 rw [if_pos h.1]
 cases hc : Qs7k ks ps c with
 | true=>rw [if_pos rfl,if_neg (by simp)]; rfl
 | false=>rw [if_neg (by simp)]; rfl
theorem Q92f {s : Str} (h : szS s = true) : szV (readR s).value = true:=by
 have hs:=of_decide_eq_true (show decide (s.length ≤ 1000000000) = true from h)
 unfold readR readF
 split
 ·refine decide_eq_true ?_
  show (List.drop _ s).length ≤ 1000000000
  rw [List.length_drop]; omega
 ·rfl
end Lx
namespace Lx
open Go Go.Proofs
noncomputable def Q6fc : RE Ty El:=⟨Tryz.prog,CP,[(Qs18,Qamt),(Qh2l,Qwxf),(Qvuj,Quoo),(Q64l,Qy3z),(Qfq7,Qvn1),(Qyqz,Qzlv),(Qg3n,Qdux),(Qs3r,Q01i),(Qign,Qzzd)],Tryz.f4,0,[],[]⟩
theorem Qnhx : REOK Q6fc Q7pu:=⟨CP_ok,(TabOK.cons Qszv (TabOK.cons Qg2h (TabOK.cons Q336 (TabOK.cons Qiyx (TabOK.cons Q80o (TabOK.cons Qawc (TabOK.cons Qrmu (TabOK.cons Qkik (TabOK.cons Qcb5 Qye1))))))))),by kernel_rfl,by kernel_rfl⟩
theorem Q99x (c m : List Int) : aRun Q6fc 600 false (body0 Q6fc.fn) (Q4gm Q6fc.fn [.sl .u8 c,.sl .u8 m] []) =
 ifb (decide ((↑c.length : Int) > (1048576 : Int))) (some (.ret (.bool true) [])) (ifb (decide ((↑m.length : Int) > (1048576 : Int))) (some (.ret (.bool true) [])) (ifb (Qf9o c) (ifb (szV (dCok c).c.value) (ifb (szV (dCok c).c.value) (ifb (!(Q2rq (dCok c).c.flight && (inR (dCok c).c.number (1 : Int) (1000000 : Int) && (Qib4 (dCok c).ks (dCok c).ps && fitsV (dCok c).ks (dCok c).ps (dCok c).c.what (dCok c).c.value))) == (Q2rq (dCok c).c.flight && (inR (dCok c).c.number (1 : Int) (1000000 : Int) && (Qib4 (dCok c).ks (dCok c).ps && fitsV (dCok c).ks (dCok c).ps (dCok c).c.what (dCok c).c.value)))) (some (.ret (.bool false) [])) (ifb (goodB (dCok c).ks (dCok c).ps [] && szV (dCok c).c.value) (ifb (!((takeF (dCok c).ks (dCok c).ps [] (dCok c).c).code == 0) == (Q2rq (dCok c).c.flight && (inR (dCok c).c.number (1 : Int) (1000000 : Int) && (Qib4 (dCok c).ks (dCok c).ps && fitsV (dCok c).ks (dCok c).ps (dCok c).c.what (dCok c).c.value)))) (some (.ret (.bool false) [])) (ifb (szV (dCok c).c.value) (ifb (szS (formF (dCok c).c)) (ifb (Q2rq (dCok c).c.flight && (inR (dCok c).c.number (1 : Int) (1000000 : Int) && (Qib4 (dCok c).ks (dCok c).ps && fitsV (dCok c).ks (dCok c).ps (dCok c).c.what (dCok c).c.value))) (ifb (formF (dCok c).c == #[].toList) (some (.ret (.bool false) [])) (ifb (!(readF (formF (dCok c).c)).isSome == !formF (dCok c).c == #[].toList) (some (.ret (.bool false) [])) (ifb ((readF (formF (dCok c).c)).isSome) (ifb (!((readR (formF (dCok c).c)).flight == (dCok c).c.flight && ((readR (formF (dCok c).c)).what == (dCok c).c.what && ((readR (formF (dCok c).c)).number == (dCok c).c.number && ((readR (formF (dCok c).c)).value == (dCok c).c.value && true))))) (some (.ret (.bool false) [])) (ifb (szV (dCok c).c.value) (ifb (!formF (dCok c).c == formF (dCok c).c) (some (.ret (.bool false) [])) (ifb (Qf9o m) (ifb (szS (dRead m).s) (ifb (szS (dRead m).s) (ifb ((readF (dRead m).s).isSome == (readF (dRead m).s).isSome) (ifb ((readR (dRead m).s).flight == (readR (dRead m).s).flight && ((readR (dRead m).s).what == (readR (dRead m).s).what && ((readR (dRead m).s).number == (readR (dRead m).s).number && ((readR (dRead m).s).value == (readR (dRead m).s).value && true)))) (ifb (!(readF (dRead m).s).isSome) (some (.ret (.bool true) [])) (ifb (szV (readR (dRead m).s).value) (some (.ret (.bool (formF (readR (dRead m).s) == (dRead m).s)) [])) (none))) (some (.ret (.bool false) []))) (some (.ret (.bool false) []))) (none)) (none)) (none))) (none))) (ifb (szV (dCok c).c.value) (ifb (!formF (dCok c).c == formF (dCok c).c) (some (.ret (.bool false) [])) (ifb (Qf9o m) (ifb (szS (dRead m).s) (ifb (szS (dRead m).s) (ifb ((readF (dRead m).s).isSome == (readF (dRead m).s).isSome) (ifb ((readR (dRead m).s).flight == (readR (dRead m).s).flight && ((readR (dRead m).s).what == (readR (dRead m).s).what && ((readR (dRead m).s).number == (readR (dRead m).s).number && ((readR (dRead m).s).value == (readR (dRead m).s).value && true)))) (ifb (!(readF (dRead m).s).isSome) (some (.ret (.bool true) [])) (ifb (szV (readR (dRead m).s).value) (some (.ret (.bool (formF (readR (dRead m).s) == (dRead m).s)) [])) (none))) (some (.ret (.bool false) []))) (some (.ret (.bool false) []))) (none)) (none)) (none))) (none))))) (ifb (!(readF (formF (dCok c).c)).isSome == !formF (dCok c).c == #[].toList) (some (.ret (.bool false) [])) (ifb ((readF (formF (dCok c).c)).isSome) (ifb (!((readR (formF (dCok c).c)).flight == (dCok c).c.flight && ((readR (formF (dCok c).c)).what == (dCok c).c.what && ((readR (formF (dCok c).c)).number == (dCok c).c.number && ((readR (formF (dCok c).c)).value == (dCok c).c.value && true))))) (some (.ret (.bool false) [])) (ifb (szV (dCok c).c.value) (ifb (!formF (dCok c).c == formF (dCok c).c) (some (.ret (.bool false) [])) (ifb (Qf9o m) (ifb (szS (dRead m).s) (ifb (szS (dRead m).s) (ifb ((readF (dRead m).s).isSome == (readF (dRead m).s).isSome) (ifb ((readR (dRead m).s).flight == (readR (dRead m).s).flight && ((readR (dRead m).s).what == (readR (dRead m).s).what && ((readR (dRead m).s).number == (readR (dRead m).s).number && ((readR (dRead m).s).value == (readR (dRead m).s).value && true)))) (ifb (!(readF (dRead m).s).isSome) (some (.ret (.bool true) [])) (ifb (szV (readR (dRead m).s).value) (some (.ret (.bool (formF (readR (dRead m).s) == (dRead m).s)) [])) (none))) (some (.ret (.bool false) []))) (some (.ret (.bool false) []))) (none)) (none)) (none))) (none))) (ifb (szV (dCok c).c.value) (ifb (!formF (dCok c).c == formF (dCok c).c) (some (.ret (.bool false) [])) (ifb (Qf9o m) (ifb (szS (dRead m).s) (ifb (szS (dRead m).s) (ifb ((readF (dRead m).s).isSome == (readF (dRead m).s).isSome) (ifb ((readR (dRead m).s).flight == (readR (dRead m).s).flight && ((readR (dRead m).s).what == (readR (dRead m).s).what && ((readR (dRead m).s).number == (readR (dRead m).s).number && ((readR (dRead m).s).value == (readR (dRead m).s).value && true)))) (ifb (!(readF (dRead m).s).isSome) (some (.ret (.bool true) [])) (ifb (szV (readR (dRead m).s).value) (some (.ret (.bool (formF (readR (dRead m).s) == (dRead m).s)) [])) (none))) (some (.ret (.bool false) []))) (some (.ret (.bool false) []))) (none)) (none)) (none))) (none))))) (none)) (none))) (none))) (none)) (none)) (none))):=by kernel_rfl
theorem Qoca (c m : List Int) (hg : (Qf9o c && Qf9o m) = true) : Qewq Tryz.prog CP Q7pu [.sl .u8 c,.sl .u8 m] [] (.bool true) []:=by
 refine Qewq.of Qnhx (by kernel_rfl) (Q99x c m) ?_
 simp only [qaT] at hg
 obtain ⟨hc,hm⟩:=hg
 obtain ⟨g1,g2⟩:=(Q1qt c hc).2
 have g3 : szS (dRead m).s = true:=(Qjhs m hm).2
 have z1 : szV (dCok c).c.value = true:=decide_eq_true (by omega)
 have ge:=Qkew g1
 have tc:=Qlj2 (c:=(dCok c).c) ge
 simp only [goodE,qaT] at ge
 have z3 : szS (formF (dCok c).c) = true:=Qtuu (Nat.le_trans Q3ih (by omega))
 have z4:=Q92f g3
 have fr : ∀ x,readF (dRead m).s = some x → formF x = (dRead m).s:=fun x h=>Q184 h
 have ok:=Qfpc (ks:=(dCok c).ks) (ps:=(dCok c).ps) (c:=(dCok c).c)
 rw [hc,hm]
 cases h1 : decide ((c.length : Int) > 1048576) with
 | true=>exact Sat.ret rfl rfl
 | false =>
 cases h2 : decide ((m.length : Int) > 1048576) with
 | true=>exact Sat.ret rfl rfl
 | false =>
 generalize hk : (Q2rq (dCok c).c.flight && (inR (dCok c).c.number (1 : Int) (1000000 : Int) && (Qib4 (dCok c).ks (dCok c).ps && fitsV (dCok c).ks (dCok c).ps (dCok c).c.what (dCok c).c.value))) = k
 have hk' : Qs7k (dCok c).ks (dCok c).ps (dCok c).c = k:=hk
 rw [hk'] at ok tc
 have hrs : ∀ x,readF (dRead m).s = some x → readR (dRead m).s = x:=fun x h=>by rw [readR,h]; rfl
 generalize readF (dRead m).s = rs at *
 generalize readR (dRead m).s = rr at *
 generalize (dRead m).s = s at *
 generalize dCok c = z at *
 have tl : Sat Q6fc Q7pu (.bool true) [] (ifb (!rs.isSome) (some (.ret (.bool true) [])) (some (.ret (.bool (formF rr == s)) []))):=by
  cases rs with
  | none=>exact Sat.ret rfl rfl
  | some x =>
   have e : rr = x:=hrs x rfl
   rw [e,fr x rfl]
   simp only [Option.isSome_some,Bool.not_true,Qk7y,beq_self_eq_true]
   exact Sat.ret rfl rfl
 simp only [z1,ge.2,z3,g3,z4,tc,Bool.and_self,beq_self_eq_true,Bool.not_true,Qd8q,Qk7y]
 cases hf : Qenx z.c with
 | true =>
  have e1:=Qkx5 hf
  have e2 : (formF z.c == #[].toList) = false:=beq_eq_false_iff_ne.2 (Qu52.2 hf)
  simp only [readR,e1,e2,Option.isSome_some,Option.getD_some,beq_self_eq_true,Bool.not_true,Bool.not_false,Bool.and_self,Qd8q,Qk7y]
  cases k <;> exact tl
 | false =>
  have hk0 : k = false:=by cases k with | false=>rfl | true=>rw [ok rfl] at hf; cases hf
  subst hk0
  have e0 : formF z.c = []:=if_neg (by rw [hf]; simp)
  simp only [readR,e0,Qyn4,Option.isSome_none,beq_self_eq_true,Bool.not_true,Bool.not_false,Bool.and_self,Qd8q,Qk7y]
  exact tl
end Lx
