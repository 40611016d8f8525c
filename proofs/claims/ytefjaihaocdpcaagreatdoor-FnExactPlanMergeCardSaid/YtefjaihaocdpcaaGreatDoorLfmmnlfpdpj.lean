/- The small functions, each with its contract. -/
import Derived.Shelf.Strings.Split
import Derived.Shelf.Strconv.Atoi
import Derived.Shelf.Strings.Trim
import Derived.Shelf.Strings.Count
import Derived.Test.YtefjaihaocdpcaaGreatDoorProg
import Derived.KernelRfl
import Derived.Lib.SlTrimSet
import Derived.Lib.Atoi
import Derived.Shelf.Strings.SlTrimAscii
import Derived.Test.YtefjaihaocdpcaaGreatDoorLjejajnfonc
set_option linter.unusedVariables false
set_option linter.unusedSimpArgs false
set_option maxRecDepth 4000
namespace Lx
open Go Go.Proofs
noncomputable def Qm4u : RE Ty El:=⟨Tryz.prog,CP,[],Tryz.f99,0,[],[(4,[(0,.any),(3,.any)])]⟩
theorem Qumb : REOK Qm4u Q9ho:=⟨CP_ok,Qye1,by kernel_rfl,by kernel_rfl⟩
theorem Qkmz (s : Str) : aRun Qm4u 600 false (body0 Qm4u.fn) (Q4gm Qm4u.fn [.str s] []) =
 ifb (decide ((↑(List.length s) : Int) < (1 : Int))) (some (.ret (.bool false) [])) (ifb (decide ((↑(List.length s) : Int) > (8 : Int))) (some (.ret (.bool false) [])) (some (.go (Qu6t Qm4u.fn 4) [.str s,.int .i64 (0 : Int)] []))):=by kernel_rfl
theorem Q1bs (x0 : Str) (x1 : Int) : aRun Qm4u 600 true (Qu6t Qm4u.fn 4) (cutSt Qm4u.fn (Q1m4 Qm4u (Qu6t Qm4u.fn 4)) [.str x0,.int .i64 x1] []) =
 ifb (decide (x1 < (↑(List.length x0) : Int))) (ifb (inb x1 (List.length x0)) (ifb (decide ((↑(List.getD x0 x1.toNat (0 : UInt8)).toNat : Int) ≥ (97 : Int))) (ifb (decide ((↑(List.getD x0 x1.toNat (0 : UInt8)).toNat : Int) ≤ (122 : Int))) (some (.go (Qu6t Qm4u.fn 4) [.str x0,.int .i64 (IntKind.i64.wrap (x1 + (1 : Int)))] [])) (ifb (decide ((↑(List.getD x0 x1.toNat (0 : UInt8)).toNat : Int) ≥ (48 : Int))) (ifb (decide ((↑(List.getD x0 x1.toNat (0 : UInt8)).toNat : Int) ≤ (57 : Int))) (some (.go (Qu6t Qm4u.fn 4) [.str x0,.int .i64 (IntKind.i64.wrap (x1 + (1 : Int)))] [])) (ifb (!(↑(List.getD x0 x1.toNat (0 : UInt8)).toNat : Int) == (45 : Int)) (some (.ret (.bool false) [])) (some (.go (Qu6t Qm4u.fn 4) [.str x0,.int .i64 (IntKind.i64.wrap (x1 + (1 : Int)))] [])))) (ifb (!(↑(List.getD x0 x1.toNat (0 : UInt8)).toNat : Int) == (45 : Int)) (some (.ret (.bool false) [])) (some (.go (Qu6t Qm4u.fn 4) [.str x0,.int .i64 (IntKind.i64.wrap (x1 + (1 : Int)))] []))))) (ifb (decide ((↑(List.getD x0 x1.toNat (0 : UInt8)).toNat : Int) ≥ (48 : Int))) (ifb (decide ((↑(List.getD x0 x1.toNat (0 : UInt8)).toNat : Int) ≤ (57 : Int))) (some (.go (Qu6t Qm4u.fn 4) [.str x0,.int .i64 (IntKind.i64.wrap (x1 + (1 : Int)))] [])) (ifb (!(↑(List.getD x0 x1.toNat (0 : UInt8)).toNat : Int) == (45 : Int)) (some (.ret (.bool false) [])) (some (.go (Qu6t Qm4u.fn 4) [.str x0,.int .i64 (IntKind.i64.wrap (x1 + (1 : Int)))] [])))) (ifb (!(↑(List.getD x0 x1.toNat (0 : UInt8)).toNat : Int) == (45 : Int)) (some (.ret (.bool false) [])) (some (.go (Qu6t Qm4u.fn 4) [.str x0,.int .i64 (IntKind.i64.wrap (x1 + (1 : Int)))] []))))) (none)) (some (.ret (.bool true) [])):=by kernel_rfl
theorem Qv0o (s : Str) (hs : s.length ≤ 8) : ∀ (d i : Nat),i + d = s.length → Cut Qm4u Q9ho 4 [.str s,.int .i64 (i : Int)] [] (.bool ((s.drop i).all nameB)) []:=by
 intro d
 induction d with
 | zero =>
  intro i hi
  refine Cut.of Qumb rfl (Q1bs s i) ?_
  refine Sat.ifb (fun h=>?_) (fun h=>?_)
  ·simp at h; omega
  ·refine Sat.ret ?_ rfl
   rw [List.drop_of_length_le (by omega)]; rfl
 | succ d ih =>
  intro i hi
  refine Cut.of Qumb rfl (Q1bs s i) ?_
  have hlt : i < s.length:=by omega
  have hw : IntKind.wrap .i64 ((i : Int) + 1) = ((i + 1 : Nat) : Int):=by rw [Qbrg] <;> omega
  rw [hw]
  have hd : s.drop i = s.getD i 0 :: s.drop (i + 1):=by rw [List.drop_eq_getElem_cons hlt]; simp [hlt]
  have hgo : nameB (s.getD i 0) = true → Sat Qm4u Q9ho (.bool ((s.drop i).all nameB)) [] (some (.go (Qu6t Qm4u.fn 4) [.str s,.int .i64 ((i + 1 : Nat) : Int)] [])):=fun h=>by
   refine Sat.cut ?_
   rw [hd,List.all_cons,h,Bool.true_and]
   exact ih (i + 1) (by omega)
  have hno : nameB (s.getD i 0) = false → Sat Qm4u Q9ho (.bool ((s.drop i).all nameB)) [] (some (.ret (.bool false) [])):=fun h=>by
   refine Sat.ret ?_ rfl
   rw [hd,List.all_cons,h,Bool.false_and]
  rw [show ((i : Int).toNat) = i from Int.toNat_natCast i]
  generalize s.getD i 0 = b at *
  repeat' (first | (refine Sat.ifb (fun h=>?_) (fun h=>?_)) | (apply hgo; simp_all [nameB]; done) | (apply hno; simp_all [nameB]; done) | (apply hno; simp_all [nameB]; omega) | (apply hgo; simp_all [nameB]; omega))
  all_goals (simp_all [inb]; try omega)
theorem Qgu5 (s : Str) : Qewq Tryz.prog CP Q9ho [.str s] [] (.bool (Q2rq s)) []:=by
 refine Qewq.of Qumb (by kernel_rfl) (Qkmz s) ?_
 refine Sat.ifb (fun h=>?_) (fun h=>?_)
 ·refine Sat.retB ?_ rfl
  have : ¬ 1 ≤ s.length:=by simp at h; omega
  simp [Q2rq,this]
 ·refine Sat.ifb (fun h2=>?_) (fun h2=>?_)
  ·refine Sat.retB ?_ rfl
   have : ¬ s.length ≤ 8:=by simp at h2; omega
   simp [Q2rq,this]
  ·have h8 : s.length ≤ 8:=by simp at h2; omega
   have h1 : 1 ≤ s.length:=by simp at h; omega
   have:=Qv0o s h8 s.length 0 (by omega)
   rw [show Q2rq s = (s.drop 0).all nameB by simp [Q2rq,h8,h1]]
   exact Sat.cut this
theorem Q8k7 : EntOK Tryz.prog CP Q9ho Qcc2:=by
 refine ⟨⟨Tryz.f99,by kernel_rfl,by kernel_rfl,by kernel_rfl⟩,fun args H res H' h=>?_⟩
 simp only [Qcc2] at h
 split at h
 ·simp only [Option.some.injEq,Prod.mk.injEq] at h
  obtain ⟨hg,rfl,rfl⟩:=h
  exact Qgu5 _
 ·cases h

noncomputable def Qitp : RE Ty El:=⟨Tryz.prog,CP,[],Tryz.f100,0,[],[]⟩
theorem Qvq5 : REOK Qitp Qn2h:=⟨CP_ok,Qye1,by kernel_rfl,by kernel_rfl⟩
theorem Qur3 (x y z : Int) : aRun Qitp 600 false (body0 Qitp.fn) (Q4gm Qitp.fn [.int .i64 x,.int .i64 y,.int .i64 z] []) =
 ifb (decide (x ≥ y)) (some (.ret (.bool (decide (x ≤ z))) [])) (some (.ret (.bool false) [])):=by kernel_rfl
theorem Qwra (x y z : Int) : Qewq Tryz.prog CP Qn2h [.int .i64 x,.int .i64 y,.int .i64 z] [] (.bool (inR x y z)) []:=by
 refine Qewq.of Qvq5 (by kernel_rfl) (Qur3 x y z) ?_
 repeat' (first | (refine Sat.ifb (fun h=>?_) (fun h=>?_)) | (refine Sat.retB ?_ rfl; simp_all [inR]; done) | (refine Sat.retI ?_ rfl; simp_all [inR]; done))
 all_goals (first | (refine Sat.no ?_; simp_all; done) | (refine Sat.no ?_; simp_all; omega) | (refine Sat.retB ?_ rfl; simp_all [inR]; omega) | (refine Sat.retI ?_ rfl; simp_all [inR]; omega))
theorem Qfgu : EntOK Tryz.prog CP Qn2h Q0vx:=by
 refine ⟨⟨Tryz.f100,by kernel_rfl,by kernel_rfl,by kernel_rfl⟩,fun args H res H' h=>?_⟩
 simp only [Q0vx] at h
 split at h
 ·simp only [Option.some.injEq,Prod.mk.injEq] at h
  obtain ⟨hg,rfl,rfl⟩:=h
  exact Qwra _ _ _
 ·cases h

noncomputable def Qz3j : RE Ty El:=⟨Tryz.prog,CP,[],Tryz.f95,0,[],[]⟩
theorem Qji3 : REOK Qz3j Qyp5:=⟨CP_ok,Qye1,by kernel_rfl,by kernel_rfl⟩
theorem Qwxu (x y z : Int) : aRun Qz3j 600 false (body0 Qz3j.fn) (Q4gm Qz3j.fn [.int .i64 x,.int .i64 y,.int .i64 z] []) =
 ifb (decide (x ≥ y)) (some (.ret (.bool (decide (x ≤ z))) [])) (some (.ret (.bool false) [])):=by kernel_rfl
theorem Qiyz (x y z : Int) : Qewq Tryz.prog CP Qyp5 [.int .i64 x,.int .i64 y,.int .i64 z] [] (.bool (inR x y z)) []:=by
 refine Qewq.of Qji3 (by kernel_rfl) (Qwxu x y z) ?_
 repeat' (first | (refine Sat.ifb (fun h=>?_) (fun h=>?_)) | (refine Sat.retB ?_ rfl; simp_all [inR]; done) | (refine Sat.retI ?_ rfl; simp_all [inR]; done))
 all_goals (first | (refine Sat.no ?_; simp_all; done) | (refine Sat.no ?_; simp_all; omega) | (refine Sat.retB ?_ rfl; simp_all [inR]; omega) | (refine Sat.retI ?_ rfl; simp_all [inR]; omega))
theorem Qzgd : EntOK Tryz.prog CP Qyp5 Qc4s:=by
 refine ⟨⟨Tryz.f95,by kernel_rfl,by kernel_rfl,by kernel_rfl⟩,fun args H res H' h=>?_⟩
 simp only [Qc4s,Q0vx] at h
 split at h
 ·simp only [Option.some.injEq,Prod.mk.injEq] at h
  obtain ⟨hg,rfl,rfl⟩:=h
  exact Qiyz _ _ _
 ·cases h

noncomputable def Qns9 : RE Ty El:=⟨Tryz.prog,CP,[(Qyp5,Qc4s)],Tryz.f94,0,[],[(4,[(0,.any),(3,.any)])]⟩
theorem Qgec : REOK Qns9 Qnn1:=⟨CP_ok,(TabOK.cons Qzgd Qye1),by kernel_rfl,by kernel_rfl⟩
theorem Q05c (s : Str) : aRun Qns9 600 false (body0 Qns9.fn) (Q4gm Qns9.fn [.str s] []) =
 ifb (!inR (↑(List.length s) : Int) (1 : Int) (8 : Int)) (some (.ret (.bool false) [])) (some (.go (Qu6t Qns9.fn 4) [.str s,.int .i64 (0 : Int)] [])):=by kernel_rfl
theorem Qc6f (x0 : Str) (x1 : Int) : aRun Qns9 600 true (Qu6t Qns9.fn 4) (cutSt Qns9.fn (Q1m4 Qns9 (Qu6t Qns9.fn 4)) [.str x0,.int .i64 x1] []) =
 ifb (decide (x1 < (↑(List.length x0) : Int))) (ifb (inb x1 (List.length x0)) (ifb (decide ((↑(List.getD x0 x1.toNat (0 : UInt8)).toNat : Int) ≥ (97 : Int))) (ifb (decide ((↑(List.getD x0 x1.toNat (0 : UInt8)).toNat : Int) ≤ (122 : Int))) (some (.go (Qu6t Qns9.fn 4) [.str x0,.int .i64 (IntKind.i64.wrap (x1 + (1 : Int)))] [])) (ifb (decide ((↑(List.getD x0 x1.toNat (0 : UInt8)).toNat : Int) ≥ (48 : Int))) (ifb (decide ((↑(List.getD x0 x1.toNat (0 : UInt8)).toNat : Int) ≤ (57 : Int))) (some (.go (Qu6t Qns9.fn 4) [.str x0,.int .i64 (IntKind.i64.wrap (x1 + (1 : Int)))] [])) (ifb (!(↑(List.getD x0 x1.toNat (0 : UInt8)).toNat : Int) == (45 : Int)) (some (.ret (.bool false) [])) (some (.go (Qu6t Qns9.fn 4) [.str x0,.int .i64 (IntKind.i64.wrap (x1 + (1 : Int)))] [])))) (ifb (!(↑(List.getD x0 x1.toNat (0 : UInt8)).toNat : Int) == (45 : Int)) (some (.ret (.bool false) [])) (some (.go (Qu6t Qns9.fn 4) [.str x0,.int .i64 (IntKind.i64.wrap (x1 + (1 : Int)))] []))))) (ifb (decide ((↑(List.getD x0 x1.toNat (0 : UInt8)).toNat : Int) ≥ (48 : Int))) (ifb (decide ((↑(List.getD x0 x1.toNat (0 : UInt8)).toNat : Int) ≤ (57 : Int))) (some (.go (Qu6t Qns9.fn 4) [.str x0,.int .i64 (IntKind.i64.wrap (x1 + (1 : Int)))] [])) (ifb (!(↑(List.getD x0 x1.toNat (0 : UInt8)).toNat : Int) == (45 : Int)) (some (.ret (.bool false) [])) (some (.go (Qu6t Qns9.fn 4) [.str x0,.int .i64 (IntKind.i64.wrap (x1 + (1 : Int)))] [])))) (ifb (!(↑(List.getD x0 x1.toNat (0 : UInt8)).toNat : Int) == (45 : Int)) (some (.ret (.bool false) [])) (some (.go (Qu6t Qns9.fn 4) [.str x0,.int .i64 (IntKind.i64.wrap (x1 + (1 : Int)))] []))))) (none)) (some (.ret (.bool true) [])):=by kernel_rfl
theorem Qllp (s : Str) (hs : s.length ≤ 8) : ∀ (d i : Nat),i + d = s.length → Cut Qns9 Qnn1 4 [.str s,.int .i64 (i : Int)] [] (.bool ((s.drop i).all nameB)) []:=by
 intro d
 induction d with
 | zero =>
  intro i hi
  refine Cut.of Qgec rfl (Qc6f s i) ?_
  refine Sat.ifb (fun h=>?_) (fun h=>?_)
  ·simp at h; omega
  ·refine Sat.ret ?_ rfl
   rw [List.drop_of_length_le (by omega)]; rfl
 | succ d ih =>
  intro i hi
  refine Cut.of Qgec rfl (Qc6f s i) ?_
  have hlt : i < s.length:=by omega
  have hw : IntKind.wrap .i64 ((i : Int) + 1) = ((i + 1 : Nat) : Int):=by rw [Qbrg] <;> omega
  rw [hw]
  have hd : s.drop i = s.getD i 0 :: s.drop (i + 1):=by rw [List.drop_eq_getElem_cons hlt]; simp [hlt]
  have hgo : nameB (s.getD i 0) = true → Sat Qns9 Qnn1 (.bool ((s.drop i).all nameB)) [] (some (.go (Qu6t Qns9.fn 4) [.str s,.int .i64 ((i + 1 : Nat) : Int)] [])):=fun h=>by
   refine Sat.cut ?_
   rw [hd,List.all_cons,h,Bool.true_and]
   exact ih (i + 1) (by omega)
  have hno : nameB (s.getD i 0) = false → Sat Qns9 Qnn1 (.bool ((s.drop i).all nameB)) [] (some (.ret (.bool false) [])):=fun h=>by
   refine Sat.ret ?_ rfl
   rw [hd,List.all_cons,h,Bool.false_and]
  rw [show ((i : Int).toNat) = i from Int.toNat_natCast i]
  generalize s.getD i 0 = b at *
  repeat' (first | (refine Sat.ifb (fun h=>?_) (fun h=>?_)) | (apply hgo; simp_all [nameB]; done) | (apply hno; simp_all [nameB]; done) | (apply hno; simp_all [nameB]; omega) | (apply hgo; simp_all [nameB]; omega))
  all_goals (simp_all [inb]; try omega)
theorem Qa4a (s : Str) : Qewq Tryz.prog CP Qnn1 [.str s] [] (.bool (Q2rq s)) []:=by
 refine Qewq.of Qgec (by kernel_rfl) (Q05c s) ?_
 refine Sat.ifb (fun h=>?_) (fun h=>?_)
 ·refine Sat.retB ?_ rfl
  simp [inR] at h
  by_cases h1 : 1 ≤ s.length
  ·have : ¬ s.length ≤ 8:=by omega
   simp [Q2rq,this]
  ·simp [Q2rq,h1]
 ·simp [inR] at h
  have h8 : s.length ≤ 8:=by omega
  have h1 : 1 ≤ s.length:=by omega
  have:=Qllp s h8 s.length 0 (by omega)
  rw [show Q2rq s = (s.drop 0).all nameB by simp [Q2rq,h8,h1]]
  exact Sat.cut this
theorem Q7n8 : EntOK Tryz.prog CP Qnn1 Q4bc:=by
 refine ⟨⟨Tryz.f94,by kernel_rfl,by kernel_rfl,by kernel_rfl⟩,fun args H res H' h=>?_⟩
 simp only [Q4bc,Qcc2] at h
 split at h
 ·simp only [Option.some.injEq,Prod.mk.injEq] at h
  obtain ⟨hg,rfl,rfl⟩:=h
  exact Qa4a _
 ·cases h

noncomputable def Qloh : RE Ty El:=⟨Tryz.prog,CP,[],Tryz.f189,0,[],[]⟩
theorem Qhti : REOK Qloh Qz6m:=⟨CP_ok,Qye1,by kernel_rfl,by kernel_rfl⟩
theorem Q289 (s : Str) (x y : Int) (n : Str) : aRun Qloh 600 false (body0 Qloh.fn) (Q4gm Qloh.fn [.agg [.str s,.int .i64 x,.int .i64 y],.rop [.str n] 0] []) =
 some (.ret (.bool (s == n)) []):=by kernel_rfl
theorem Qkyi (s : Str) (x y : Int) (n : Str) : Qewq Tryz.prog CP Qz6m [.agg [.str s,.int .i64 x,.int .i64 y],.rop [.str n] 0] [] (.bool (s == n)) []:=by
 refine Qewq.of Qhti (by kernel_rfl) (Q289 s x y n) ?_
 repeat' (first | (refine Sat.ifb (fun h=>?_) (fun h=>?_)) | (refine Sat.retB ?_ rfl; simp_all []; done) | (refine Sat.retI ?_ rfl; simp_all []; done))
 all_goals (first | (refine Sat.no ?_; simp_all; done) | (refine Sat.no ?_; simp_all; omega) | (refine Sat.retB ?_ rfl; simp_all []; omega) | (refine Sat.retI ?_ rfl; simp_all []; omega))
theorem Qkhx : EntOK Tryz.prog CP Qz6m Qofd:=by
 refine ⟨⟨Tryz.f189,by kernel_rfl,by kernel_rfl,by kernel_rfl⟩,fun args H res H' h=>?_⟩
 simp only [Qofd] at h
 split at h
 ·simp only [Option.some.injEq,Prod.mk.injEq] at h
  obtain ⟨hg,rfl,rfl⟩:=h
  exact Qkyi _ _ _ _
 ·cases h

noncomputable def Qbrp : RE Ty El:=⟨Tryz.prog,CP,[],Tryz.f228,0,[],[]⟩
theorem Qe0e : REOK Qbrp Qgz8:=⟨CP_ok,Qye1,by kernel_rfl,by kernel_rfl⟩
theorem Qq2w (s : Str) (x y : Int) (n : Str) : aRun Qbrp 600 false (body0 Qbrp.fn) (Q4gm Qbrp.fn [.agg [.str s,.int .i64 x,.int .i64 y],.rop [.str n] 0] []) =
 some (.ret (.bool (s == n)) []):=by kernel_rfl
theorem Qqmh (s : Str) (x y : Int) (n : Str) : Qewq Tryz.prog CP Qgz8 [.agg [.str s,.int .i64 x,.int .i64 y],.rop [.str n] 0] [] (.bool (s == n)) []:=by
 refine Qewq.of Qe0e (by kernel_rfl) (Qq2w s x y n) ?_
 repeat' (first | (refine Sat.ifb (fun h=>?_) (fun h=>?_)) | (refine Sat.retB ?_ rfl; simp_all []; done) | (refine Sat.retI ?_ rfl; simp_all []; done))
 all_goals (first | (refine Sat.no ?_; simp_all; done) | (refine Sat.no ?_; simp_all; omega) | (refine Sat.retB ?_ rfl; simp_all []; omega) | (refine Sat.retI ?_ rfl; simp_all []; omega))
theorem Qf2l : EntOK Tryz.prog CP Qgz8 Qnmw:=by
 refine ⟨⟨Tryz.f228,by kernel_rfl,by kernel_rfl,by kernel_rfl⟩,fun args H res H' h=>?_⟩
 simp only [Qnmw,Qofd] at h
 split at h
 ·simp only [Option.some.injEq,Prod.mk.injEq] at h
  obtain ⟨hg,rfl,rfl⟩:=h
  exact Qqmh _ _ _ _
 ·cases h

noncomputable def Qly4 : RE Ty El:=⟨Tryz.prog,CP,[],Tryz.f230,0,[],[]⟩
theorem Qe7d : REOK Qly4 Qzot:=⟨CP_ok,Qye1,by kernel_rfl,by kernel_rfl⟩
theorem Q1xr (s : Str) (fs : List Fld) (n : Str) : aRun Qly4 600 false (body0 Qly4.fn) (Q4gm Qly4.fn [.agg [.str s,.sl .fld fs],.rop [.str n] 0] []) =
 some (.ret (.bool (s == n)) []):=by kernel_rfl
theorem Q33d (s : Str) (fs : List Fld) (n : Str) : Qewq Tryz.prog CP Qzot [.agg [.str s,.sl .fld fs],.rop [.str n] 0] [] (.bool (s == n)) []:=by
 refine Qewq.of Qe7d (by kernel_rfl) (Q1xr s fs n) ?_
 repeat' (first | (refine Sat.ifb (fun h=>?_) (fun h=>?_)) | (refine Sat.retB ?_ rfl; simp_all []; done) | (refine Sat.retI ?_ rfl; simp_all []; done))
 all_goals (first | (refine Sat.no ?_; simp_all; done) | (refine Sat.no ?_; simp_all; omega) | (refine Sat.retB ?_ rfl; simp_all []; omega) | (refine Sat.retI ?_ rfl; simp_all []; omega))
theorem Q2e1 : EntOK Tryz.prog CP Qzot Qf0f:=by
 refine ⟨⟨Tryz.f230,by kernel_rfl,by kernel_rfl,by kernel_rfl⟩,fun args H res H' h=>?_⟩
 simp only [Qf0f] at h
 split at h
 ·simp only [Option.some.injEq,Prod.mk.injEq] at h
  obtain ⟨hg,rfl,rfl⟩:=h
  exact Q33d _ _ _
 ·cases h

noncomputable def Qgbp : RE Ty El:=⟨Tryz.prog,CP,[(Qz6m,Qofd)],Tryz.f188,0,[],[(2,[(0,.any),(1,.any),(7,.any),(8,.any)])]⟩
theorem Q95k : REOK Qgbp Q5fl:=⟨CP_ok,(TabOK.cons Qkhx Qye1),by kernel_rfl,by kernel_rfl⟩
theorem Qelx (ps : List Point) (n : Str) : aRun Qgbp 600 false (body0 Qgbp.fn) (Q4gm Qgbp.fn [.sl .point ps,.fn (.func Qz6m) [.rop [.str n] 0]] []) =
 some (.go (Qu6t Qgbp.fn 2) [.sl .point ps,.fn (Fn.func Qz6m) [.rop [.str n] 0],.int .i64 (↑ps.length : Int),.int .i64 (0 : Int)] []):=by kernel_rfl
theorem Qq43 (x0 : List (El .point)) (x1 : Str) (x2 : Int) (x3 : Int) : aRun Qgbp 600 true (Qu6t Qgbp.fn 2) (cutSt Qgbp.fn (Q1m4 Qgbp (Qu6t Qgbp.fn 2)) [.sl .point x0,.fn (Fn.func Qz6m) [.rop [.str x1] 0],.int .i64 x2,.int .i64 x3] []) =
 ifb (decide (x3 < x2)) (ifb (inb x3 x0.length) (ifb ((x0.getD x3.toNat (Qgbp.C.dflt Ty.point)).name == x1) (some (.ret (.int .i64 x3) [])) (some (.go (Qu6t Qgbp.fn 2) [.sl .point x0,.fn (Fn.func Qz6m) [.rop [.str x1] 0],.int .i64 x2,.int .i64 (IntKind.i64.wrap (x3 + (1 : Int)))] []))) (none)) (some (.ret (.int .i64 (-1 : Int)) [])):=by kernel_rfl
theorem Q9fj (ps : List Point) (n : Str) (hl : ps.length < 1000000000) : ∀ (d i : Nat),i + d = ps.length → (∀ k,k < i → ∀ x,ps[k]? = some x → (x.name == n) = false) → Cut Qgbp Q5fl 2 [.sl .point ps,.fn (.func Qz6m) [.rop [.str n] 0],.int .i64 (ps.length : Int),.int .i64 (i : Int)] [] (.int .i64 (idxF (fun p=>p.name == n) ps)) []:=by
 intro d
 induction d with
 | zero =>
  intro i hi hno
  refine Cut.of Q95k rfl (Qq43 ps n ps.length i) ?_
  refine Sat.ifb (fun h=>?_) (fun h=>?_)
  ·simp at h; omega
  ·exact Sat.retI (Q1uv (fun k x hk=>hno k (by have:=(List.getElem?_eq_some_iff.1 hk).1; omega) x hk)).symm rfl
 | succ d ih =>
  intro i hi hno
  refine Cut.of Q95k rfl (Qq43 ps n ps.length i) ?_
  have hlt : i < ps.length:=by omega
  have hw : IntKind.wrap .i64 ((i : Int) + 1) = ((i + 1 : Nat) : Int):=by rw [Qbrg] <;> omega
  rw [hw]
  have hd : ps.getD (i : Int).toNat (Qgbp.C.dflt .point) = ps[i]:=by simp [hlt]
  rw [hd]
  refine Sat.ifb (fun h=>?_) (fun h=>?_)
  ·refine Sat.ifb (fun h2=>?_) (fun h2=>?_)
   ·refine Sat.ifb (fun h3=>?_) (fun h3=>?_)
    ·exact Sat.retI (Qjgx (List.getElem?_eq_getElem hlt) h3 hno).symm rfl
    ·refine Sat.cut (ih (i + 1) (by omega) fun k hk x hx=>?_)
     by_cases hki : k = i
     ·subst hki
      rw [List.getElem?_eq_getElem hlt] at hx
      obtain rfl:=Option.some.inj hx
      exact h3
     ·exact hno k (by omega) x hx
   ·simp [inb] at h2; omega
  ·simp at h; omega
theorem Qsc1 (ps : List Point) (n : Str) (hg : decide (ps.length < 1000000000) = true) : Qewq Tryz.prog CP Q5fl [.sl .point ps,.fn (.func Qz6m) [.rop [.str n] 0]] [] (.int .i64 (idxF (fun p=>p.name == n) ps)) []:=by
 refine Qewq.of Q95k (by kernel_rfl) (Qelx ps n) ?_
 exact Sat.cut (Q9fj ps n (of_decide_eq_true hg) ps.length 0 (by omega) (fun k hk=>by omega))
theorem Qx8o : EntOK Tryz.prog CP Q5fl Qqor:=by
 refine ⟨⟨Tryz.f188,by kernel_rfl,by kernel_rfl,by kernel_rfl⟩,fun args H res H' h=>?_⟩
 simp only [Qqor] at h
 split at h
 ·simp only [Option.some.injEq,Prod.mk.injEq] at h
  obtain ⟨hg,rfl,rfl⟩:=h
  simp only [Bool.and_eq_true,decide_eq_true_eq] at hg
  obtain ⟨rfl,hg⟩:=hg
  exact Qsc1 _ _ (decide_eq_true hg)
 ·cases h

noncomputable def Qizf : RE Ty El:=⟨Tryz.prog,CP,[(Qgz8,Qnmw)],Tryz.f227,0,[],[(2,[(0,.any),(1,.any),(7,.any),(8,.any)])]⟩
theorem Qdzq : REOK Qizf Q99l:=⟨CP_ok,(TabOK.cons Qf2l Qye1),by kernel_rfl,by kernel_rfl⟩
theorem Qyii (ps : List Kind) (n : Str) : aRun Qizf 600 false (body0 Qizf.fn) (Q4gm Qizf.fn [.sl .kind ps,.fn (.func Qgz8) [.rop [.str n] 0]] []) =
 some (.go (Qu6t Qizf.fn 2) [.sl .kind ps,.fn (Fn.func Qgz8) [.rop [.str n] 0],.int .i64 (↑ps.length : Int),.int .i64 (0 : Int)] []):=by kernel_rfl
theorem Qjf1 (x0 : List (El .kind)) (x1 : Str) (x2 : Int) (x3 : Int) : aRun Qizf 600 true (Qu6t Qizf.fn 2) (cutSt Qizf.fn (Q1m4 Qizf (Qu6t Qizf.fn 2)) [.sl .kind x0,.fn (Fn.func Qgz8) [.rop [.str x1] 0],.int .i64 x2,.int .i64 x3] []) =
 ifb (decide (x3 < x2)) (ifb (inb x3 x0.length) (ifb ((x0.getD x3.toNat (Qizf.C.dflt Ty.kind)).name == x1) (some (.ret (.int .i64 x3) [])) (some (.go (Qu6t Qizf.fn 2) [.sl .kind x0,.fn (Fn.func Qgz8) [.rop [.str x1] 0],.int .i64 x2,.int .i64 (IntKind.i64.wrap (x3 + (1 : Int)))] []))) (none)) (some (.ret (.int .i64 (-1 : Int)) [])):=by kernel_rfl
theorem Qvfx (ps : List Kind) (n : Str) (hl : ps.length < 1000000000) : ∀ (d i : Nat),i + d = ps.length → (∀ k,k < i → ∀ x,ps[k]? = some x → (x.name == n) = false) → Cut Qizf Q99l 2 [.sl .kind ps,.fn (.func Qgz8) [.rop [.str n] 0],.int .i64 (ps.length : Int),.int .i64 (i : Int)] [] (.int .i64 (idxF (fun p=>p.name == n) ps)) []:=by
 intro d
 induction d with
 | zero =>
  intro i hi hno
  refine Cut.of Qdzq rfl (Qjf1 ps n ps.length i) ?_
  refine Sat.ifb (fun h=>?_) (fun h=>?_)
  ·simp at h; omega
  ·exact Sat.retI (Q1uv (fun k x hk=>hno k (by have:=(List.getElem?_eq_some_iff.1 hk).1; omega) x hk)).symm rfl
 | succ d ih =>
  intro i hi hno
  refine Cut.of Qdzq rfl (Qjf1 ps n ps.length i) ?_
  have hlt : i < ps.length:=by omega
  have hw : IntKind.wrap .i64 ((i : Int) + 1) = ((i + 1 : Nat) : Int):=by rw [Qbrg] <;> omega
  rw [hw]
  have hd : ps.getD (i : Int).toNat (Qizf.C.dflt .kind) = ps[i]:=by simp [hlt]
  rw [hd]
  refine Sat.ifb (fun h=>?_) (fun h=>?_)
  ·refine Sat.ifb (fun h2=>?_) (fun h2=>?_)
   ·refine Sat.ifb (fun h3=>?_) (fun h3=>?_)
    ·exact Sat.retI (Qjgx (List.getElem?_eq_getElem hlt) h3 hno).symm rfl
    ·refine Sat.cut (ih (i + 1) (by omega) fun k hk x hx=>?_)
     by_cases hki : k = i
     ·subst hki
      rw [List.getElem?_eq_getElem hlt] at hx
      obtain rfl:=Option.some.inj hx
      exact h3
     ·exact hno k (by omega) x hx
   ·simp [inb] at h2; omega
  ·simp at h; omega
theorem Qfrh (ps : List Kind) (n : Str) (hg : decide (ps.length < 1000000000) = true) : Qewq Tryz.prog CP Q99l [.sl .kind ps,.fn (.func Qgz8) [.rop [.str n] 0]] [] (.int .i64 (idxF (fun p=>p.name == n) ps)) []:=by
 refine Qewq.of Qdzq (by kernel_rfl) (Qyii ps n) ?_
 exact Sat.cut (Qvfx ps n (of_decide_eq_true hg) ps.length 0 (by omega) (fun k hk=>by omega))
theorem Qjwf : EntOK Tryz.prog CP Q99l Q2on:=by
 refine ⟨⟨Tryz.f227,by kernel_rfl,by kernel_rfl,by kernel_rfl⟩,fun args H res H' h=>?_⟩
 simp only [Q2on] at h
 split at h
 ·simp only [Option.some.injEq,Prod.mk.injEq] at h
  obtain ⟨hg,rfl,rfl⟩:=h
  simp only [Bool.and_eq_true,decide_eq_true_eq] at hg
  obtain ⟨rfl,hg⟩:=hg
  exact Qfrh _ _ (decide_eq_true hg)
 ·cases h

noncomputable def Qktk : RE Ty El:=⟨Tryz.prog,CP,[(Qzot,Qf0f)],Tryz.f229,0,[],[(2,[(0,.any),(1,.any),(7,.any),(8,.any)])]⟩
theorem Qanj : REOK Qktk Qvc8:=⟨CP_ok,(TabOK.cons Q2e1 Qye1),by kernel_rfl,by kernel_rfl⟩
theorem Qid4 (ps : List Entry) (n : Str) : aRun Qktk 600 false (body0 Qktk.fn) (Q4gm Qktk.fn [.sl .entry ps,.fn (.func Qzot) [.rop [.str n] 0]] []) =
 some (.go (Qu6t Qktk.fn 2) [.sl .entry ps,.fn (Fn.func Qzot) [.rop [.str n] 0],.int .i64 (↑ps.length : Int),.int .i64 (0 : Int)] []):=by kernel_rfl
theorem Qsp2 (x0 : List (El .entry)) (x1 : Str) (x2 : Int) (x3 : Int) : aRun Qktk 600 true (Qu6t Qktk.fn 2) (cutSt Qktk.fn (Q1m4 Qktk (Qu6t Qktk.fn 2)) [.sl .entry x0,.fn (Fn.func Qzot) [.rop [.str x1] 0],.int .i64 x2,.int .i64 x3] []) =
 ifb (decide (x3 < x2)) (ifb (inb x3 x0.length) (ifb ((x0.getD x3.toNat (Qktk.C.dflt Ty.entry)).name == x1) (some (.ret (.int .i64 x3) [])) (some (.go (Qu6t Qktk.fn 2) [.sl .entry x0,.fn (Fn.func Qzot) [.rop [.str x1] 0],.int .i64 x2,.int .i64 (IntKind.i64.wrap (x3 + (1 : Int)))] []))) (none)) (some (.ret (.int .i64 (-1 : Int)) [])):=by kernel_rfl
theorem Qxzv (ps : List Entry) (n : Str) (hl : ps.length < 1000000000) : ∀ (d i : Nat),i + d = ps.length → (∀ k,k < i → ∀ x,ps[k]? = some x → (x.name == n) = false) → Cut Qktk Qvc8 2 [.sl .entry ps,.fn (.func Qzot) [.rop [.str n] 0],.int .i64 (ps.length : Int),.int .i64 (i : Int)] [] (.int .i64 (idxF (fun p=>p.name == n) ps)) []:=by
 intro d
 induction d with
 | zero =>
  intro i hi hno
  refine Cut.of Qanj rfl (Qsp2 ps n ps.length i) ?_
  refine Sat.ifb (fun h=>?_) (fun h=>?_)
  ·simp at h; omega
  ·exact Sat.retI (Q1uv (fun k x hk=>hno k (by have:=(List.getElem?_eq_some_iff.1 hk).1; omega) x hk)).symm rfl
 | succ d ih =>
  intro i hi hno
  refine Cut.of Qanj rfl (Qsp2 ps n ps.length i) ?_
  have hlt : i < ps.length:=by omega
  have hw : IntKind.wrap .i64 ((i : Int) + 1) = ((i + 1 : Nat) : Int):=by rw [Qbrg] <;> omega
  rw [hw]
  have hd : ps.getD (i : Int).toNat (Qktk.C.dflt .entry) = ps[i]:=by simp [hlt]
  rw [hd]
  refine Sat.ifb (fun h=>?_) (fun h=>?_)
  ·refine Sat.ifb (fun h2=>?_) (fun h2=>?_)
   ·refine Sat.ifb (fun h3=>?_) (fun h3=>?_)
    ·exact Sat.retI (Qjgx (List.getElem?_eq_getElem hlt) h3 hno).symm rfl
    ·refine Sat.cut (ih (i + 1) (by omega) fun k hk x hx=>?_)
     by_cases hki : k = i
     ·subst hki
      rw [List.getElem?_eq_getElem hlt] at hx
      obtain rfl:=Option.some.inj hx
      exact h3
     ·exact hno k (by omega) x hx
   ·simp [inb] at h2; omega
  ·simp at h; omega
theorem Qn63 (ps : List Entry) (n : Str) (hg : decide (ps.length < 1000000000) = true) : Qewq Tryz.prog CP Qvc8 [.sl .entry ps,.fn (.func Qzot) [.rop [.str n] 0]] [] (.int .i64 (idxF (fun p=>p.name == n) ps)) []:=by
 refine Qewq.of Qanj (by kernel_rfl) (Qid4 ps n) ?_
 exact Sat.cut (Qxzv ps n (of_decide_eq_true hg) ps.length 0 (by omega) (fun k hk=>by omega))
theorem Q2bf : EntOK Tryz.prog CP Qvc8 Q0i2:=by
 refine ⟨⟨Tryz.f229,by kernel_rfl,by kernel_rfl,by kernel_rfl⟩,fun args H res H' h=>?_⟩
 simp only [Q0i2] at h
 split at h
 ·simp only [Option.some.injEq,Prod.mk.injEq] at h
  obtain ⟨hg,rfl,rfl⟩:=h
  simp only [Bool.and_eq_true,decide_eq_true_eq] at hg
  obtain ⟨rfl,hg⟩:=hg
  exact Qn63 _ _ (decide_eq_true hg)
 ·cases h

noncomputable def Q0yb : RE Ty El:=⟨Tryz.prog,CP,[(Q5fl,Qqor)],Tryz.f114,0,[],[]⟩
theorem Qjr2 : REOK Q0yb Q8ie:=⟨CP_ok,(TabOK.cons Qx8o Qye1),by kernel_rfl,by kernel_rfl⟩
theorem Qri8 (ks : List Kind) (ps : List Point) (n : Str) : aRun Q0yb 600 false (body0 Q0yb.fn) (Q4gm Q0yb.fn [.agg [.sl .kind ks,.sl .point ps],.str n] []) =
 ifb (decide (ps.length < (1000000000 : Nat))) (some (.ret (.int .i64 (idxF (fun p=>p.name == n) ps)) [])) (none):=by kernel_rfl
theorem Qebw (ks : List Kind) (ps : List Point) (n : Str) (hg : decide (ps.length < 1000000000) = true) : Qewq Tryz.prog CP Q8ie [.agg [.sl .kind ks,.sl .point ps],.str n] [] (.int .i64 (idxF (fun p=>p.name == n) ps)) []:=by
 refine Qewq.of Qjr2 (by kernel_rfl) (Qri8 ks ps n) ?_
 repeat' (first | (refine Sat.ifb (fun h=>?_) (fun h=>?_)) | (refine Sat.retB ?_ rfl; simp_all []; done) | (refine Sat.retI ?_ rfl; simp_all []; done))
 all_goals (first | (refine Sat.no ?_; simp_all; done) | (refine Sat.no ?_; simp_all; omega) | (refine Sat.retB ?_ rfl; simp_all []; omega) | (refine Sat.retI ?_ rfl; simp_all []; omega))
theorem Q5yh : EntOK Tryz.prog CP Q8ie Q4q8:=by
 refine ⟨⟨Tryz.f114,by kernel_rfl,by kernel_rfl,by kernel_rfl⟩,fun args H res H' h=>?_⟩
 simp only [Q4q8] at h
 split at h
 ·simp only [Option.some.injEq,Prod.mk.injEq] at h
  obtain ⟨hg,rfl,rfl⟩:=h
  exact Qebw _ _ _ hg
 ·cases h

noncomputable def Q73k : RE Ty El:=⟨Tryz.prog,CP,[(Q99l,Q2on)],Tryz.f169,0,[],[]⟩
theorem Qmxg : REOK Q73k Q5ff:=⟨CP_ok,(TabOK.cons Qjwf Qye1),by kernel_rfl,by kernel_rfl⟩
theorem Qmpv (ks : List Kind) (ps : List Point) (n : Str) : aRun Q73k 600 false (body0 Q73k.fn) (Q4gm Q73k.fn [.agg [.sl .kind ks,.sl .point ps],.str n] []) =
 ifb (decide (ks.length < (1000000000 : Nat))) (some (.ret (.int .i64 (idxF (fun p=>p.name == n) ks)) [])) (none):=by kernel_rfl
theorem Qqj9 (ks : List Kind) (ps : List Point) (n : Str) (hg : decide (ks.length < 1000000000) = true) : Qewq Tryz.prog CP Q5ff [.agg [.sl .kind ks,.sl .point ps],.str n] [] (.int .i64 (idxF (fun p=>p.name == n) ks)) []:=by
 refine Qewq.of Qmxg (by kernel_rfl) (Qmpv ks ps n) ?_
 repeat' (first | (refine Sat.ifb (fun h=>?_) (fun h=>?_)) | (refine Sat.retB ?_ rfl; simp_all []; done) | (refine Sat.retI ?_ rfl; simp_all []; done))
 all_goals (first | (refine Sat.no ?_; simp_all; done) | (refine Sat.no ?_; simp_all; omega) | (refine Sat.retB ?_ rfl; simp_all []; omega) | (refine Sat.retI ?_ rfl; simp_all []; omega))
theorem Q8iz : EntOK Tryz.prog CP Q5ff Qo07:=by
 refine ⟨⟨Tryz.f169,by kernel_rfl,by kernel_rfl,by kernel_rfl⟩,fun args H res H' h=>?_⟩
 simp only [Qo07] at h
 split at h
 ·simp only [Option.some.injEq,Prod.mk.injEq] at h
  obtain ⟨hg,rfl,rfl⟩:=h
  exact Qqj9 _ _ _ hg
 ·cases h

noncomputable def Qo42 : RE Ty El:=⟨Tryz.prog,CP,[(Qvc8,Q0i2)],Tryz.f176,0,[],[]⟩
theorem Qrrn : REOK Qo42 Q659:=⟨CP_ok,(TabOK.cons Q2bf Qye1),by kernel_rfl,by kernel_rfl⟩
theorem Q9rc (ks : List Kind) (ps : List Point) (es : List Entry) (n : Str) : aRun Qo42 600 false (body0 Qo42.fn) (Q4gm Qo42.fn [.agg [.sl .kind ks,.sl .point ps,.sl .entry es],.str n] []) =
 ifb (decide (es.length < (1000000000 : Nat))) (some (.ret (.int .i64 (idxF (fun p=>p.name == n) es)) [])) (none):=by kernel_rfl
theorem Qwdv (ks : List Kind) (ps : List Point) (es : List Entry) (n : Str) (hg : decide (es.length < 1000000000) = true) : Qewq Tryz.prog CP Q659 [.agg [.sl .kind ks,.sl .point ps,.sl .entry es],.str n] [] (.int .i64 (idxF (fun p=>p.name == n) es)) []:=by
 refine Qewq.of Qrrn (by kernel_rfl) (Q9rc ks ps es n) ?_
 repeat' (first | (refine Sat.ifb (fun h=>?_) (fun h=>?_)) | (refine Sat.retB ?_ rfl; simp_all []; done) | (refine Sat.retI ?_ rfl; simp_all []; done))
 all_goals (first | (refine Sat.no ?_; simp_all; done) | (refine Sat.no ?_; simp_all; omega) | (refine Sat.retB ?_ rfl; simp_all []; omega) | (refine Sat.retI ?_ rfl; simp_all []; omega))
theorem Q4vp : EntOK Tryz.prog CP Q659 Qb5f:=by
 refine ⟨⟨Tryz.f176,by kernel_rfl,by kernel_rfl,by kernel_rfl⟩,fun args H res H' h=>?_⟩
 simp only [Qb5f] at h
 split at h
 ·simp only [Option.some.injEq,Prod.mk.injEq] at h
  obtain ⟨hg,rfl,rfl⟩:=h
  exact Qwdv _ _ _ _ hg
 ·cases h

noncomputable def Qx2q : RE Ty El:=⟨Tryz.prog,CP,[],Tryz.f115,0,[],[(2,[(1,.any),(2,.any),(5,.any)])]⟩
theorem Qyp3 : REOK Qx2q Qne3:=⟨CP_ok,Qye1,by kernel_rfl,by kernel_rfl⟩
theorem Qkua (ks : List Kind) (ps : List Point) (n : Str) : aRun Qx2q 600 false (body0 Qx2q.fn) (Q4gm Qx2q.fn [.agg [.sl .kind ks,.sl .point ps],.str n] []) =
 some (.go (Qu6t Qx2q.fn 2) [.str n,.ptr 0 0,.int .i64 (0 : Int)] [.box [.sl .kind ks,.sl .point ps]]):=by kernel_rfl
theorem Qdkv (x0 : Str) (x1 : Int) (x2 : List (El .kind)) (x3 : List (El .point)) : aRun Qx2q 600 true (Qu6t Qx2q.fn 2) (cutSt Qx2q.fn (Q1m4 Qx2q (Qu6t Qx2q.fn 2)) [.str x0,.ptr 0 0,.int .i64 x1] [.box [.sl .kind x2,.sl .point x3]]) =
 ifb (decide (x1 < (↑x3.length : Int))) (ifb (inb x1 x3.length) (ifb ((x3.getD x1.toNat (Qx2q.C.dflt Ty.point)).name == x0) (some (.ret (.int .i64 x1) [])) (some (.go (Qu6t Qx2q.fn 2) [.str x0,.ptr 0 0,.int .i64 (IntKind.i64.wrap (x1 + (1 : Int)))] [.box [.sl .kind x2,.sl .point x3]]))) (none)) (some (.ret (.int .i64 (-1 : Int)) [])):=by kernel_rfl
theorem Qbdt (ks : List Kind) (ps : List Point) (n : Str) (hl : ps.length < 1000000000) : ∀ (d i : Nat),i + d = ps.length → (∀ k,k < i → ∀ x,ps[k]? = some x → (x.name == n) = false) → Cut Qx2q Qne3 2 [.str n,.ptr 0 0,.int .i64 (i : Int)] [.box [.sl .kind ks,.sl .point ps]] (.int .i64 (idxF (fun p=>p.name == n) ps)) []:=by
 intro d
 induction d with
 | zero =>
  intro i hi hno
  refine Cut.of Qyp3 rfl (Qdkv n i ks ps) ?_
  refine Sat.ifb (fun h=>?_) (fun h=>?_)
  ·simp at h; omega
  ·exact Sat.retI (Q1uv (fun k x hk=>hno k (by have:=(List.getElem?_eq_some_iff.1 hk).1; omega) x hk)).symm rfl
 | succ d ih =>
  intro i hi hno
  refine Cut.of Qyp3 rfl (Qdkv n i ks ps) ?_
  have hlt : i < ps.length:=by omega
  have hw : IntKind.wrap .i64 ((i : Int) + 1) = ((i + 1 : Nat) : Int):=by rw [Qbrg] <;> omega
  rw [hw]
  have hd : ps.getD (i : Int).toNat (Qx2q.C.dflt .point) = ps[i]:=by simp [hlt]
  rw [hd]
  refine Sat.ifb (fun h=>?_) (fun h=>?_)
  ·refine Sat.ifb (fun h2=>?_) (fun h2=>?_)
   ·refine Sat.ifb (fun h3=>?_) (fun h3=>?_)
    ·exact Sat.retI (Qjgx (List.getElem?_eq_getElem hlt) h3 hno).symm rfl
    ·refine Sat.cut (ih (i + 1) (by omega) fun k hk x hx=>?_)
     by_cases hki : k = i
     ·subst hki
      rw [List.getElem?_eq_getElem hlt] at hx
      obtain rfl:=Option.some.inj hx
      exact h3
     ·exact hno k (by omega) x hx
   ·simp [inb] at h2; omega
  ·simp at h; omega
theorem Q78w (ks : List Kind) (ps : List Point) (n : Str) (hg : decide (ps.length < 1000000000) = true) : Qewq Tryz.prog CP Qne3 [.agg [.sl .kind ks,.sl .point ps],.str n] [] (.int .i64 (idxF (fun p=>p.name == n) ps)) []:=by
 refine Qewq.of Qyp3 (by kernel_rfl) (Qkua ks ps n) ?_
 exact Sat.cut (Qbdt ks ps n (of_decide_eq_true hg) ps.length 0 (by omega) (fun k hk=>by omega))
theorem Qcao : EntOK Tryz.prog CP Qne3 Q41f:=by
 refine ⟨⟨Tryz.f115,by kernel_rfl,by kernel_rfl,by kernel_rfl⟩,fun args H res H' h=>?_⟩
 simp only [Q41f,Q4q8] at h
 split at h
 ·simp only [Option.some.injEq,Prod.mk.injEq] at h
  obtain ⟨hg,rfl,rfl⟩:=h
  exact Q78w _ _ _ hg
 ·cases h

noncomputable def Q773 : RE Ty El:=⟨Tryz.prog,CP,[],Tryz.f173,0,[],[(2,[(1,.any),(2,.any),(5,.any)])]⟩
theorem Qyos : REOK Q773 Q780:=⟨CP_ok,Qye1,by kernel_rfl,by kernel_rfl⟩
theorem Qf0n (ks : List Kind) (ps : List Point) (n : Str) : aRun Q773 600 false (body0 Q773.fn) (Q4gm Q773.fn [.agg [.sl .kind ks,.sl .point ps],.str n] []) =
 some (.go (Qu6t Q773.fn 2) [.str n,.ptr 0 0,.int .i64 (0 : Int)] [.box [.sl .kind ks,.sl .point ps]]):=by kernel_rfl
theorem Qyu9 (x0 : Str) (x1 : Int) (x2 : List (El .kind)) (x3 : List (El .point)) : aRun Q773 600 true (Qu6t Q773.fn 2) (cutSt Q773.fn (Q1m4 Q773 (Qu6t Q773.fn 2)) [.str x0,.ptr 0 0,.int .i64 x1] [.box [.sl .kind x2,.sl .point x3]]) =
 ifb (decide (x1 < (↑x2.length : Int))) (ifb (inb x1 x2.length) (ifb ((x2.getD x1.toNat (Q773.C.dflt Ty.kind)).name == x0) (some (.ret (.int .i64 x1) [])) (some (.go (Qu6t Q773.fn 2) [.str x0,.ptr 0 0,.int .i64 (IntKind.i64.wrap (x1 + (1 : Int)))] [.box [.sl .kind x2,.sl .point x3]]))) (none)) (some (.ret (.int .i64 (-1 : Int)) [])):=by kernel_rfl
theorem Qrru (ks : List Kind) (ps : List Point) (n : Str) (hl : ks.length < 1000000000) : ∀ (d i : Nat),i + d = ks.length → (∀ k,k < i → ∀ x,ks[k]? = some x → (x.name == n) = false) → Cut Q773 Q780 2 [.str n,.ptr 0 0,.int .i64 (i : Int)] [.box [.sl .kind ks,.sl .point ps]] (.int .i64 (idxF (fun p=>p.name == n) ks)) []:=by
 intro d
 induction d with
 | zero =>
  intro i hi hno
  refine Cut.of Qyos rfl (Qyu9 n i ks ps) ?_
  refine Sat.ifb (fun h=>?_) (fun h=>?_)
  ·simp at h; omega
  ·exact Sat.retI (Q1uv (fun k x hk=>hno k (by have:=(List.getElem?_eq_some_iff.1 hk).1; omega) x hk)).symm rfl
 | succ d ih =>
  intro i hi hno
  refine Cut.of Qyos rfl (Qyu9 n i ks ps) ?_
  have hlt : i < ks.length:=by omega
  have hw : IntKind.wrap .i64 ((i : Int) + 1) = ((i + 1 : Nat) : Int):=by rw [Qbrg] <;> omega
  rw [hw]
  have hd : ks.getD (i : Int).toNat (Q773.C.dflt .kind) = ks[i]:=by simp [hlt]
  rw [hd]
  refine Sat.ifb (fun h=>?_) (fun h=>?_)
  ·refine Sat.ifb (fun h2=>?_) (fun h2=>?_)
   ·refine Sat.ifb (fun h3=>?_) (fun h3=>?_)
    ·exact Sat.retI (Qjgx (List.getElem?_eq_getElem hlt) h3 hno).symm rfl
    ·refine Sat.cut (ih (i + 1) (by omega) fun k hk x hx=>?_)
     by_cases hki : k = i
     ·subst hki
      rw [List.getElem?_eq_getElem hlt] at hx
      obtain rfl:=Option.some.inj hx
      exact h3
     ·exact hno k (by omega) x hx
   ·simp [inb] at h2; omega
  ·simp at h; omega
theorem Qx08 (ks : List Kind) (ps : List Point) (n : Str) (hg : decide (ks.length < 1000000000) = true) : Qewq Tryz.prog CP Q780 [.agg [.sl .kind ks,.sl .point ps],.str n] [] (.int .i64 (idxF (fun p=>p.name == n) ks)) []:=by
 refine Qewq.of Qyos (by kernel_rfl) (Qf0n ks ps n) ?_
 exact Sat.cut (Qrru ks ps n (of_decide_eq_true hg) ks.length 0 (by omega) (fun k hk=>by omega))
theorem Qlgy : EntOK Tryz.prog CP Q780 Qqer:=by
 refine ⟨⟨Tryz.f173,by kernel_rfl,by kernel_rfl,by kernel_rfl⟩,fun args H res H' h=>?_⟩
 simp only [Qqer,Qo07] at h
 split at h
 ·simp only [Option.some.injEq,Prod.mk.injEq] at h
  obtain ⟨hg,rfl,rfl⟩:=h
  exact Qx08 _ _ _ hg
 ·cases h

noncomputable def Qj8l : RE Ty El:=⟨Tryz.prog,CP,[],Tryz.f116,0,[],[(2,[(1,.any),(2,.any),(5,.any)])]⟩
theorem Qv79 : REOK Qj8l Q4v9:=⟨CP_ok,Qye1,by kernel_rfl,by kernel_rfl⟩
theorem Q0e6 (ks : List Kind) (ps : List Point) (es : List Entry) (n : Str) : aRun Qj8l 600 false (body0 Qj8l.fn) (Q4gm Qj8l.fn [.agg [.sl .kind ks,.sl .point ps,.sl .entry es],.str n] []) =
 some (.go (Qu6t Qj8l.fn 2) [.str n,.ptr 0 0,.int .i64 (0 : Int)] [.box [.sl .kind ks,.sl .point ps,.sl .entry es]]):=by kernel_rfl
theorem Qzuc (x0 : Str) (x1 : Int) (x2 : List (El .kind)) (x3 : List (El .point)) (x4 : List (El .entry)) : aRun Qj8l 600 true (Qu6t Qj8l.fn 2) (cutSt Qj8l.fn (Q1m4 Qj8l (Qu6t Qj8l.fn 2)) [.str x0,.ptr 0 0,.int .i64 x1] [.box [.sl .kind x2,.sl .point x3,.sl .entry x4]]) =
 ifb (decide (x1 < (↑x4.length : Int))) (ifb (inb x1 x4.length) (ifb ((x4.getD x1.toNat (Qj8l.C.dflt Ty.entry)).name == x0) (some (.ret (.int .i64 x1) [])) (some (.go (Qu6t Qj8l.fn 2) [.str x0,.ptr 0 0,.int .i64 (IntKind.i64.wrap (x1 + (1 : Int)))] [.box [.sl .kind x2,.sl .point x3,.sl .entry x4]]))) (none)) (some (.ret (.int .i64 (-1 : Int)) [])):=by kernel_rfl
theorem Qn1k (ks : List Kind) (ps : List Point) (es : List Entry) (n : Str) (hl : es.length < 1000000000) : ∀ (d i : Nat),i + d = es.length → (∀ k,k < i → ∀ x,es[k]? = some x → (x.name == n) = false) → Cut Qj8l Q4v9 2 [.str n,.ptr 0 0,.int .i64 (i : Int)] [.box [.sl .kind ks,.sl .point ps,.sl .entry es]] (.int .i64 (idxF (fun p=>p.name == n) es)) []:=by
 intro d
 induction d with
 | zero =>
  intro i hi hno
  refine Cut.of Qv79 rfl (Qzuc n i ks ps es) ?_
  refine Sat.ifb (fun h=>?_) (fun h=>?_)
  ·simp at h; omega
  ·exact Sat.retI (Q1uv (fun k x hk=>hno k (by have:=(List.getElem?_eq_some_iff.1 hk).1; omega) x hk)).symm rfl
 | succ d ih =>
  intro i hi hno
  refine Cut.of Qv79 rfl (Qzuc n i ks ps es) ?_
  have hlt : i < es.length:=by omega
  have hw : IntKind.wrap .i64 ((i : Int) + 1) = ((i + 1 : Nat) : Int):=by rw [Qbrg] <;> omega
  rw [hw]
  have hd : es.getD (i : Int).toNat (Qj8l.C.dflt .entry) = es[i]:=by simp [hlt]
  rw [hd]
  refine Sat.ifb (fun h=>?_) (fun h=>?_)
  ·refine Sat.ifb (fun h2=>?_) (fun h2=>?_)
   ·refine Sat.ifb (fun h3=>?_) (fun h3=>?_)
    ·exact Sat.retI (Qjgx (List.getElem?_eq_getElem hlt) h3 hno).symm rfl
    ·refine Sat.cut (ih (i + 1) (by omega) fun k hk x hx=>?_)
     by_cases hki : k = i
     ·subst hki
      rw [List.getElem?_eq_getElem hlt] at hx
      obtain rfl:=Option.some.inj hx
      exact h3
     ·exact hno k (by omega) x hx
   ·simp [inb] at h2; omega
  ·simp at h; omega
theorem Qbk7 (ks : List Kind) (ps : List Point) (es : List Entry) (n : Str) (hg : decide (es.length < 1000000000) = true) : Qewq Tryz.prog CP Q4v9 [.agg [.sl .kind ks,.sl .point ps,.sl .entry es],.str n] [] (.int .i64 (idxF (fun p=>p.name == n) es)) []:=by
 refine Qewq.of Qv79 (by kernel_rfl) (Q0e6 ks ps es n) ?_
 exact Sat.cut (Qn1k ks ps es n (of_decide_eq_true hg) es.length 0 (by omega) (fun k hk=>by omega))
theorem Q9x2 : EntOK Tryz.prog CP Q4v9 Qf4o:=by
 refine ⟨⟨Tryz.f116,by kernel_rfl,by kernel_rfl,by kernel_rfl⟩,fun args H res H' h=>?_⟩
 simp only [Qf4o,Qb5f] at h
 split at h
 ·simp only [Option.some.injEq,Prod.mk.injEq] at h
  obtain ⟨hg,rfl,rfl⟩:=h
  exact Qbk7 _ _ _ _ hg
 ·cases h

noncomputable def Qzax : RE Ty El:=⟨Tryz.prog,CP,[(Q9ho,Qcc2)],Tryz.f170,0,[],[]⟩
theorem Qktt : REOK Qzax Qi5t:=⟨CP_ok,(TabOK.cons Q8k7 Qye1),by kernel_rfl,by kernel_rfl⟩
theorem Qo72 (s : Str) (x y : Int) : aRun Qzax 600 false (body0 Qzax.fn) (Q4gm Qzax.fn [.agg [.str s,.int .i64 x,.int .i64 y]] []) =
 ifb (Q2rq s) (ifb (decide ((1 : Int) ≤ x)) (ifb (decide (x ≤ y)) (some (.ret (.bool (decide (y ≤ (50 : Int)))) [])) (some (.ret (.bool false) []))) (some (.ret (.bool false) []))) (some (.ret (.bool false) [])):=by kernel_rfl
theorem Qrg1 (s : Str) (x y : Int) : Qewq Tryz.prog CP Qi5t [.agg [.str s,.int .i64 x,.int .i64 y]] [] (.bool (Kind.ok ⟨s,x,y⟩)) []:=by
 refine Qewq.of Qktt (by kernel_rfl) (Qo72 s x y) ?_
 repeat' (first | (refine Sat.ifb (fun h=>?_) (fun h=>?_)) | (refine Sat.retB ?_ rfl; simp_all [Kind.ok]; done) | (refine Sat.retI ?_ rfl; simp_all [Kind.ok]; done))
 all_goals (first | (refine Sat.no ?_; simp_all; done) | (refine Sat.no ?_; simp_all; omega) | (refine Sat.retB ?_ rfl; simp_all [Kind.ok]; omega) | (refine Sat.retI ?_ rfl; simp_all [Kind.ok]; omega))
theorem Qvs4 : EntOK Tryz.prog CP Qi5t Qcb4:=by
 refine ⟨⟨Tryz.f170,by kernel_rfl,by kernel_rfl,by kernel_rfl⟩,fun args H res H' h=>?_⟩
 simp only [Qcb4] at h
 split at h
 ·simp only [Option.some.injEq,Prod.mk.injEq] at h
  obtain ⟨hg,rfl,rfl⟩:=h
  exact Qrg1 _ _ _
 ·cases h

noncomputable def Q41i : RE Ty El:=⟨Tryz.prog,CP,[(Q9ho,Qcc2),(Qn2h,Q0vx)],Tryz.f171,0,[],[]⟩
theorem Qbgp : REOK Q41i Q3pj:=⟨CP_ok,(TabOK.cons Q8k7 (TabOK.cons Qfgu Qye1)),by kernel_rfl,by kernel_rfl⟩
theorem Q571 (s : Str) (x y : Int) : aRun Q41i 600 false (body0 Q41i.fn) (Q4gm Q41i.fn [.agg [.str s,.int .i64 x,.int .i64 y]] []) =
 ifb (Q2rq s) (ifb (inR x (0 : Int) (15 : Int)) (some (.ret (.bool (inR y (0 : Int) (15 : Int))) [])) (some (.ret (.bool false) []))) (some (.ret (.bool false) [])):=by kernel_rfl
theorem Qu71 (s : Str) (x y : Int) : Qewq Tryz.prog CP Q3pj [.agg [.str s,.int .i64 x,.int .i64 y]] [] (.bool (Point.ok ⟨s,x,y⟩)) []:=by
 refine Qewq.of Qbgp (by kernel_rfl) (Q571 s x y) ?_
 repeat' (first | (refine Sat.ifb (fun h=>?_) (fun h=>?_)) | (refine Sat.retB ?_ rfl; simp_all [Point.ok]; done) | (refine Sat.retI ?_ rfl; simp_all [Point.ok]; done))
 all_goals (first | (refine Sat.no ?_; simp_all; done) | (refine Sat.no ?_; simp_all; omega) | (refine Sat.retB ?_ rfl; simp_all [Point.ok]; omega) | (refine Sat.retI ?_ rfl; simp_all [Point.ok]; omega))
theorem Qvb7 : EntOK Tryz.prog CP Q3pj Qj6w:=by
 refine ⟨⟨Tryz.f171,by kernel_rfl,by kernel_rfl,by kernel_rfl⟩,fun args H res H' h=>?_⟩
 simp only [Qj6w] at h
 split at h
 ·simp only [Option.some.injEq,Prod.mk.injEq] at h
  obtain ⟨hg,rfl,rfl⟩:=h
  exact Qu71 _ _ _
 ·cases h

noncomputable def Qeyc : RE Ty El:=⟨Tryz.prog,CP,[(Qnn1,Q4bc),(Qyp5,Qc4s)],Tryz.f195,0,[],[]⟩
theorem Qx6i : REOK Qeyc Qycj:=⟨CP_ok,(TabOK.cons Q7n8 (TabOK.cons Qzgd Qye1)),by kernel_rfl,by kernel_rfl⟩
theorem Q8f3 (s : Str) (x y : Int) : aRun Qeyc 600 false (body0 Qeyc.fn) (Q4gm Qeyc.fn [.agg [.str s,.int .i64 x,.int .i64 y]] []) =
 ifb (Q2rq s) (ifb (inR x (1 : Int) y) (some (.ret (.bool (decide (y ≤ (50 : Int)))) [])) (some (.ret (.bool false) []))) (some (.ret (.bool false) [])):=by kernel_rfl
theorem Q8um (s : Str) (x y : Int) : Qewq Tryz.prog CP Qycj [.agg [.str s,.int .i64 x,.int .i64 y]] [] (.bool (Kind.ok ⟨s,x,y⟩)) []:=by
 refine Qewq.of Qx6i (by kernel_rfl) (Q8f3 s x y) ?_
 repeat' (first | (refine Sat.ifb (fun h=>?_) (fun h=>?_)) | (refine Sat.retB ?_ rfl; simp_all [Kind.ok,inR]; done) | (refine Sat.retI ?_ rfl; simp_all [Kind.ok,inR]; done))
 all_goals (first | (refine Sat.no ?_; simp_all; done) | (refine Sat.no ?_; simp_all; omega) | (refine Sat.retB ?_ rfl; simp_all [Kind.ok,inR]; omega) | (refine Sat.retI ?_ rfl; simp_all [Kind.ok,inR]; omega))
theorem Qnkx : EntOK Tryz.prog CP Qycj Qaw0:=by
 refine ⟨⟨Tryz.f195,by kernel_rfl,by kernel_rfl,by kernel_rfl⟩,fun args H res H' h=>?_⟩
 simp only [Qaw0,Qcb4] at h
 split at h
 ·simp only [Option.some.injEq,Prod.mk.injEq] at h
  obtain ⟨hg,rfl,rfl⟩:=h
  exact Q8um _ _ _
 ·cases h

noncomputable def Qj34 : RE Ty El:=⟨Tryz.prog,CP,[(Qnn1,Q4bc),(Qyp5,Qc4s)],Tryz.f196,0,[],[]⟩
theorem Qea1 : REOK Qj34 Qwjz:=⟨CP_ok,(TabOK.cons Q7n8 (TabOK.cons Qzgd Qye1)),by kernel_rfl,by kernel_rfl⟩
theorem Qwkj (s : Str) (x y : Int) : aRun Qj34 600 false (body0 Qj34.fn) (Q4gm Qj34.fn [.agg [.str s,.int .i64 x,.int .i64 y]] []) =
 ifb (Q2rq s) (ifb (inR x (0 : Int) (15 : Int)) (some (.ret (.bool (inR y (0 : Int) (15 : Int))) [])) (some (.ret (.bool false) []))) (some (.ret (.bool false) [])):=by kernel_rfl
theorem Qwz0 (s : Str) (x y : Int) : Qewq Tryz.prog CP Qwjz [.agg [.str s,.int .i64 x,.int .i64 y]] [] (.bool (Point.ok ⟨s,x,y⟩)) []:=by
 refine Qewq.of Qea1 (by kernel_rfl) (Qwkj s x y) ?_
 repeat' (first | (refine Sat.ifb (fun h=>?_) (fun h=>?_)) | (refine Sat.retB ?_ rfl; simp_all [Point.ok]; done) | (refine Sat.retI ?_ rfl; simp_all [Point.ok]; done))
 all_goals (first | (refine Sat.no ?_; simp_all; done) | (refine Sat.no ?_; simp_all; omega) | (refine Sat.retB ?_ rfl; simp_all [Point.ok]; omega) | (refine Sat.retI ?_ rfl; simp_all [Point.ok]; omega))
theorem Ql10 : EntOK Tryz.prog CP Qwjz Q2zc:=by
 refine ⟨⟨Tryz.f196,by kernel_rfl,by kernel_rfl,by kernel_rfl⟩,fun args H res H' h=>?_⟩
 simp only [Q2zc,Qj6w] at h
 split at h
 ·simp only [Option.some.injEq,Prod.mk.injEq] at h
  obtain ⟨hg,rfl,rfl⟩:=h
  exact Qwz0 _ _ _
 ·cases h
end Lx
namespace Lx
open Go Go.Proofs
end Lx
namespace Lx
open Go Go.Proofs
end Lx
namespace Lx
open Go Go.Proofs
def cutS (c : Int) : Str → List Str
 | []=>[[]]
 | b :: s=>if ((b.toNat : Int) == c) = true then [] :: cutS c s else match cutS c s with
  | []=>[[b]]
  | w :: ws=>(b :: w) :: ws
def preF (p : Str) : List Str → List Str
 | []=>[p]
 | w :: ws=>(p ++ w) :: ws
theorem Qk4w (c : Int) (s : Str) : cutS c s ≠ []:=by
 cases s with
 | nil=>simp [cutS]
 | cons b s =>
  simp only [cutS]
  split
  ·simp
  ·split <;> simp
theorem Qxhi {c : Int} {s : Str} : preF [] (cutS c s) = cutS c s:=by
 have:=Qk4w c s
 cases h : cutS c s with
 | nil=>exact absurd h this
 | cons w ws=>simp [preF]
theorem Q5bz {c : Int} {s p : Str} {b : UInt8} (h : ((b.toNat : Int) == c) = true) : preF p (cutS c (b :: s)) = p :: cutS c s:=by
 simp only [cutS,h,if_true,preF,List.append_nil]
theorem Q3ea {c : Int} {s p : Str} {b : UInt8} (h : ((b.toNat : Int) == c) = false) : preF p (cutS c (b :: s)) = preF (p ++ [b]) (cutS c s):=by
 have:=Qk4w c s
 simp only [cutS,h,Bool.false_eq_true,if_false]
 cases h : cutS c s with
 | nil=>exact absurd h this
 | cons w ws=>simp [preF]
def numGo : Int → Str → Int
 | n,[]=>n
 | n,b :: s=>if (b.toNat : Int) < 48 ∨ (b.toNat : Int) > 57 then -1 else numGo (n * 10 + ((b.toNat : Int) - 48)) s
def numF (s : Str) : Int:=if 1 ≤ s.length ∧ s.length ≤ 7 ∧ ¬ (1 < s.length ∧ ((s.getD 0 0).toNat : Int) = 48) then numGo 0 s else -1
def Qi2p : Ent Ty El:=⟨[.ro,.ro],0,fun a h=>match a,h with
 | [.str s,.int .u8 c],[]=>some (decide (s.length ≤ 1000000000),.sl .str (cutS c s),[])
 | _,_=>none⟩
def Qmli : Ent Ty El:=⟨[.ro],0,fun a h=>match a,h with
 | [.str s],[]=>some (true,.int .i64 (numF s),[])
 | _,_=>none⟩
end Lx
namespace Lx
open Go Go.Proofs
noncomputable def Qo1r : RE Ty El:=⟨Tryz.prog,CP,[],Tryz.f111,0,[.ro .str],[(4,[(0,.any),(1,.any),(5,.any),(6,.any),(7,.any)])]⟩
theorem Qjel : REOK Qo1r Q001:=⟨CP_ok,Qye1,by kernel_rfl,by kernel_rfl⟩
theorem Q7o5 (s : Str) (c : Int) : aRun Qo1r 600 false (body0 Qo1r.fn) (Q4gm Qo1r.fn [.str s,.int .u8 c] []) =
 some (.go (Qu6t Qo1r.fn 4) [.str s,.int .u8 c,.own 0 [] 0,.int .i64 (0 : Int),.int .i64 (0 : Int)] [.row .str [] 0 0 0 .no]):=by kernel_rfl
theorem Qv3u (x0 : Str) (x1 : Int) (x2 : Int) (x3 : Int) (x4 : List (El .str)) : aRun Qo1r 600 true (Qu6t Qo1r.fn 4) (cutSt Qo1r.fn (Q1m4 Qo1r (Qu6t Qo1r.fn 4)) [.str x0,.int .u8 x1,.own 0 [] 0,.int .i64 x2,.int .i64 x3] [.row .str x4 0 0 0 .no]) =
 ifb (decide (x3 < (↑(List.length x0) : Int))) (ifb (inb x3 (List.length x0)) (ifb ((↑(List.getD x0 x3.toNat (0 : UInt8)).toNat : Int) == x1) (ifb (decide ((0 : Int) ≤ x2) && (decide (x2 ≤ x3) && decide (x3 ≤ (↑(List.length x0) : Int)))) (ifb (decide ((x4.length + [List.take (x3.toNat - x2.toNat) (List.drop x2.toNat x0)].length) * Qbhn Qo1r.P (9 : Nat) ≤ (140737488355328 : Nat))) (some (.go (Qu6t Qo1r.fn 4) [.str x0,.int .u8 x1,.own 0 [] 0,.int .i64 (IntKind.i64.wrap (x3 + (1 : Int))),.int .i64 (IntKind.i64.wrap (x3 + (1 : Int)))] [.row .str (x4 ++ [List.take (x3.toNat - x2.toNat) (List.drop x2.toNat x0)]) 0 0 0 .no])) (none)) (none)) (some (.go (Qu6t Qo1r.fn 4) [.str x0,.int .u8 x1,.own 0 [] 0,.int .i64 x2,.int .i64 (IntKind.i64.wrap (x3 + (1 : Int)))] [.row .str x4 0 0 0 .no]))) (none)) (ifb (decide ((0 : Int) ≤ x2) && (decide (x2 ≤ (↑(List.length x0) : Int)) && decide ((↑(List.length x0) : Int) ≤ (↑(List.length x0) : Int)))) (ifb (decide ((x4.length + [List.take ((↑(List.length x0) : Int).toNat - x2.toNat) (List.drop x2.toNat x0)].length) * Qbhn Qo1r.P (9 : Nat) ≤ (140737488355328 : Nat))) (some (.ret (.sl .str (x4 ++ [List.take ((↑(List.length x0) : Int).toNat - x2.toNat) (List.drop x2.toNat x0)])) [])) (none)) (none)):=by kernel_rfl
theorem Q7yl (s : Str) (c : Int) (hs : s.length ≤ 1000000000) : ∀ (d i fr : Nat) (acc : List Str),i + d = s.length → fr ≤ i → acc.length ≤ i →
  Cut Qo1r Q001 4 [.str s,.int .u8 c,.own 0 [] 0,.int .i64 (fr : Int),.int .i64 (i : Int)] [.row .str acc 0 0 0 .no] (.sl .str (acc ++ preF ((s.drop fr).take (i - fr)) (cutS c (s.drop i)))) []:=by
 have hb : Qbhn Qo1r.P 9 = 16:=by kernel_rfl
 intro d
 induction d with
 | zero =>
  intro i fr acc hi hf ha
  refine Cut.of Qjel rfl (Qv3u s c fr i acc) ?_
  refine Sat.ifb (fun h=>?_) (fun h=>?_)
  ·simp at h; omega
  ·refine Sat.ifb (fun h=>?_) (fun h=>?_)
   ·refine Sat.ifb (fun h=>?_) (fun h=>?_)
    ·refine Sat.ret ?_ rfl
     have e : s.drop i = []:=List.drop_of_length_le (by omega)
     have e2 : s.length = i:=by omega
     simp [e,cutS,preF,e2]
    ·simp [hb] at h; omega
   ·simp at h; omega
 | succ d ih =>
  intro i fr acc hi hf ha
  refine Cut.of Qjel rfl (Qv3u s c fr i acc) ?_
  have hlt : i < s.length:=by omega
  have hw : IntKind.wrap .i64 ((i : Int) + 1) = ((i + 1 : Nat) : Int):=by rw [Qbrg] <;> omega
  have hd : s.drop i = s.getD i 0 :: s.drop (i + 1):=by rw [List.drop_eq_getElem_cons hlt]; simp [hlt]
  rw [hw,Int.toNat_natCast,Int.toNat_natCast]
  refine Sat.ifb (fun h=>?_) (fun h=>?_)
  ·refine Sat.ifb (fun h=>?_) (fun h=>?_)
   ·refine Sat.ifb (fun hb1=>?_) (fun hb1=>?_)
    ·refine Sat.ifb (fun h=>?_) (fun h=>?_)
     ·refine Sat.ifb (fun h=>?_) (fun h=>?_)
      ·rw [hd,Q5bz hb1]
       have:=ih (i + 1) (i + 1) (acc ++ [(s.drop fr).take (i - fr)]) (by omega) (by omega) (by simp; omega)
       rw [Nat.sub_self,List.take_zero,Qxhi,List.append_assoc] at this
       exact Sat.cut this
      ·simp [hb] at h; omega
     ·simp at h; omega
    ·rw [hd,Q3ea hb1]
     have:=ih (i + 1) fr acc (by omega) (by omega) (by omega)
     have e : (s.drop fr).take (i + 1 - fr) = (s.drop fr).take (i - fr) ++ [s.getD i 0]:=by
      have : i + 1 - fr = (i - fr) + 1:=by omega
      rw [this,List.take_add_one,List.getElem?_drop,show fr + (i - fr) = i by omega,List.getElem?_eq_getElem hlt,List.getD_eq_getElem?_getD,List.getElem?_eq_getElem hlt]
      rfl
     rw [e] at this
     exact Sat.cut this
   ·simp [inb] at h; omega
  ·simp at h; omega
theorem Q8ci (s : Str) (c : Int) (hg : decide (s.length ≤ 1000000000) = true) : Qewq Tryz.prog CP Q001 [.str s,.int .u8 c] [] (.sl .str (cutS c s)) []:=by
 refine Qewq.of Qjel (by kernel_rfl) (Q7o5 s c) ?_
 have:=Q7yl s c (of_decide_eq_true hg) s.length 0 0 [] (by omega) (by omega) (by simp)
 rw [List.nil_append,Nat.sub_self,List.take_zero,List.drop_zero,Qxhi] at this
 exact Sat.cut this
theorem Ql4s : EntOK Tryz.prog CP Q001 Qi2p:=by
 refine ⟨⟨Tryz.f111,by kernel_rfl,by kernel_rfl,by kernel_rfl⟩,fun args H res H' h=>?_⟩
 simp only [Qi2p] at h
 split at h
 ·simp only [Option.some.injEq,Prod.mk.injEq] at h
  obtain ⟨hg,rfl,rfl⟩:=h
  exact Q8ci _ _ hg
 ·cases h

noncomputable def Qm2u : RE Ty El:=⟨Tryz.prog,CP,[(Qyp5,Qc4s)],Tryz.f112,0,[],[(5,[(0,.any),(3,.any),(4,.any)])]⟩
theorem Qcvc : REOK Qm2u Qqw4:=⟨CP_ok,(TabOK.cons Qzgd Qye1),by kernel_rfl,by kernel_rfl⟩
theorem Q84i (s : Str) : aRun Qm2u 600 false (body0 Qm2u.fn) (Q4gm Qm2u.fn [.str s] []) =
 ifb (!inR (↑(List.length s) : Int) (1 : Int) (7 : Int)) (some (.ret (.int .i64 (-1 : Int)) [])) (ifb (decide ((↑(List.length s) : Int) > (1 : Int))) (ifb (inb (0 : Int) (List.length s)) (ifb ((↑(List.getD s (Int.toNat (0 : Int)) (0 : UInt8)).toNat : Int) == (48 : Int)) (some (.ret (.int .i64 (-1 : Int)) [])) (some (.go (Qu6t Qm2u.fn 5) [.str s,.int .i64 (0 : Int),.int .i64 (0 : Int)] []))) (none)) (some (.go (Qu6t Qm2u.fn 5) [.str s,.int .i64 (0 : Int),.int .i64 (0 : Int)] []))):=by kernel_rfl
theorem Qh4w (x0 : Str) (x1 : Int) (x2 : Int) : aRun Qm2u 600 true (Qu6t Qm2u.fn 5) (cutSt Qm2u.fn (Q1m4 Qm2u (Qu6t Qm2u.fn 5)) [.str x0,.int .i64 x1,.int .i64 x2] []) =
 ifb (decide (x2 < (↑(List.length x0) : Int))) (ifb (inb x2 (List.length x0)) (ifb (decide ((↑(List.getD x0 x2.toNat (0 : UInt8)).toNat : Int) < (48 : Int))) (some (.ret (.int .i64 (-1 : Int)) [])) (ifb (inb x2 (List.length x0)) (ifb (decide ((↑(List.getD x0 x2.toNat (0 : UInt8)).toNat : Int) > (57 : Int))) (some (.ret (.int .i64 (-1 : Int)) [])) (ifb (inb x2 (List.length x0)) (some (.go (Qu6t Qm2u.fn 5) [.str x0,.int .i64 (IntKind.i64.wrap (IntKind.i64.wrap (IntKind.i64.wrap (x1 * (10 : Int)) + IntKind.i64.wrap (↑(List.getD x0 x2.toNat (0 : UInt8)).toNat : Int)) - (48 : Int))),.int .i64 (IntKind.i64.wrap (x2 + (1 : Int)))] [])) (none))) (none))) (none)) (some (.ret (.int .i64 x1) [])):=by kernel_rfl
theorem Qmj9 (s : Str) (hs : s.length ≤ 7) : ∀ (d i : Nat) (n : Int),i + d = s.length → 0 ≤ n → n < 10 ^ i → Cut Qm2u Qqw4 5 [.str s,.int .i64 n,.int .i64 (i : Int)] [] (.int .i64 (numGo n (s.drop i))) []:=by
 intro d
 induction d with
 | zero =>
  intro i n hi h0 hn
  refine Cut.of Qcvc rfl (Qh4w s n i) ?_
  refine Sat.ifb (fun h=>?_) (fun h=>?_)
  ·simp at h; omega
  ·refine Sat.retI ?_ rfl
   rw [List.drop_of_length_le (by omega)]; rfl
 | succ d ih =>
  intro i n hi h0 hn
  refine Cut.of Qcvc rfl (Qh4w s n i) ?_
  have hlt : i < s.length:=by omega
  have hp : (10 : Int) ^ i ≤ 1000000:=by
   have : i = 0 ∨ i = 1 ∨ i = 2 ∨ i = 3 ∨ i = 4 ∨ i = 5 ∨ i = 6:=by omega
   rcases this with rfl | rfl | rfl | rfl | rfl | rfl | rfl <;> decide
  have hw : IntKind.wrap .i64 ((i : Int) + 1) = ((i + 1 : Nat) : Int):=by rw [Qbrg] <;> omega
  have hd : s.drop i = s.getD i 0 :: s.drop (i + 1):=by rw [List.drop_eq_getElem_cons hlt]; simp [hlt]
  rw [hw,Int.toNat_natCast,hd]
  have hbb : (s.getD i 0).toNat < 256:=UInt8.toNat_lt _
  generalize hbe : s.getD i 0 = b at *
  have w1 : IntKind.wrap .i64 (n * 10) = n * 10:=by rw [Qbrg] <;> omega
  have w2 : IntKind.wrap .i64 (b.toNat : Int) = (b.toNat : Int):=by rw [Qbrg] <;> omega
  have w3 : IntKind.wrap .i64 (n * 10 + (b.toNat : Int)) = n * 10 + (b.toNat : Int):=by rw [Qbrg] <;> omega
  have w4 : IntKind.wrap .i64 (n * 10 + (b.toNat : Int) - 48) = n * 10 + ((b.toNat : Int) - 48):=by rw [Qbrg] <;> omega
  rw [w1,w2,w3,w4]
  have hin : inb (i : Int) s.length = true:=by simp [inb]; omega
  refine Sat.ifb (fun h=>?_) (fun h=>?_)
  ·refine Sat.ifb (fun h=>?_) (fun h=>?_)
   ·refine Sat.ifb (fun h=>?_) (fun h1=>?_)
    ·refine Sat.retI ?_ rfl
     simp at h
     simp [numGo,h]
    ·refine Sat.ifb (fun _=>?_) (fun h=>?_)
     ·refine Sat.ifb (fun h=>?_) (fun h2=>?_)
      ·refine Sat.retI ?_ rfl
       simp at h
       simp [numGo,h]
      ·refine Sat.ifb (fun _=>?_) (fun h=>?_)
       ·simp at h1 h2
        have hnot : ¬ ((b.toNat : Int) < 48 ∨ (b.toNat : Int) > 57):=by omega
        have:=ih (i + 1) (n * 10 + ((b.toNat : Int) - 48)) (by omega) (by omega) (by rw [Int.pow_succ]; omega)
        simp only [numGo,hnot,if_false]
        exact Sat.cut this
       ·rw [hin] at h; cases h
     ·rw [hin] at h; cases h
   ·rw [hin] at h; cases h
  ·simp at h; omega
theorem Q031 (s : Str) : Qewq Tryz.prog CP Qqw4 [.str s] [] (.int .i64 (numF s)) []:=by
 refine Qewq.of Qcvc (by kernel_rfl) (Q84i s) ?_
 have go : 1 ≤ s.length → s.length ≤ 7 → ¬ (1 < s.length ∧ ((s.getD 0 0).toNat : Int) = 48) → Cut Qm2u Qqw4 5 [.str s,.int .i64 0,.int .i64 0] [] (.int .i64 (numF s)) []:=fun h1 h2 h3=>by
  have:=Qmj9 s h2 s.length 0 0 (by omega) (by omega) (by simp)
  rw [List.drop_zero] at this
  rw [show numF s = numGo 0 s by unfold numF; rw [if_pos ⟨h1,h2,h3⟩]]
  exact this
 refine Sat.ifb (fun h=>?_) (fun h=>?_)
 ·refine Sat.retI ?_ rfl
  simp [inR] at h
  unfold numF
  rw [if_neg (by omega)]
 ·simp [inR] at h
  refine Sat.ifb (fun h1=>?_) (fun h1=>?_)
  ·simp at h1
   refine Sat.ifb (fun h2=>?_) (fun h2=>?_)
   ·refine Sat.ifb (fun h3=>?_) (fun h3=>?_)
    ·refine Sat.retI ?_ rfl
     have h3' : ((s.getD 0 0).toNat : Int) = 48:=eq_of_beq h3
     unfold numF
     rw [if_neg (fun hc=>hc.2.2 ⟨by omega,h3'⟩)]
    ·have h3' : ¬ ((s.getD 0 0).toNat : Int) = 48:=beq_eq_false_iff_ne.1 h3
     exact Sat.cut (go (by omega) (by omega) (fun hc=>h3' hc.2))
   ·have h1' : ((s.length : Int) > 1):=h1
    have : inb (0 : Int) s.length = true:=by simp only [inb,Bool.and_eq_true,decide_eq_true_eq]; omega
    rw [this] at h2; cases h2
  ·have h1 : ¬ ((s.length : Int) > 1):=of_decide_eq_false h1
   exact Sat.cut (go (by omega) (by omega) (fun hc=>by have:=hc.1; omega))
theorem Qlxw : EntOK Tryz.prog CP Qqw4 Qmli:=by
 refine ⟨⟨Tryz.f112,by kernel_rfl,by kernel_rfl,by kernel_rfl⟩,fun args H res H' h=>?_⟩
 simp only [Qmli] at h
 split at h
 ·simp only [Option.some.injEq,Prod.mk.injEq] at h
  obtain ⟨hg,rfl,rfl⟩:=h
  exact Q031 _
 ·cases h

end Lx
namespace Lx
open Go Go.Proofs
def Qe7t (prev : Option Str) (n : Str) : Bool:=match prev with
 | none=>true
 | some p=>Q7zj p n
def Qh9e : Option Str → List Kind → Bool
 | _,[]=>true
 | prev,k :: ks=>k.ok && (Qe7t prev k.name && Qh9e (some k.name) ks)
def Q343 (seen : List Point) (p : Point) : Bool:=seen.all fun q=>!(q.x == p.x && q.y == p.y)
def Qaym : List Point → Option Str → List Point → Bool
 | _,_,[]=>true
 | seen,prev,p :: ps=>p.ok && (Qe7t prev p.name && (Q343 seen p && Qaym (seen ++ [p]) (some p.name) ps))
def Qib4 (ks : List Kind) (ps : List Point) : Bool:=decide (ks.length ≤ 6) && (decide (ps.length ≤ 16) && (Qh9e none ks && Qaym [] none ps))
def Qh2z (ks : List Kind) (n : Str) : Int:=idxF (fun k=>k.name == n) ks
def Qigq (ps : List Point) (n : Str) : Int:=idxF (fun p=>p.name == n) ps
def Qyf3 (ps : List Point) : Option Str → List Str → Bool
 | _,[]=>true
 | prev,n :: w=>!decide (Qigq ps n < 0) && (!(prev == some n) && Qyf3 ps (some n) w)
def Qyhl (ps : List Point) (w : List Str) : Bool:=inR w.length 2 8 && Qyf3 ps none w
def Q2es (w : List Str) : Bool:=match w with
 | [a,b]=>decide (0 ≤ numF a) && inR (numF b) (numF a) 10000
 | _=>false
def wOpen : Str:=[111,112,101,110]
def Qupw : Str:=[99,108,111,115,101,100]
def fitsV (ks : List Kind) (ps : List Point) (what : Int) (v : Str) : Bool :=
 if what = 1 then decide (0 ≤ Qh2z ks v) else if what = 2 then Q2es (cutS 32 v) else if what = 3 then inR (numF v) 1 6 else if what = 4 then Qyhl ps (cutS 32 v)
 else if what = 5 then v == wOpen || v == Qupw else false
def Qh2h (ks : List Kind) (ps : List Point) (fl : Str) (what num : Int) (v : Str) : Bool:=Q2rq fl && (inR num 1 1000000 && fitsV ks ps what v)
def Qt03 (ks : List Kind) (ps : List Point) (n : Str) : Option Int → List Fld → Bool
 | _,[]=>true
 | prev,f :: fs=>Qh2h ks ps n f.what f.number f.value && ((match prev with | none=>true | some q=>decide (q < f.what)) && Qt03 ks ps n (some f.what) fs)
def Q7i7 (ks : List Kind) (ps : List Point) (e : Entry) : Bool:=Q2rq e.name && (!decide (e.fields.length = 0) && Qt03 ks ps e.name none e.fields)
def Qgea (ks : List Kind) (ps : List Point) : Option Str → List Entry → Bool
 | _,[]=>true
 | prev,e :: es=>Q7i7 ks ps e && (Qe7t prev e.name && Qgea ks ps (some e.name) es)
def Qn0o (ks : List Kind) (ps : List Point) (es : List Entry) : Bool:=Qib4 ks ps && (decide (es.length ≤ 12) && Qgea ks ps none es)
def Qm9f : Ent Ty El:=⟨[.ro],0,fun a h=>match a,h with
 | [.agg [.sl .kind ks,.sl .point ps]],[]=>some (true,.bool (Qib4 ks ps),[])
 | _,_=>none⟩
def Qqwh : Ent Ty El:=⟨[.ro,.ro],0,fun a h=>match a,h with
 | [.agg [.sl .kind ks,.sl .point ps],.sl .str w],[]=>some (decide (ps.length < 1000000000),.bool (Qyhl ps w),[])
 | _,_=>none⟩
def Qr1j : Ent Ty El:=⟨[.ro],0,fun a h=>match a,h with
 | [.sl .str w],[]=>some (true,.bool (Q2es w),[])
 | _,_=>none⟩
end Lx
namespace Lx
open Go Go.Proofs
noncomputable def Qher : RE Ty El:=⟨Tryz.prog,CP,[(Qyp5,Qc4s),(Qne3,Q41f)],Tryz.f124,0,[],[(4,[(1,.any),(2,.any),(5,.any)])]⟩
theorem Qkic : REOK Qher Qyzi:=⟨CP_ok,(TabOK.cons Qzgd (TabOK.cons Qcao Qye1)),by kernel_rfl,by kernel_rfl⟩
theorem Qkoc (ks : List Kind) (ps : List Point) (w : List Str) : aRun Qher 600 false (body0 Qher.fn) (Q4gm Qher.fn [.agg [.sl .kind ks,.sl .point ps],.sl .str w] []) =
 ifb (!inR (↑w.length : Int) (2 : Int) (8 : Int)) (some (.ret (.bool false) [])) (some (.go (Qu6t Qher.fn 4) [.sl .str w,.ptr 0 0,.int .i64 (0 : Int)] [.box [.sl .kind ks,.sl .point ps]])):=by kernel_rfl
theorem Q022 (x0 : List (El .str)) (x1 : Int) (x2 : List (El .kind)) (x3 : List (El .point)) : aRun Qher 600 true (Qu6t Qher.fn 4) (cutSt Qher.fn (Q1m4 Qher (Qu6t Qher.fn 4)) [.sl .str x0,.ptr 0 0,.int .i64 x1] [.box [.sl .kind x2,.sl .point x3]]) =
 ifb (decide (x1 < (↑x0.length : Int))) (ifb (inb x1 x0.length) (ifb (decide (x3.length < (1000000000 : Nat))) (ifb (decide (idxF (fun p=>p.name == x0.getD x1.toNat (Qher.C.dflt Ty.str)) x3 < (0 : Int))) (some (.ret (.bool false) [])) (ifb (decide (x1 > (0 : Int))) (ifb (inb (IntKind.i64.wrap (x1 - (1 : Int))) x0.length) (ifb (inb x1 x0.length) (ifb (x0.getD (IntKind.i64.wrap (x1 - (1 : Int))).toNat (Qher.C.dflt Ty.str) == x0.getD x1.toNat (Qher.C.dflt Ty.str)) (some (.ret (.bool false) [])) (some (.go (Qu6t Qher.fn 4) [.sl .str x0,.ptr 0 0,.int .i64 (IntKind.i64.wrap (x1 + (1 : Int)))] [.box [.sl .kind x2,.sl .point x3]]))) (none)) (none)) (some (.go (Qu6t Qher.fn 4) [.sl .str x0,.ptr 0 0,.int .i64 (IntKind.i64.wrap (x1 + (1 : Int)))] [.box [.sl .kind x2,.sl .point x3]])))) (none)) (none)) (some (.ret (.bool true) [])):=by kernel_rfl
theorem Qe6n (ks : List Kind) (ps : List Point) (w : List Str) (hp : ps.length < 1000000000) (hs : w.length ≤ 8) : ∀ (d i : Nat),i + d = w.length →
  Cut Qher Qyzi 4 [.sl .str w,.ptr 0 0,.int .i64 (i : Int)] [.box [.sl .kind ks,.sl .point ps]] (.bool (Qyf3 ps (w.take i).getLast? (w.drop i))) []:=by
 intro d
 induction d with
 | zero =>
  intro i hi
  refine Cut.of Qkic rfl (Q022 w i ks ps) ?_
  refine Sat.ifb (fun h=>?_) (fun h=>?_)
  ·simp at h; omega
  ·refine Sat.retB ?_ rfl
   rw [List.drop_of_length_le (by omega)]; rfl
 | succ d ih =>
  intro i hi
  refine Cut.of Qkic rfl (Q022 w i ks ps) ?_
  have hlt : i < w.length:=by omega
  have hw : IntKind.wrap .i64 ((i : Int) + 1) = ((i + 1 : Nat) : Int):=by rw [Qbrg] <;> omega
  have hw1 : IntKind.wrap .i64 ((i : Int) - 1) = (i : Int) - 1:=by rw [Qbrg] <;> omega
  have hd : w.drop i = w[i] :: w.drop (i + 1):=List.drop_eq_getElem_cons hlt
  have hx : w.getD (i : Int).toNat (Qher.C.dflt .str) = w[i]:=by simp [hlt]
  have hin : inb (i : Int) w.length = true:=by simp [inb]; omega
  have hl : (w.take (i + 1)).getLast? = some w[i]:=by rw [List.take_succ_eq_append_getElem hlt,List.getLast?_concat]
  have ih':=ih (i + 1) (by omega)
  rw [hl] at ih'
  rw [hw,hw1,hx,hd]
  refine Sat.ifb (fun _=>?_) (fun h=>?_)
  ·refine Sat.ifb (fun _=>?_) (fun h=>?_)
   ·refine Sat.ifb (fun _=>?_) (fun h=>?_)
    ·refine Sat.ifb (fun h=>?_) (fun h=>?_)
     ·refine Sat.retB ?_ rfl
      have : decide (Qigq ps w[i] < 0) = true:=h
      rw [Qyf3,this]; rfl
     ·have hix : decide (Qigq ps w[i] < 0) = false:=h
      refine Sat.ifb (fun h0=>?_) (fun h0=>?_)
      ·have h0' : ((i : Int) > 0):=of_decide_eq_true h0
       have hi1 : i - 1 < w.length:=by omega
       have hx1 : w.getD ((i : Int) - 1).toNat (Qher.C.dflt .str) = w[i - 1]:=by
        rw [show ((i : Int) - 1).toNat = i - 1 by omega]; simp [hi1]
       have hl1 : (w.take i).getLast? = some w[i - 1]:=by
        have:=List.take_succ_eq_append_getElem hi1
        rw [show i - 1 + 1 = i by omega] at this
        rw [this,List.getLast?_concat]
       rw [hx1]
       refine Sat.ifb (fun _=>?_) (fun h=>?_)
       ·refine Sat.ifb (fun _=>?_) (fun h=>?_)
        ·refine Sat.ifb (fun h=>?_) (fun h=>?_)
         ·refine Sat.retB ?_ rfl
          rw [Qyf3,hix,hl1]
          simp [eq_of_beq h]
         ·rw [Qyf3,hix,hl1,show (some w[i - 1] == some w[i]) = false by rw [Option.some_beq_some]; exact h]
          exact Sat.cut ih'
        ·rw [hin] at h; cases h
       ·have : inb ((i : Int) - 1) w.length = true:=by simp only [inb,Bool.and_eq_true,decide_eq_true_eq]; omega
        rw [this] at h; cases h
      ·have h0' : ¬ ((i : Int) > 0):=of_decide_eq_false h0
       have : i = 0:=by omega
       subst this
       rw [Qyf3,hix]
       exact Sat.cut ih'
    ·simp at h; omega
   ·rw [hin] at h; cases h
  ·simp at h; omega
theorem Qiun (ks : List Kind) (ps : List Point) (w : List Str) (hg : decide (ps.length < 1000000000) = true) : Qewq Tryz.prog CP Qyzi [.agg [.sl .kind ks,.sl .point ps],.sl .str w] [] (.bool (Qyhl ps w)) []:=by
 refine Qewq.of Qkic (by kernel_rfl) (Qkoc ks ps w) ?_
 refine Sat.ifb (fun h=>?_) (fun h=>?_)
 ·refine Sat.retB ?_ rfl
  simp at h
  simp [Qyhl,h]
 ·simp at h
  have h':=h
  simp only [inR,Bool.and_eq_true,decide_eq_true_eq] at h'
  have:=Qe6n ks ps w (of_decide_eq_true hg) (by omega) w.length 0 (by omega)
  rw [show Qyhl ps w = Qyf3 ps (w.take 0).getLast? (w.drop 0) by simp [Qyhl,h]]
  exact Sat.cut this
theorem Qhq3 : EntOK Tryz.prog CP Qyzi Qqwh:=by
 refine ⟨⟨Tryz.f124,by kernel_rfl,by kernel_rfl,by kernel_rfl⟩,fun args H res H' h=>?_⟩
 simp only [Qqwh] at h
 split at h
 ·simp only [Option.some.injEq,Prod.mk.injEq] at h
  obtain ⟨hg,rfl,rfl⟩:=h
  exact Qiun _ _ _ hg
 ·cases h

noncomputable def Q64q : RE Ty El:=⟨Tryz.prog,CP,[(Qqw4,Qmli),(Qyp5,Qc4s)],Tryz.f174,0,[],[]⟩
theorem Qait : REOK Q64q Q8pq:=⟨CP_ok,(TabOK.cons Qlxw (TabOK.cons Qzgd Qye1)),by kernel_rfl,by kernel_rfl⟩
theorem Qy7z (w : List Str) : aRun Q64q 600 false (body0 Q64q.fn) (Q4gm Q64q.fn [.sl .str w] []) =
 ifb ((↑w.length : Int) == (2 : Int)) (ifb (inb (0 : Int) w.length) (ifb (decide (numF (w.getD (Int.toNat (0 : Int)) (Q64q.C.dflt Ty.str)) ≥ (0 : Int))) (ifb (inb (1 : Int) w.length) (ifb (inb (0 : Int) w.length) (some (.ret (.bool (inR (numF (w.getD (Int.toNat (1 : Int)) (Q64q.C.dflt Ty.str))) (numF (w.getD (Int.toNat (0 : Int)) (Q64q.C.dflt Ty.str))) (10000 : Int))) [])) (none)) (none)) (some (.ret (.bool false) []))) (none)) (some (.ret (.bool false) [])):=by kernel_rfl
theorem Qpdy (w : List Str) : Qewq Tryz.prog CP Q8pq [.sl .str w] [] (.bool (Q2es w)) []:=by
 refine Qewq.of Qait (by kernel_rfl) (Qy7z w) ?_
 match w with
 | []=>exact Sat.retB rfl rfl
 | [a]=>exact Sat.retB rfl rfl
 | a :: b :: c :: l =>
  refine Sat.ifb (fun h=>?_) (fun h=>?_)
  ·simp at h; omega
  ·exact Sat.retB rfl rfl
 | [a,b] =>
  refine Sat.ifb (fun h=>?_) (fun h=>?_)
  ·repeat' (first | (refine Sat.ifb (fun h=>?_) (fun h=>?_)))
   all_goals (first | (refine Sat.retB ?_ rfl; simp_all [Q2es]; done) | (refine Sat.retB ?_ rfl; simp_all [Q2es]; omega) | (refine Sat.no ?_; simp_all [inb]; done))
  ·simp at h
theorem Qav8 : EntOK Tryz.prog CP Q8pq Qr1j:=by
 refine ⟨⟨Tryz.f174,by kernel_rfl,by kernel_rfl,by kernel_rfl⟩,fun args H res H' h=>?_⟩
 simp only [Qr1j] at h
 split at h
 ·simp only [Option.some.injEq,Prod.mk.injEq] at h
  obtain ⟨hg,rfl,rfl⟩:=h
  exact Qpdy _
 ·cases h
end Lx
namespace Lx
open Go Go.Proofs
noncomputable def Q08e : RE Ty El:=⟨Tryz.prog,CP,[(Qycj,Qaw0),(Qwjz,Q2zc)],Tryz.f123,0,[],[(4,[(1,.any),(3,.any)]),(9,[(1,.any),(4,.any)]),(14,[(1,.any),(4,.any),(5,.any)])]⟩
theorem Qq0g : REOK Q08e Qxas:=⟨CP_ok,(TabOK.cons Qnkx (TabOK.cons Ql10 Qye1)),by kernel_rfl,by kernel_rfl⟩
theorem Qq36 (ks : List Kind) (ps : List Point) : aRun Q08e 600 false (body0 Q08e.fn) (Q4gm Q08e.fn [.agg [.sl .kind ks,.sl .point ps]] []) =
 ifb (decide ((↑ks.length : Int) > (6 : Int))) (some (.ret (.bool false) [])) (ifb (decide ((↑ps.length : Int) > (16 : Int))) (some (.ret (.bool false) [])) (some (.go (Qu6t Q08e.fn 4) [.ptr 0 0,.int .i64 (0 : Int)] [.box [.sl .kind ks,.sl .point ps]]))):=by kernel_rfl
theorem Qgi7 (x0 : Int) (x1 : List (El .kind)) (x2 : List (El .point)) : aRun Q08e 600 true (Qu6t Q08e.fn 4) (cutSt Q08e.fn (Q1m4 Q08e (Qu6t Q08e.fn 4)) [.ptr 0 0,.int .i64 x0] [.box [.sl .kind x1,.sl .point x2]]) =
 ifb (decide (x0 < (↑x1.length : Int))) (ifb (inb x0 x1.length) (ifb (!Kind.ok (x1.getD x0.toNat (Q08e.C.dflt Ty.kind))) (some (.ret (.bool false) [])) (ifb (decide (x0 > (0 : Int))) (ifb (inb (IntKind.i64.wrap (x0 - (1 : Int))) x1.length) (ifb (inb x0 x1.length) (ifb (!Q7zj (x1.getD (IntKind.i64.wrap (x0 - (1 : Int))).toNat (Q08e.C.dflt Ty.kind)).name (x1.getD x0.toNat (Q08e.C.dflt Ty.kind)).name) (some (.ret (.bool false) [])) (some (.go (Qu6t Q08e.fn 4) [.ptr 0 0,.int .i64 (IntKind.i64.wrap (x0 + (1 : Int)))] [.box [.sl .kind x1,.sl .point x2]]))) (none)) (none)) (some (.go (Qu6t Q08e.fn 4) [.ptr 0 0,.int .i64 (IntKind.i64.wrap (x0 + (1 : Int)))] [.box [.sl .kind x1,.sl .point x2]])))) (none)) (some (.go (Qu6t Q08e.fn 9) [.ptr 0 0,.int .i64 (0 : Int)] [.box [.sl .kind x1,.sl .point x2]])):=by kernel_rfl
theorem Quva (x0 : Int) (x1 : List (El .kind)) (x2 : List (El .point)) : aRun Q08e 600 true (Qu6t Q08e.fn 9) (cutSt Q08e.fn (Q1m4 Q08e (Qu6t Q08e.fn 9)) [.ptr 0 0,.int .i64 x0] [.box [.sl .kind x1,.sl .point x2]]) =
 ifb (decide (x0 < (↑x2.length : Int))) (ifb (inb x0 x2.length) (ifb (!Point.ok (x2.getD x0.toNat (Q08e.C.dflt Ty.point))) (some (.ret (.bool false) [])) (ifb (decide (x0 > (0 : Int))) (ifb (inb (IntKind.i64.wrap (x0 - (1 : Int))) x2.length) (ifb (inb x0 x2.length) (ifb (!Q7zj (x2.getD (IntKind.i64.wrap (x0 - (1 : Int))).toNat (Q08e.C.dflt Ty.point)).name (x2.getD x0.toNat (Q08e.C.dflt Ty.point)).name) (some (.ret (.bool false) [])) (some (.go (Qu6t Q08e.fn 14) [.ptr 0 0,.int .i64 x0,.int .i64 (0 : Int)] [.box [.sl .kind x1,.sl .point x2]]))) (none)) (none)) (some (.go (Qu6t Q08e.fn 14) [.ptr 0 0,.int .i64 x0,.int .i64 (0 : Int)] [.box [.sl .kind x1,.sl .point x2]])))) (none)) (some (.ret (.bool true) [])):=by kernel_rfl
theorem Qrrs (x0 : Int) (x1 : Int) (x2 : List (El .kind)) (x3 : List (El .point)) : aRun Q08e 600 true (Qu6t Q08e.fn 14) (cutSt Q08e.fn (Q1m4 Q08e (Qu6t Q08e.fn 14)) [.ptr 0 0,.int .i64 x0,.int .i64 x1] [.box [.sl .kind x2,.sl .point x3]]) =
 ifb (decide (x1 < x0)) (ifb (inb x1 x3.length) (ifb (inb x0 x3.length) (ifb ((x3.getD x1.toNat (Q08e.C.dflt Ty.point)).x == (x3.getD x0.toNat (Q08e.C.dflt Ty.point)).x) (ifb (inb x1 x3.length) (ifb (inb x0 x3.length) (ifb ((x3.getD x1.toNat (Q08e.C.dflt Ty.point)).y == (x3.getD x0.toNat (Q08e.C.dflt Ty.point)).y) (some (.ret (.bool false) [])) (some (.go (Qu6t Q08e.fn 14) [.ptr 0 0,.int .i64 x0,.int .i64 (IntKind.i64.wrap (x1 + (1 : Int)))] [.box [.sl .kind x2,.sl .point x3]]))) (none)) (none)) (some (.go (Qu6t Q08e.fn 14) [.ptr 0 0,.int .i64 x0,.int .i64 (IntKind.i64.wrap (x1 + (1 : Int)))] [.box [.sl .kind x2,.sl .point x3]]))) (none)) (none)) (some (.go (Qu6t Q08e.fn 9) [.ptr 0 0,.int .i64 (IntKind.i64.wrap (x0 + (1 : Int)))] [.box [.sl .kind x2,.sl .point x3]])):=by kernel_rfl
theorem l77i (ks : List Kind) (ps : List Point) (hp : ps.length ≤ 16) (i : Nat) (hi : i < ps.length) (nx : Bool) (h9 : Cut Q08e Qxas 9 [.ptr 0 0,.int .i64 ((i + 1 : Nat) : Int)] [.box [.sl .kind ks,.sl .point ps]] (.bool nx) []) : ∀ (d k : Nat),k + d = i →
  Cut Q08e Qxas 14 [.ptr 0 0,.int .i64 (i : Int),.int .i64 (k : Int)] [.box [.sl .kind ks,.sl .point ps]] (.bool (Q343 ((ps.take i).drop k) ps[i] && nx)) []:=by
 have hwi : IntKind.wrap .i64 ((i : Int) + 1) = ((i + 1 : Nat) : Int):=by rw [Qbrg] <;> omega
 have hxi : ps.getD (i : Int).toNat (Q08e.C.dflt .point) = ps[i]:=by simp [hi]
 have hini : inb (i : Int) ps.length = true:=by simp only [inb,Bool.and_eq_true,decide_eq_true_eq]; omega
 intro d
 induction d with
 | zero =>
  intro k hk
  refine Cut.of Qq0g rfl (Qrrs i k ks ps) ?_
  rw [hwi]
  refine Sat.ifb (fun h=>?_) (fun h=>?_)
  ·simp at h; omega
  ·have : (ps.take i).drop k = []:=List.drop_of_length_le (by simp; omega)
   rw [this]
   exact Sat.cut h9
 | succ d ih =>
  intro k hk
  refine Cut.of Qq0g rfl (Qrrs i k ks ps) ?_
  have hlt : k < ps.length:=by omega
  have hlt2 : k < (ps.take i).length:=by simp; omega
  have hw : IntKind.wrap .i64 ((k : Int) + 1) = ((k + 1 : Nat) : Int):=by rw [Qbrg] <;> omega
  have hx : ps.getD (k : Int).toNat (Q08e.C.dflt .point) = ps[k]:=by simp [hlt]
  have hink : inb (k : Int) ps.length = true:=by simp only [inb,Bool.and_eq_true,decide_eq_true_eq]; omega
  have hd : (ps.take i).drop k = ps[k] :: (ps.take i).drop (k + 1):=by rw [List.drop_eq_getElem_cons hlt2,List.getElem_take]
  rw [hw,hx,hxi,hd]
  have hcons : ∀ l,Q343 (ps[k] :: l) ps[i] = (!(ps[k].x == ps[i].x && ps[k].y == ps[i].y) && Q343 l ps[i]):=fun l=>rfl
  rw [hcons]
  refine Sat.ifb (fun _=>?_) (fun h=>?_)
  ·refine Sat.ifb (fun _=>?_) (fun h=>?_)
   ·refine Sat.ifb (fun _=>?_) (fun h=>?_)
    ·refine Sat.ifb (fun ha=>?_) (fun ha=>?_)
     ·refine Sat.ifb (fun _=>?_) (fun h=>?_)
      ·refine Sat.ifb (fun _=>?_) (fun h=>?_)
       ·refine Sat.ifb (fun hb=>?_) (fun hb=>?_)
        ·refine Sat.retB ?_ rfl
         rw [ha,hb]; rfl
        ·rw [ha,hb]
         exact Sat.cut (ih (k + 1) (by omega))
       ·rw [hini] at h; cases h
      ·rw [hink] at h; cases h
     ·rw [ha]
      exact Sat.cut (ih (k + 1) (by omega))
    ·rw [hini] at h; cases h
   ·rw [hink] at h; cases h
  ·simp at h; omega
theorem l77p (ks : List Kind) (ps : List Point) (hp : ps.length ≤ 16) : ∀ (d i : Nat),i + d = ps.length →
  Cut Q08e Qxas 9 [.ptr 0 0,.int .i64 (i : Int)] [.box [.sl .kind ks,.sl .point ps]] (.bool (Qaym (ps.take i) ((ps.take i).getLast?.map (·.name)) (ps.drop i))) []:=by
 intro d
 induction d with
 | zero =>
  intro i hi
  refine Cut.of Qq0g rfl (Quva i ks ps) ?_
  refine Sat.ifb (fun h=>?_) (fun h=>?_)
  ·simp at h; omega
  ·refine Sat.retB ?_ rfl
   rw [List.drop_of_length_le (by omega)]; rfl
 | succ d ih =>
  intro i hi
  refine Cut.of Qq0g rfl (Quva i ks ps) ?_
  have hlt : i < ps.length:=by omega
  have hw1 : IntKind.wrap .i64 ((i : Int) - 1) = (i : Int) - 1:=by rw [Qbrg] <;> omega
  have hd : ps.drop i = ps[i] :: ps.drop (i + 1):=List.drop_eq_getElem_cons hlt
  have hx : ps.getD (i : Int).toNat (Q08e.C.dflt .point) = ps[i]:=by simp [hlt]
  have hin : inb (i : Int) ps.length = true:=by simp only [inb,Bool.and_eq_true,decide_eq_true_eq]; omega
  have hl : (ps.take (i + 1)).getLast? = some ps[i]:=by rw [List.take_succ_eq_append_getElem hlt,List.getLast?_concat]
  have ih':=ih (i + 1) (by omega)
  rw [hl,Option.map_some] at ih'
  have inner:=l77i ks ps hp i hlt _ ih' i 0 (by omega)
  rw [List.drop_zero] at inner
  rw [hw1,hx,hd,Qaym,← List.take_succ_eq_append_getElem hlt]
  refine Sat.ifb (fun _=>?_) (fun h=>?_)
  ·refine Sat.ifb (fun _=>?_) (fun h=>?_)
   ·refine Sat.ifb (fun h=>?_) (fun h=>?_)
    ·refine Sat.retB ?_ rfl
     simp at h
     rw [h]; rfl
    ·simp at h
     rw [h,Bool.true_and]
     refine Sat.ifb (fun h0=>?_) (fun h0=>?_)
     ·have h0' : ((i : Int) > 0):=of_decide_eq_true h0
      have hi1 : i - 1 < ps.length:=by omega
      have hx1 : ps.getD ((i : Int) - 1).toNat (Q08e.C.dflt .point) = ps[i - 1]:=by
       rw [show ((i : Int) - 1).toNat = i - 1 by omega]; simp [hi1]
      have hl1 : (ps.take i).getLast? = some ps[i - 1]:=by
       have:=List.take_succ_eq_append_getElem hi1
       rw [show i - 1 + 1 = i by omega] at this
       rw [this,List.getLast?_concat]
      rw [hx1,hl1]
      refine Sat.ifb (fun _=>?_) (fun h=>?_)
      ·refine Sat.ifb (fun _=>?_) (fun h=>?_)
       ·refine Sat.ifb (fun h=>?_) (fun h=>?_)
        ·refine Sat.retB ?_ rfl
         simp at h
         simp only [Option.map_some,Qe7t]
         rw [h]; rfl
        ·simp at h
         simp only [Option.map_some,Qe7t]
         rw [h,Bool.true_and]
         exact Sat.cut inner
       ·rw [hin] at h; cases h
      ·have : inb ((i : Int) - 1) ps.length = true:=by simp only [inb,Bool.and_eq_true,decide_eq_true_eq]; omega
       rw [this] at h; cases h
     ·have h0' : ¬ ((i : Int) > 0):=of_decide_eq_false h0
      have : i = 0:=by omega
      subst this
      exact Sat.cut inner
   ·rw [hin] at h; cases h
  ·simp at h; omega
theorem l77k (ks : List Kind) (ps : List Point) (hk : ks.length ≤ 6) (hp : ps.length ≤ 16) : ∀ (d i : Nat),i + d = ks.length →
  Cut Q08e Qxas 4 [.ptr 0 0,.int .i64 (i : Int)] [.box [.sl .kind ks,.sl .point ps]] (.bool (Qh9e ((ks.take i).getLast?.map (·.name)) (ks.drop i) && Qaym [] none ps)) []:=by
 intro d
 induction d with
 | zero =>
  intro i hi
  refine Cut.of Qq0g rfl (Qgi7 i ks ps) ?_
  refine Sat.ifb (fun h=>?_) (fun h=>?_)
  ·simp at h; omega
  ·rw [List.drop_of_length_le (by omega)]
   have:=l77p ks ps hp ps.length 0 (by omega)
   exact Sat.cut this
 | succ d ih =>
  intro i hi
  refine Cut.of Qq0g rfl (Qgi7 i ks ps) ?_
  have hlt : i < ks.length:=by omega
  have hw : IntKind.wrap .i64 ((i : Int) + 1) = ((i + 1 : Nat) : Int):=by rw [Qbrg] <;> omega
  have hw1 : IntKind.wrap .i64 ((i : Int) - 1) = (i : Int) - 1:=by rw [Qbrg] <;> omega
  have hd : ks.drop i = ks[i] :: ks.drop (i + 1):=List.drop_eq_getElem_cons hlt
  have hx : ks.getD (i : Int).toNat (Q08e.C.dflt .kind) = ks[i]:=by simp [hlt]
  have hin : inb (i : Int) ks.length = true:=by simp only [inb,Bool.and_eq_true,decide_eq_true_eq]; omega
  have hl : (ks.take (i + 1)).getLast? = some ks[i]:=by rw [List.take_succ_eq_append_getElem hlt,List.getLast?_concat]
  have ih':=ih (i + 1) (by omega)
  rw [hl,Option.map_some] at ih'
  rw [hw,hw1,hx,hd,Qh9e]
  refine Sat.ifb (fun _=>?_) (fun h=>?_)
  ·refine Sat.ifb (fun _=>?_) (fun h=>?_)
   ·refine Sat.ifb (fun h=>?_) (fun h=>?_)
    ·refine Sat.retB ?_ rfl
     simp at h
     rw [h]; rfl
    ·simp at h
     rw [h,Bool.true_and]
     refine Sat.ifb (fun h0=>?_) (fun h0=>?_)
     ·have h0' : ((i : Int) > 0):=of_decide_eq_true h0
      have hi1 : i - 1 < ks.length:=by omega
      have hx1 : ks.getD ((i : Int) - 1).toNat (Q08e.C.dflt .kind) = ks[i - 1]:=by
       rw [show ((i : Int) - 1).toNat = i - 1 by omega]; simp [hi1]
      have hl1 : (ks.take i).getLast? = some ks[i - 1]:=by
       have:=List.take_succ_eq_append_getElem hi1
       rw [show i - 1 + 1 = i by omega] at this
       rw [this,List.getLast?_concat]
      rw [hx1,hl1]
      refine Sat.ifb (fun _=>?_) (fun h=>?_)
      ·refine Sat.ifb (fun _=>?_) (fun h=>?_)
       ·refine Sat.ifb (fun h=>?_) (fun h=>?_)
        ·refine Sat.retB ?_ rfl
         simp at h
         simp only [Option.map_some,Qe7t]
         rw [h]; rfl
        ·simp at h
         simp only [Option.map_some,Qe7t]
         rw [h,Bool.true_and]
         exact Sat.cut ih'
       ·rw [hin] at h; cases h
      ·have : inb ((i : Int) - 1) ks.length = true:=by simp only [inb,Bool.and_eq_true,decide_eq_true_eq]; omega
       rw [this] at h; cases h
     ·have h0' : ¬ ((i : Int) > 0):=of_decide_eq_false h0
      have : i = 0:=by omega
      subst this
      exact Sat.cut ih'
   ·rw [hin] at h; cases h
  ·simp at h; omega
theorem Qtmy (ks : List Kind) (ps : List Point) : Qewq Tryz.prog CP Qxas [.agg [.sl .kind ks,.sl .point ps]] [] (.bool (Qib4 ks ps)) []:=by
 refine Qewq.of Qq0g (by kernel_rfl) (Qq36 ks ps) ?_
 refine Sat.ifb (fun h=>?_) (fun h=>?_)
 ·refine Sat.retB ?_ rfl
  simp at h
  have : ¬ ks.length ≤ 6:=by omega
  simp [Qib4,this]
 ·refine Sat.ifb (fun h2=>?_) (fun h2=>?_)
  ·refine Sat.retB ?_ rfl
   simp at h2
   have : ¬ ps.length ≤ 16:=by omega
   simp [Qib4,this]
  ·simp at h h2
   have a : ks.length ≤ 6:=by omega
   have b : ps.length ≤ 16:=by omega
   have:=l77k ks ps a b ks.length 0 (by omega)
   rw [show Qib4 ks ps = (Qh9e ((ks.take 0).getLast?.map (·.name)) (ks.drop 0) && Qaym [] none ps) by simp [Qib4,a,b]]
   exact Sat.cut this
theorem Q8a6 : EntOK Tryz.prog CP Qxas Qm9f:=by
 refine ⟨⟨Tryz.f123,by kernel_rfl,by kernel_rfl,by kernel_rfl⟩,fun args H res H' h=>?_⟩
 simp only [Qm9f] at h
 split at h
 ·simp only [Option.some.injEq,Prod.mk.injEq] at h
  obtain ⟨hg,rfl,rfl⟩:=h
  exact Qtmy _ _
 ·cases h
end Lx
namespace Lx
open Go Go.Proofs
def szV (v : Str) : Bool:=decide (v.length ≤ 1000000000)
def szE (e : Entry) : Bool:=decide (e.fields.length ≤ 1000000000) && e.fields.all (fun f=>szV f.value)
def szB (es : List Entry) : Bool:=decide (es.length ≤ 1000000000) && es.all szE
def Qyds : Ent Ty El:=⟨[.ro,.ro,.ro],0,fun a h=>match a,h with
 | [.agg [.sl .kind ks,.sl .point ps],.int .i64 what,.str v],[]=>some (szV v,.bool (Qib4 ks ps && fitsV ks ps what v),[])
 | _,_=>none⟩
def Quoo : Ent Ty El:=⟨[.ro,.ro],0,fun a h=>match a,h with
 | [.agg [.sl .kind ks,.sl .point ps],.agg [.str fl,.int .i64 what,.int .i64 num,.str v]],[]=>some (szV v,.bool (Q2rq fl && (inR num 1 1000000 && (Qib4 ks ps && fitsV ks ps what v))),[])
 | _,_=>none⟩
end Lx
namespace Lx
open Go Go.Proofs
noncomputable def Qtj4 : RE Ty El:=⟨Tryz.prog,CP,[(Qxas,Qm9f),(Q001,Qi2p),(Q780,Qqer),(Q8pq,Qr1j),(Qqw4,Qmli),(Qyp5,Qc4s),(Qyzi,Qqwh)],Tryz.f96,0,[],[]⟩
theorem Q1dh : REOK Qtj4 Q37p:=⟨CP_ok,(TabOK.cons Q8a6 (TabOK.cons Ql4s (TabOK.cons Qlgy (TabOK.cons Qav8 (TabOK.cons Qlxw (TabOK.cons Qzgd (TabOK.cons Qhq3 Qye1))))))),by kernel_rfl,by kernel_rfl⟩
theorem Q1hn (ks : List Kind) (ps : List Point) (what : Int) (v : Str) : aRun Qtj4 600 false (body0 Qtj4.fn) (Q4gm Qtj4.fn [.agg [.sl .kind ks,.sl .point ps],.int .i64 what,.str v] []) =
 ifb (!Qib4 ks ps) (some (.ret (.bool false) [])) (ifb (decide (List.length v ≤ (1000000000 : Nat))) (ifb (what == (1 : Int)) (ifb (decide (ks.length < (1000000000 : Nat))) (some (.ret (.bool (decide (idxF (fun p=>p.name == v) ks ≥ (0 : Int)))) [])) (none)) (ifb (what == (2 : Int)) (some (.ret (.bool (Q2es (cutS (32 : Int) v))) [])) (ifb (what == (3 : Int)) (some (.ret (.bool (inR (numF v) (1 : Int) (6 : Int))) [])) (ifb (what == (4 : Int)) (ifb (decide (ps.length < (1000000000 : Nat))) (some (.ret (.bool (Qyhl ps (cutS (32 : Int) v))) [])) (none)) (ifb (what == (5 : Int)) (ifb (v == #[(111 : UInt8),(112 : UInt8),(101 : UInt8),(110 : UInt8)].toList) (some (.ret (.bool true) [])) (some (.ret (.bool (v == #[(99 : UInt8),(108 : UInt8),(111 : UInt8),(115 : UInt8),(101 : UInt8),(100 : UInt8)].toList)) []))) (some (.ret (.bool false) []))))))) (none)):=by kernel_rfl
theorem Qc4w (ks : List Kind) (ps : List Point) (what : Int) (v : Str) (hg : szV v = true) : Qewq Tryz.prog CP Q37p [.agg [.sl .kind ks,.sl .point ps],.int .i64 what,.str v] [] (.bool (Qib4 ks ps && fitsV ks ps what v)) []:=by
 refine Qewq.of Q1dh (by kernel_rfl) (Q1hn ks ps what v) ?_
 have hv : decide (v.length ≤ 1000000000) = true:=hg
 refine Sat.ifb (fun h=>?_) (fun h=>?_)
 ·refine Sat.retB ?_ rfl
  simp at h
  rw [h]; rfl
 ·simp at h
  have hlen : ks.length < 1000000000 ∧ ps.length < 1000000000:=by
   simp only [Qib4,Bool.and_eq_true,decide_eq_true_eq] at h; omega
  rw [h,Bool.true_and]
  repeat' (first | (refine Sat.ifb (fun h=>?_) (fun h=>?_)))
  all_goals (first | (refine Sat.no ?_; simp_all; done) | (refine Sat.no ?_; simp_all; omega) | (refine Sat.retB ?_ rfl; simp_all [fitsV,Qh2z,wOpen,Qupw]; done) | (refine Sat.retB ?_ rfl; simp_all [fitsV,Qh2z,wOpen,Qupw]; rfl) | (refine Sat.retB ?_ rfl; simp_all [fitsV,Qh2z,wOpen,Qupw]; congr))
theorem Q52v : EntOK Tryz.prog CP Q37p Qyds:=by
 refine ⟨⟨Tryz.f96,by kernel_rfl,by kernel_rfl,by kernel_rfl⟩,fun args H res H' h=>?_⟩
 simp only [Qyds] at h
 split at h
 ·simp only [Option.some.injEq,Prod.mk.injEq] at h
  obtain ⟨hg,rfl,rfl⟩:=h
  exact Qc4w _ _ _ _ hg
 ·cases h

noncomputable def Qn69 : RE Ty El:=⟨Tryz.prog,CP,[(Qnn1,Q4bc),(Qyp5,Qc4s),(Q37p,Qyds)],Tryz.f24,0,[],[]⟩
theorem Qsk1 : REOK Qn69 Qvuj:=⟨CP_ok,(TabOK.cons Q7n8 (TabOK.cons Qzgd (TabOK.cons Q52v Qye1))),by kernel_rfl,by kernel_rfl⟩
theorem Q328 (ks : List Kind) (ps : List Point) (fl : Str) (what num : Int) (v : Str) : aRun Qn69 600 false (body0 Qn69.fn) (Q4gm Qn69.fn [.agg [.sl .kind ks,.sl .point ps],.agg [.str fl,.int .i64 what,.int .i64 num,.str v]] []) =
 ifb (Q2rq fl) (ifb (inR num (1 : Int) (1000000 : Int)) (ifb (szV v) (some (.ret (.bool (Qib4 ks ps && fitsV ks ps what v)) [])) (none)) (some (.ret (.bool false) []))) (some (.ret (.bool false) [])):=by kernel_rfl
theorem Qif6 (ks : List Kind) (ps : List Point) (fl : Str) (what num : Int) (v : Str) (hg : szV v = true) : Qewq Tryz.prog CP Qvuj [.agg [.sl .kind ks,.sl .point ps],.agg [.str fl,.int .i64 what,.int .i64 num,.str v]] [] (.bool (Q2rq fl && (inR num 1 1000000 && (Qib4 ks ps && fitsV ks ps what v)))) []:=by
 refine Qewq.of Qsk1 (by kernel_rfl) (Q328 ks ps fl what num v) ?_
 repeat' (first | (refine Sat.ifb (fun h=>?_) (fun h=>?_)) | (refine Sat.retB ?_ rfl; simp_all []; done) | (refine Sat.retI ?_ rfl; simp_all []; done))
 all_goals (first | (refine Sat.no ?_; simp_all; done) | (refine Sat.no ?_; simp_all; omega) | (refine Sat.retB ?_ rfl; simp_all []; omega) | (refine Sat.retI ?_ rfl; simp_all []; omega))
theorem Q336 : EntOK Tryz.prog CP Qvuj Quoo:=by
 refine ⟨⟨Tryz.f24,by kernel_rfl,by kernel_rfl,by kernel_rfl⟩,fun args H res H' h=>?_⟩
 simp only [Quoo] at h
 split at h
 ·simp only [Option.some.injEq,Prod.mk.injEq] at h
  obtain ⟨hg,rfl,rfl⟩:=h
  exact Qif6 _ _ _ _ _ _ hg
 ·cases h
end Lx
namespace Lx
open Go Go.Proofs
def Q0id (ks : List Kind) (ps : List Point) (n : Str) : Option Int → List Fld → Bool
 | _,[]=>true
 | prev,f :: fs=>(Q2rq n && (inR f.number 1 1000000 && (Qib4 ks ps && fitsV ks ps f.what f.value))) && ((match prev with | none=>true | some q=>decide (q < f.what)) && Q0id ks ps n (some f.what) fs)
theorem Qr3j {ks : List Kind} {ps : List Point} {n : Str} {prev : Option Int} {f : Fld} {fs : List Fld} : Q0id ks ps n prev (f :: fs) = ((Q2rq n && (inR f.number 1 1000000 && (Qib4 ks ps && fitsV ks ps f.what f.value))) && ((match prev with | none=>true | some q=>decide (q < f.what)) && Q0id ks ps n (some f.what) fs)):=by cases prev <;> rfl
def Qq5k (ks : List Kind) (ps : List Point) (e : Entry) : Bool:=Q2rq e.name && (!decide (e.fields.length = 0) && Q0id ks ps e.name none e.fields)
theorem Qscs {ks : List Kind} {ps : List Point} {n : Str} (h : Qib4 ks ps = true) : ∀ (fs : List Fld) (prev : Option Int),Q0id ks ps n prev fs = Qt03 ks ps n prev fs
 | [],_=>rfl
 | f :: fs,prev=>by cases prev <;> simp only [Q0id,Qt03,Qscs h fs,Qh2h,h,Bool.true_and]
theorem Qo0k {ks : List Kind} {ps : List Point} (h : Qib4 ks ps = true) (e : Entry) : Qq5k ks ps e = Q7i7 ks ps e:=by rw [Qq5k,Q7i7,Qscs h]
def Qmv8 : Ent Ty El:=⟨[.ro,.ro],0,fun a h=>match a,h with
 | [.agg [.sl .kind ks,.sl .point ps],.agg [.str n,.sl .fld fs]],[]=>some (szE ⟨n,fs⟩,.bool (Qq5k ks ps ⟨n,fs⟩),[])
 | _,_=>none⟩
def Q124 : Ent Ty El:=⟨[.ro],0,fun a h=>match a,h with
 | [.agg [.sl .kind ks,.sl .point ps,.sl .entry es]],[]=>some (szB es,.bool (Qn0o ks ps es),[])
 | _,_=>none⟩
end Lx
namespace Lx
open Go Go.Proofs
noncomputable def Qbtj : RE Ty El:=⟨Tryz.prog,CP,[(Qnn1,Q4bc),(Qvuj,Quoo)],Tryz.f141,0,[],[(4,[(2,.any),(3,.any),(5,.any)])]⟩
theorem Q3hh : REOK Qbtj Qyl6:=⟨CP_ok,(TabOK.cons Q7n8 (TabOK.cons Q336 Qye1)),by kernel_rfl,by kernel_rfl⟩
theorem Qfx3 (ks : List Kind) (ps : List Point) (n : Str) (fs : List Fld) : aRun Qbtj 600 false (body0 Qbtj.fn) (Q4gm Qbtj.fn [.agg [.sl .kind ks,.sl .point ps],.agg [.str n,.sl .fld fs]] []) =
 ifb (!Q2rq n) (some (.ret (.bool false) [])) (ifb ((↑fs.length : Int) == (0 : Int)) (some (.ret (.bool false) [])) (some (.go (Qu6t Qbtj.fn 4) [.ptr 0 0,.ptr 1 0,.int .i64 (0 : Int)] [.box [.sl .kind ks,.sl .point ps],.box [.str n,.sl .fld fs]]))):=by kernel_rfl
theorem Ql3m (x0 : Int) (x1 : List (El .kind)) (x2 : List (El .point)) (x3 : Str) (x4 : List (El .fld)) : aRun Qbtj 600 true (Qu6t Qbtj.fn 4) (cutSt Qbtj.fn (Q1m4 Qbtj (Qu6t Qbtj.fn 4)) [.ptr 0 0,.ptr 1 0,.int .i64 x0] [.box [.sl .kind x1,.sl .point x2],.box [.str x3,.sl .fld x4]]) =
 ifb (decide (x0 < (↑x4.length : Int))) (ifb (inb x0 x4.length) (ifb (szV (x4.getD x0.toNat (Qbtj.C.dflt Ty.fld)).value) (ifb (!(Q2rq x3 && (inR (x4.getD x0.toNat (Qbtj.C.dflt Ty.fld)).number (1 : Int) (1000000 : Int) && (Qib4 x1 x2 && fitsV x1 x2 (x4.getD x0.toNat (Qbtj.C.dflt Ty.fld)).what (x4.getD x0.toNat (Qbtj.C.dflt Ty.fld)).value)))) (some (.ret (.bool false) [])) (ifb (decide (x0 > (0 : Int))) (ifb (inb (IntKind.i64.wrap (x0 - (1 : Int))) x4.length) (ifb (decide ((x4.getD (IntKind.i64.wrap (x0 - (1 : Int))).toNat (Qbtj.C.dflt Ty.fld)).what ≥ (x4.getD x0.toNat (Qbtj.C.dflt Ty.fld)).what)) (some (.ret (.bool false) [])) (some (.go (Qu6t Qbtj.fn 4) [.ptr 0 0,.ptr 1 0,.int .i64 (IntKind.i64.wrap (x0 + (1 : Int)))] [.box [.sl .kind x1,.sl .point x2],.box [.str x3,.sl .fld x4]]))) (none)) (some (.go (Qu6t Qbtj.fn 4) [.ptr 0 0,.ptr 1 0,.int .i64 (IntKind.i64.wrap (x0 + (1 : Int)))] [.box [.sl .kind x1,.sl .point x2],.box [.str x3,.sl .fld x4]])))) (none)) (none)) (some (.ret (.bool true) [])):=by kernel_rfl
theorem Q5fs (ks : List Kind) (ps : List Point) (n : Str) (fs : List Fld) (hl : fs.length ≤ 1000000000) (hz : ∀ f ∈ fs,szV f.value = true) : ∀ (d i : Nat),i + d = fs.length → Cut Qbtj Qyl6 4 [.ptr 0 0,.ptr 1 0,.int .i64 (i : Int)] [.box [.sl .kind ks,.sl .point ps],.box [.str n,.sl .fld fs]] (.bool (Q0id ks ps n ((fs.take i).getLast?.map (·.what)) (fs.drop i))) []:=by
 intro d
 induction d with
 | zero =>
  intro i hi
  refine Cut.of Q3hh rfl (Ql3m i ks ps n fs) ?_
  refine Sat.ifb (fun h=>?_) (fun h=>?_)
  ·simp at h; omega
  ·refine Sat.retB ?_ rfl
   rw [List.drop_of_length_le (by omega)]; rfl
 | succ d ih =>
  intro i hi
  refine Cut.of Q3hh rfl (Ql3m i ks ps n fs) ?_
  have hlt : i < fs.length:=by omega
  have hw : IntKind.wrap .i64 ((i : Int) + 1) = ((i + 1 : Nat) : Int):=by rw [Qbrg] <;> omega
  have hw1 : IntKind.wrap .i64 ((i : Int) - 1) = (i : Int) - 1:=by rw [Qbrg] <;> omega
  have hd : fs.drop i = fs[i] :: fs.drop (i + 1):=List.drop_eq_getElem_cons hlt
  have hx : fs.getD (i : Int).toNat (Qbtj.C.dflt .fld) = fs[i]:=by simp [hlt]
  have hin : inb (i : Int) fs.length = true:=by simp only [inb,Bool.and_eq_true,decide_eq_true_eq]; omega
  have hl : (fs.take (i + 1)).getLast? = some fs[i]:=by rw [List.take_succ_eq_append_getElem hlt,List.getLast?_concat]
  have hsz : szV fs[i].value = true:=hz _ (List.getElem_mem hlt)
  have ih':=ih (i + 1) (by omega)
  rw [hl,Option.map_some] at ih'
  rw [hw,hw1,hx,hd,Qr3j]
  refine Sat.ifb (fun _=>?_) (fun h=>?_)
  ·refine Sat.ifb (fun _=>?_) (fun h=>?_)
   ·refine Sat.ifb (fun _=>?_) (fun h=>?_)
    ·refine Sat.ifb (fun h=>?_) (fun h=>?_)
     ·refine Sat.retB ?_ rfl
      rw [Bool.not_eq_true'] at h
      skip
      rw [h]; rfl
     ·rw [Bool.not_eq_false'] at h
      skip
      rw [h,Bool.true_and]
      refine Sat.ifb (fun h0=>?_) (fun h0=>?_)
      ·have h0' : ((i : Int) > 0):=of_decide_eq_true h0
       have hi1 : i - 1 < fs.length:=by omega
       have hx1 : fs.getD ((i : Int) - 1).toNat (Qbtj.C.dflt .fld) = fs[i - 1]:=by
        rw [show ((i : Int) - 1).toNat = i - 1 by omega]; simp [hi1]
       have hl1 : (fs.take i).getLast? = some fs[i - 1]:=by
        have:=List.take_succ_eq_append_getElem hi1
        rw [show i - 1 + 1 = i by omega] at this
        rw [this,List.getLast?_concat]
       rw [hx1,hl1]
       refine Sat.ifb (fun _=>?_) (fun h=>?_)
       ·refine Sat.ifb (fun h=>?_) (fun h=>?_)
        ·refine Sat.retB ?_ rfl
         have h' : fs[i - 1].what ≥ fs[i].what:=of_decide_eq_true h
         have : decide (fs[i - 1].what < fs[i].what) = false:=by simp; omega
         simp only [Option.map_some]
         rw [this]; rfl
        ·have h' : ¬ fs[i - 1].what ≥ fs[i].what:=of_decide_eq_false h
         have : decide (fs[i - 1].what < fs[i].what) = true:=by simp; omega
         simp only [Option.map_some]
         rw [this,Bool.true_and]
         exact Sat.cut ih'
       ·have : inb ((i : Int) - 1) fs.length = true:=by simp only [inb,Bool.and_eq_true,decide_eq_true_eq]; omega
        rw [this] at h; cases h
      ·have h0' : ¬ ((i : Int) > 0):=of_decide_eq_false h0
       have : i = 0:=by omega
       subst this
       exact Sat.cut ih'
    ·rw [hsz] at h; cases h
   ·rw [hin] at h; cases h
  ·simp at h; omega
theorem Q0o3 (ks : List Kind) (ps : List Point) (n : Str) (fs : List Fld) (hg : szE ⟨n,fs⟩ = true) : Qewq Tryz.prog CP Qyl6 [.agg [.sl .kind ks,.sl .point ps],.agg [.str n,.sl .fld fs]] [] (.bool (Qq5k ks ps ⟨n,fs⟩)) []:=by
 refine Qewq.of Q3hh (by kernel_rfl) (Qfx3 ks ps n fs) ?_
 have hg':=hg
 simp only [szE,Bool.and_eq_true,decide_eq_true_eq,List.all_eq_true] at hg'
 refine Sat.ifb (fun h=>?_) (fun h=>?_)
 ·refine Sat.retB ?_ rfl
  rw [Bool.not_eq_true'] at h
  simp only [Qq5k]
  rw [h]; rfl
 ·rw [Bool.not_eq_false'] at h
  refine Sat.ifb (fun h2=>?_) (fun h2=>?_)
  ·refine Sat.retB ?_ rfl
   have : fs.length = 0:=by have:=eq_of_beq h2; omega
   simp [Qq5k,this]
  ·have : ¬ fs.length = 0:=fun e=>by rw [e] at h2; simp at h2
   have key:=Q5fs ks ps n fs hg'.1 hg'.2 fs.length 0 (by omega)
   rw [show Qq5k ks ps ⟨n,fs⟩ = Q0id ks ps n ((fs.take 0).getLast?.map (·.what)) (fs.drop 0) by simp only [Qq5k]; rw [h]; simp [this]]
   exact Sat.cut key
theorem Qs56 : EntOK Tryz.prog CP Qyl6 Qmv8:=by
 refine ⟨⟨Tryz.f141,by kernel_rfl,by kernel_rfl,by kernel_rfl⟩,fun args H res H' h=>?_⟩
 simp only [Qmv8] at h
 split at h
 ·simp only [Option.some.injEq,Prod.mk.injEq] at h
  obtain ⟨hg,rfl,rfl⟩:=h
  exact Q0o3 _ _ _ _ hg
 ·cases h

noncomputable def Qhcw : RE Ty El:=⟨Tryz.prog,CP,[(Qxas,Qm9f),(Qyl6,Qmv8)],Tryz.f49,0,[],[(4,[(1,.any),(3,.any)])]⟩
theorem Qjas : REOK Qhcw Qdfk:=⟨CP_ok,(TabOK.cons Q8a6 (TabOK.cons Qs56 Qye1)),by kernel_rfl,by kernel_rfl⟩
theorem Qjlf (ks : List Kind) (ps : List Point) (es : List Entry) : aRun Qhcw 600 false (body0 Qhcw.fn) (Q4gm Qhcw.fn [.agg [.sl .kind ks,.sl .point ps,.sl .entry es]] []) =
 ifb (!Qib4 ks ps) (some (.ret (.bool false) [])) (ifb (decide ((↑es.length : Int) > (12 : Int))) (some (.ret (.bool false) [])) (some (.go (Qu6t Qhcw.fn 4) [.ptr 0 0,.int .i64 (0 : Int)] [.box [.sl .kind ks,.sl .point ps,.sl .entry es]]))):=by kernel_rfl
theorem Q5t3 (x0 : Int) (x1 : List (El .kind)) (x2 : List (El .point)) (x3 : List (El .entry)) : aRun Qhcw 600 true (Qu6t Qhcw.fn 4) (cutSt Qhcw.fn (Q1m4 Qhcw (Qu6t Qhcw.fn 4)) [.ptr 0 0,.int .i64 x0] [.box [.sl .kind x1,.sl .point x2,.sl .entry x3]]) =
 ifb (decide (x0 < (↑x3.length : Int))) (ifb (inb x0 x3.length) (ifb (szE (x3.getD x0.toNat (Qhcw.C.dflt Ty.entry))) (ifb (!Qq5k x1 x2 (x3.getD x0.toNat (Qhcw.C.dflt Ty.entry))) (some (.ret (.bool false) [])) (ifb (decide (x0 > (0 : Int))) (ifb (inb (IntKind.i64.wrap (x0 - (1 : Int))) x3.length) (ifb (inb x0 x3.length) (ifb (!Q7zj (x3.getD (IntKind.i64.wrap (x0 - (1 : Int))).toNat (Qhcw.C.dflt Ty.entry)).name (x3.getD x0.toNat (Qhcw.C.dflt Ty.entry)).name) (some (.ret (.bool false) [])) (some (.go (Qu6t Qhcw.fn 4) [.ptr 0 0,.int .i64 (IntKind.i64.wrap (x0 + (1 : Int)))] [.box [.sl .kind x1,.sl .point x2,.sl .entry x3]]))) (none)) (none)) (some (.go (Qu6t Qhcw.fn 4) [.ptr 0 0,.int .i64 (IntKind.i64.wrap (x0 + (1 : Int)))] [.box [.sl .kind x1,.sl .point x2,.sl .entry x3]])))) (none)) (none)) (some (.ret (.bool true) [])):=by kernel_rfl
theorem Qs9h (ks : List Kind) (ps : List Point) (es : List Entry) (hbase : Qib4 ks ps = true) (hl : es.length ≤ 1000000000) (hz : ∀ e ∈ es,szE e = true) : ∀ (d i : Nat),i + d = es.length → Cut Qhcw Qdfk 4 [.ptr 0 0,.int .i64 (i : Int)] [.box [.sl .kind ks,.sl .point ps,.sl .entry es]] (.bool (Qgea ks ps ((es.take i).getLast?.map (·.name)) (es.drop i))) []:=by
 intro d
 induction d with
 | zero =>
  intro i hi
  refine Cut.of Qjas rfl (Q5t3 i ks ps es) ?_
  refine Sat.ifb (fun h=>?_) (fun h=>?_)
  ·simp at h; omega
  ·refine Sat.retB ?_ rfl
   rw [List.drop_of_length_le (by omega)]; rfl
 | succ d ih =>
  intro i hi
  refine Cut.of Qjas rfl (Q5t3 i ks ps es) ?_
  have hlt : i < es.length:=by omega
  have hw : IntKind.wrap .i64 ((i : Int) + 1) = ((i + 1 : Nat) : Int):=by rw [Qbrg] <;> omega
  have hw1 : IntKind.wrap .i64 ((i : Int) - 1) = (i : Int) - 1:=by rw [Qbrg] <;> omega
  have hd : es.drop i = es[i] :: es.drop (i + 1):=List.drop_eq_getElem_cons hlt
  have hx : es.getD (i : Int).toNat (Qhcw.C.dflt .entry) = es[i]:=by simp [hlt]
  have hin : inb (i : Int) es.length = true:=by simp only [inb,Bool.and_eq_true,decide_eq_true_eq]; omega
  have hl : (es.take (i + 1)).getLast? = some es[i]:=by rw [List.take_succ_eq_append_getElem hlt,List.getLast?_concat]
  have hsz : szE es[i] = true:=hz _ (List.getElem_mem hlt)
  have ih':=ih (i + 1) (by omega)
  rw [hl,Option.map_some] at ih'
  rw [hw,hw1,hx,hd,Qgea]
  refine Sat.ifb (fun _=>?_) (fun h=>?_)
  ·refine Sat.ifb (fun _=>?_) (fun h=>?_)
   ·refine Sat.ifb (fun _=>?_) (fun h=>?_)
    ·refine Sat.ifb (fun h=>?_) (fun h=>?_)
     ·refine Sat.retB ?_ rfl
      rw [Bool.not_eq_true'] at h
      rw [Qo0k hbase] at h
      rw [h]; rfl
     ·rw [Bool.not_eq_false'] at h
      rw [Qo0k hbase] at h
      rw [h,Bool.true_and]
      refine Sat.ifb (fun h0=>?_) (fun h0=>?_)
      ·have h0' : ((i : Int) > 0):=of_decide_eq_true h0
       have hi1 : i - 1 < es.length:=by omega
       have hx1 : es.getD ((i : Int) - 1).toNat (Qhcw.C.dflt .entry) = es[i - 1]:=by
        rw [show ((i : Int) - 1).toNat = i - 1 by omega]; simp [hi1]
       have hl1 : (es.take i).getLast? = some es[i - 1]:=by
        have:=List.take_succ_eq_append_getElem hi1
        rw [show i - 1 + 1 = i by omega] at this
        rw [this,List.getLast?_concat]
       rw [hx1,hl1]
       refine Sat.ifb (fun _=>?_) (fun h=>?_)
       ·refine Sat.ifb (fun _=>?_) (fun h=>?_)
        ·refine Sat.ifb (fun h=>?_) (fun h=>?_)
         ·refine Sat.retB ?_ rfl
          rw [Bool.not_eq_true'] at h
          simp only [Option.map_some,Qe7t]
          rw [h]; rfl
         ·rw [Bool.not_eq_false'] at h
          simp only [Option.map_some,Qe7t]
          rw [h,Bool.true_and]
          exact Sat.cut ih'
        ·rw [hin] at h; cases h
       ·have : inb ((i : Int) - 1) es.length = true:=by simp only [inb,Bool.and_eq_true,decide_eq_true_eq]; omega
        rw [this] at h; cases h
      ·have h0' : ¬ ((i : Int) > 0):=of_decide_eq_false h0
       have : i = 0:=by omega
       subst this
       exact Sat.cut ih'
    ·rw [hsz] at h; cases h
   ·rw [hin] at h; cases h
  ·simp at h; omega
theorem Q754 (ks : List Kind) (ps : List Point) (es : List Entry) (hg : szB es = true) : Qewq Tryz.prog CP Qdfk [.agg [.sl .kind ks,.sl .point ps,.sl .entry es]] [] (.bool (Qn0o ks ps es)) []:=by
 refine Qewq.of Qjas (by kernel_rfl) (Qjlf ks ps es) ?_
 have hg':=hg
 simp only [szB,Bool.and_eq_true,decide_eq_true_eq,List.all_eq_true] at hg'
 refine Sat.ifb (fun h=>?_) (fun h=>?_)
 ·refine Sat.retB ?_ rfl
  rw [Bool.not_eq_true'] at h
  simp only [Qn0o]
  rw [h]; rfl
 ·rw [Bool.not_eq_false'] at h
  refine Sat.ifb (fun h2=>?_) (fun h2=>?_)
  ·refine Sat.retB ?_ rfl
   have : ¬ es.length ≤ 12:=by have:=of_decide_eq_true h2; omega
   simp [Qn0o,this]
  ·have h12 : es.length ≤ 12:=by have:=of_decide_eq_false h2; omega
   have key:=Qs9h ks ps es h hg'.1 hg'.2 es.length 0 (by omega)
   rw [show Qn0o ks ps es = Qgea ks ps ((es.take 0).getLast?.map (·.name)) (es.drop 0) by simp [Qn0o,h,h12]]
   exact Sat.cut key
theorem Q8cq : EntOK Tryz.prog CP Qdfk Q124:=by
 refine ⟨⟨Tryz.f49,by kernel_rfl,by kernel_rfl,by kernel_rfl⟩,fun args H res H' h=>?_⟩
 simp only [Q124] at h
 split at h
 ·simp only [Option.some.injEq,Prod.mk.injEq] at h
  obtain ⟨hg,rfl,rfl⟩:=h
  exact Q754 _ _ _ hg
 ·cases h
end Lx
namespace Lx
open Go Go.Proofs
def wr (n : Int) : Int:=IntKind.wrap .i64 n
end Lx
namespace Lx
open Go Go.Proofs
end Lx
namespace Lx
open Go Go.Proofs
end Lx
namespace Lx
open Go Go.Proofs
end Lx
namespace Lx
open Go Go.Proofs
end Lx
namespace Lx
open Go Go.Proofs
end Lx
namespace Lx
open Go Go.Proofs
end Lx
namespace Lx
open Go Go.Proofs
end Lx
namespace Lx
open Go
section
variable {Ty : Type} {El : Ty → Type} {C : Cod Ty El} {P : Program}

theorem Qewq.quiet {g : FuncId} {args : List (AV Ty El)} {res : AV Ty El} (hC : CodOK P C) (hc : ∀ (w : World) (N : Nm) (vs : Array Value),vs.size = args.length → (∀ (j : Nat) v x,vs[j]? = some v → args[j]? = some x → RepA C N w v x) →
  Calls P g vs w fun en w'=>∃ v,en = .returned v ∧ Fr w w' (fun _=>False) ∧ ∀ N' : Nm,(∀ b,N.ro b → N'.ro b) → (∀ b,w.heap.size ≤ b → b < w'.heap.size → N'.ro b) → RepA C N' w' v res) : Qewq P C g args [] res []:=by
 intro w N vs hH hsz hrep
 refine (hc w N vs hsz hrep).mono ?_
 rintro en w' ⟨v,rfl,hF,hr⟩
 have hno : ∀ k b,¬ N.F k b:=fun k b hb=>by
  have:=hH.obj k
  exact this b hb
 have hnG : ∀ r p v u,¬ N.G r p v u:=fun r p v u hg=>hH.reg r p v u hg
 refine ⟨v, { N with ro:=fun b=>N.ro b ∨ (w.heap.size ≤ b ∧ b < w'.heap.size) },rfl,⟨fun k=>?_,fun r p v u hg=>(hnG r p v u hg).elim,fun r=>trivial,fun r p v u hg=>(hnG r p v u hg).elim,fun r r' b h=>(hno r b h).elim,fun r b h=>(hno r b h).elim,fun b hb=>?_,hH.glTo hC (fun _ h=>.inl h) (fun b hb=>hF.block b (hH.roLt b hb) (fun h=>h))⟩,hr _ (fun b hb=>.inl hb) (fun b h1 h2=>.inr ⟨h1,h2⟩),fun k hk=>(by simp at hk),fun b hb=>.inl hb,fun b hb=>hb.imp id (fun h=>.inl h.1),⟨hF.os,hF.tape,hF.output,hF.size,fun b hb _=>hF.block b hb (fun h=>h)⟩,fun k b hb=>(hno k b hb).elim⟩
 ·exact fun b hb=>hno k b hb
 ·rcases hb with hb | hb
  ·exact Nat.lt_of_lt_of_le (hH.roLt b hb) hF.size
  ·exact hb.2

theorem Fr.trans' {w0 w1 w2 : World} (h : Fr w0 w1 (fun _=>False)) (h' : Fr w1 w2 (fun _=>False)) : Fr w0 w2 (fun _=>False) :=
 ⟨h'.os.trans h.os,h'.tape.trans h.tape,h'.output.trans h.output,Nat.le_trans h.size h'.size,fun b hb _=>(h'.block b (Nat.lt_of_lt_of_le hb h.size) (fun h=>h)).trans (h.block b hb (fun h=>h))⟩
theorem Fr.alloc (w : World) (o : Obj) : Fr w (w.alloc o) (fun _=>False):=⟨rfl,rfl,rfl,by rw [Q541]; omega,fun b hb _=>Qn4u w o hb⟩

theorem Qfrf {N : Nm} {w : World} {vs : Array Value} {args : List (AV Ty El)} (h : ∀ (j : Nat) v x,vs[j]? = some v → args[j]? = some x → RepA C N w v x) (hsz : vs.size = args.length) {j : Nat} {l : List UInt8} (hj : args[j]? = some (.str l)) : ∃ s : ByteArray,vs[j]? = some (.string s) ∧ s.data.toList = l:=by
 have hlt : j < vs.size:=by rw [hsz]; exact (List.getElem?_eq_some_iff.1 hj).1
 have hv : vs[j]? = some vs[j]:=Array.getElem?_eq_getElem hlt
 obtain ⟨s,e,hs⟩:=(h j _ _ hv hj).inv_str
 exact ⟨s,by rw [hv,e],hs⟩
theorem Qf6o {N : Nm} {w : World} {vs : Array Value} {args : List (AV Ty El)} (h : ∀ (j : Nat) v x,vs[j]? = some v → args[j]? = some x → RepA C N w v x) (hsz : vs.size = args.length) {j : Nat} {k : IntKind} {n : Int} (hj : args[j]? = some (.int k n)) : vs[j]? = some (.int k n):=by
 have hlt : j < vs.size:=by rw [hsz]; exact (List.getElem?_eq_some_iff.1 hj).1
 have hv : vs[j]? = some vs[j]:=Array.getElem?_eq_getElem hlt
 rw [hv,(h j _ _ hv hj).inv_int]
theorem arr1 {vs : Array Value} {a : Value} (hsz : vs.size = 1) (h0 : vs[0]? = some a) : vs = #[a]:=by
 apply Array.ext_getElem?
 intro i
 match i with
 | 0=>exact h0
 | i + 1=>rw [Array.getElem?_eq_none (by omega),Array.getElem?_eq_none (by simp)]
theorem arr2 {vs : Array Value} {a b : Value} (hsz : vs.size = 2) (h0 : vs[0]? = some a) (h1 : vs[1]? = some b) : vs = #[a,b]:=by
 apply Array.ext_getElem?
 intro i
 match i with
 | 0=>exact h0
 | 1=>exact h1
 | i + 2=>rw [Array.getElem?_eq_none (by omega),Array.getElem?_eq_none (by simp)]
theorem arr4 {vs : Array Value} {a b c d : Value} (hsz : vs.size = 4) (h0 : vs[0]? = some a) (h1 : vs[1]? = some b) (h2 : vs[2]? = some c) (h3 : vs[3]? = some d) : vs = #[a,b,c,d]:=by
 apply Array.ext_getElem?
 intro i
 match i with
 | 0=>exact h0
 | 1=>exact h1
 | 2=>exact h2
 | 3=>exact h3
 | i + 4=>rw [Array.getElem?_eq_none (by omega),Array.getElem?_eq_none (by simp)]
theorem Qa5q {s t : ByteArray} (h : s.data.toList = t.data.toList) : s = t:=by
 obtain ⟨⟨l⟩⟩:=s
 obtain ⟨⟨m⟩⟩:=t
 simp at h
 subst h; rfl

theorem RepA.newStrs (hC : CodOK P C) {T : Ty} {f : El T → List UInt8} {g : List UInt8 → El T} (hT : ∀ x,C.row T x = [.str (f x)]) (hfg : ∀ l,f (g l) = l) {N : Nm} {w : World} {t : TypeId} {ss : List ByteArray} {n cap : Nat} {arr : Array Value} (hn : n = ss.length) (hcap : n ≤ cap) (hro : N.ro w.heap.size)
  (harr : ∀ (i : Nat) s,ss[i]? = some s → arr[i]? = some (.string s)) : RepA C N (w.alloc (.cells arr t)) (.slice (some ⟨w.heap.size,0,none⟩) n cap) (.sl T (ss.map fun s=>g s.data.toList)):=by
 have hsz : C.sz T = 1:=by unfold Cod.sz; rw [hT]; rfl
 refine .sl T _ w.heap.size 0 n cap (fun i j=>arr.getD i undef) (by simpa using hn) hcap hro (fun i j hi hj=>?_) (fun i j c hi hc=>?_)
 ·rw [hsz] at hj ⊢
  obtain rfl : j = 0:=by omega
  have hs:=harr i _ (List.getElem?_eq_getElem (hn ▸ hi))
  have hlt:=(Array.getElem?_eq_some_iff.1 hs).1
  unfold World.cell?
  rw [Qdnr]
  simp only [Nat.mul_one,Nat.add_zero,Nat.zero_add]
  rw [Array.getElem?_eq_getElem hlt]
  simp [Array.getD,hlt]
 ·rw [hT] at hc
  have hj0 : j = 0:=by
   have:=(List.getElem?_eq_some_iff.1 hc).1
   simp at this; omega
  subst hj0
  simp only [List.getElem?_cons_zero,Option.some.injEq] at hc
  subst hc
  have hi' : i < ss.length:=hn ▸ hi
  have hs:=harr i _ (List.getElem?_eq_getElem hi')
  have hlt:=(Array.getElem?_eq_some_iff.1 hs).1
  have e : arr.getD i undef = .string ss[i]:=by
   simp [Array.getD,hlt,(Array.getElem?_eq_some_iff.1 hs).2]
  show RepA C N _ (arr.getD i undef) _
  rw [e]
  refine .str _ _ ?_
  simp [List.getD,hi',hfg]
end
end Lx
namespace Go.Proofs
open Go.Shelf
def Tryz.lays143_ren : Go.Shelf.Ren:=⟨fun | 143=>182 | 219=>235 | 217=>279 | 225=>280 | 224=>281 | 267=>282 | 266=>325 | 314=>326 | n=>n,fun | 9=>9 | 3=>3 | 4=>4 | 5=>5 | 46=>261 | 146=>340 | 51=>296 | n=>n,fun | 1=>1 | n=>n⟩
theorem Tryz.lays143 : Go.Proofs.Lays.n143 Tryz.prog Tryz.lays143_ren:={
 mixed:=by kernel_rfl
 f143:=Tryz.func182.trans (congrArg some (by kernel_rfl))
 f217:=Tryz.func279.trans (congrArg some (by kernel_rfl))
 f219:=Tryz.func235.trans (congrArg some (by kernel_rfl))
 f224:=Tryz.func281.trans (congrArg some (by kernel_rfl))
 f225:=Tryz.func280.trans (congrArg some (by kernel_rfl))
 f266:=Tryz.func325.trans (congrArg some (by kernel_rfl))
 f267:=Tryz.func282.trans (congrArg some (by kernel_rfl))
 f314:=Tryz.func326.trans (congrArg some (by kernel_rfl))
 t3:=Tryz.underlying3
 a3:=Tryz.isAgg3
 z3:=Tryz.sizeOf3
 v3:=Tryz.zeroValue3
 t4:=Tryz.underlying4
 a4:=Tryz.isAgg4
 z4:=Tryz.sizeOf4
 v4:=Tryz.zeroValue4
 t5:=Tryz.underlying5
 a5:=Tryz.isAgg5
 z5:=Tryz.sizeOf5
 v5:=Tryz.zeroValue5
 t9:=Tryz.underlying9
 a9:=Tryz.isAgg9
 z9:=Tryz.sizeOf9
 v9:=Tryz.zeroValue9
 t46:=Tryz.underlying261
 a46:=Tryz.isAgg261
 z46:=Tryz.sizeOf261
 v46:=Tryz.zeroValue261
 t51:=Tryz.underlying296
 a51:=Tryz.isAgg296
 z51:=Tryz.sizeOf296
 v51:=Tryz.zeroValue296
 t146:=Tryz.underlying340
 a146:=Tryz.isAgg340
 z146:=Tryz.sizeOf340
 v146:=Tryz.zeroValue340
 g1:=by kernel_rfl }
def Tryz.lays138_ren : Go.Shelf.Ren:=⟨fun | 138=>238 | 195=>287 | 218=>289 | 143=>182 | 219=>235 | 217=>279 | 225=>280 | 224=>281 | 267=>282 | 266=>325 | 314=>326 | n=>n,fun | 9=>9 | 3=>3 | 4=>4 | 5=>5 | 0=>0 | 46=>261 | 146=>340 | 51=>296 | n=>n,fun | 1=>1 | n=>n⟩
theorem Tryz.lays138 : Go.Proofs.Lays.n138 Tryz.prog Tryz.lays138_ren:={
 mixed:=by kernel_rfl
 f138:=Tryz.func238.trans (congrArg some (by kernel_rfl))
 f143:=Tryz.func182.trans (congrArg some (by kernel_rfl))
 f195:=Tryz.func287.trans (congrArg some (by kernel_rfl))
 f217:=Tryz.func279.trans (congrArg some (by kernel_rfl))
 f218:=Tryz.func289.trans (congrArg some (by kernel_rfl))
 f219:=Tryz.func235.trans (congrArg some (by kernel_rfl))
 f224:=Tryz.func281.trans (congrArg some (by kernel_rfl))
 f225:=Tryz.func280.trans (congrArg some (by kernel_rfl))
 f266:=Tryz.func325.trans (congrArg some (by kernel_rfl))
 f267:=Tryz.func282.trans (congrArg some (by kernel_rfl))
 f314:=Tryz.func326.trans (congrArg some (by kernel_rfl))
 t0:=Tryz.underlying0
 a0:=Tryz.isAgg0
 z0:=Tryz.sizeOf0
 v0:=Tryz.zeroValue0
 t3:=Tryz.underlying3
 a3:=Tryz.isAgg3
 z3:=Tryz.sizeOf3
 v3:=Tryz.zeroValue3
 t4:=Tryz.underlying4
 a4:=Tryz.isAgg4
 z4:=Tryz.sizeOf4
 v4:=Tryz.zeroValue4
 t5:=Tryz.underlying5
 a5:=Tryz.isAgg5
 z5:=Tryz.sizeOf5
 v5:=Tryz.zeroValue5
 t9:=Tryz.underlying9
 a9:=Tryz.isAgg9
 z9:=Tryz.sizeOf9
 v9:=Tryz.zeroValue9
 t46:=Tryz.underlying261
 a46:=Tryz.isAgg261
 z46:=Tryz.sizeOf261
 v46:=Tryz.zeroValue261
 t51:=Tryz.underlying296
 a51:=Tryz.isAgg296
 z51:=Tryz.sizeOf296
 v51:=Tryz.zeroValue296
 t146:=Tryz.underlying340
 a146:=Tryz.isAgg340
 z146:=Tryz.sizeOf340
 v146:=Tryz.zeroValue340
 g1:=by kernel_rfl }
def Tryz.lays221_ren : Go.Shelf.Ren:=⟨fun | 221=>184 | 268=>237 | 138=>238 | 143=>182 | 195=>287 | 197=>288 | 218=>289 | 219=>235 | 260=>331 | 217=>279 | 225=>280 | 224=>281 | 267=>282 | 266=>325 | 314=>326 | n=>n,fun | 9=>9 | 3=>3 | 31=>41 | 4=>4 | 0=>0 | 105=>309 | 21=>21 | 5=>5 | 46=>261 | 119=>360 | 139=>363 | 138=>362 | 146=>340 | 51=>296 | n=>n,fun | 1=>1 | 3=>5 | 4=>6 | n=>n⟩
theorem Tryz.lays221 : Go.Proofs.Lays.n221 Tryz.prog Tryz.lays221_ren:={
 mixed:=by kernel_rfl
 f138:=Tryz.func238.trans (congrArg some (by kernel_rfl))
 f143:=Tryz.func182.trans (congrArg some (by kernel_rfl))
 f195:=Tryz.func287.trans (congrArg some (by kernel_rfl))
 f197:=Tryz.func288.trans (congrArg some (by kernel_rfl))
 f217:=Tryz.func279.trans (congrArg some (by kernel_rfl))
 f218:=Tryz.func289.trans (congrArg some (by kernel_rfl))
 f219:=Tryz.func235.trans (congrArg some (by kernel_rfl))
 f221:=Tryz.func184.trans (congrArg some (by kernel_rfl))
 f224:=Tryz.func281.trans (congrArg some (by kernel_rfl))
 f225:=Tryz.func280.trans (congrArg some (by kernel_rfl))
 f260:=Tryz.func331.trans (congrArg some (by kernel_rfl))
 f266:=Tryz.func325.trans (congrArg some (by kernel_rfl))
 f267:=Tryz.func282.trans (congrArg some (by kernel_rfl))
 f268:=Tryz.func237.trans (congrArg some (by kernel_rfl))
 f314:=Tryz.func326.trans (congrArg some (by kernel_rfl))
 t0:=Tryz.underlying0
 a0:=Tryz.isAgg0
 z0:=Tryz.sizeOf0
 v0:=Tryz.zeroValue0
 t3:=Tryz.underlying3
 a3:=Tryz.isAgg3
 z3:=Tryz.sizeOf3
 v3:=Tryz.zeroValue3
 t4:=Tryz.underlying4
 a4:=Tryz.isAgg4
 z4:=Tryz.sizeOf4
 v4:=Tryz.zeroValue4
 t5:=Tryz.underlying5
 a5:=Tryz.isAgg5
 z5:=Tryz.sizeOf5
 v5:=Tryz.zeroValue5
 t9:=Tryz.underlying9
 a9:=Tryz.isAgg9
 z9:=Tryz.sizeOf9
 v9:=Tryz.zeroValue9
 t21:=Tryz.underlying21
 a21:=Tryz.isAgg21
 z21:=Tryz.sizeOf21
 v21:=Tryz.zeroValue21
 t31:=Tryz.underlying41
 a31:=Tryz.isAgg41
 z31:=Tryz.sizeOf41
 v31:=Tryz.zeroValue41
 t46:=Tryz.underlying261
 a46:=Tryz.isAgg261
 z46:=Tryz.sizeOf261
 v46:=Tryz.zeroValue261
 t51:=Tryz.underlying296
 a51:=Tryz.isAgg296
 z51:=Tryz.sizeOf296
 v51:=Tryz.zeroValue296
 t105:=Tryz.underlying309
 a105:=Tryz.isAgg309
 z105:=Tryz.sizeOf309
 v105:=Tryz.zeroValue309
 t119:=Tryz.underlying360
 a119:=Tryz.isAgg360
 z119:=Tryz.sizeOf360
 t138:=Tryz.underlying362
 a138:=Tryz.isAgg362
 z138:=Tryz.sizeOf362
 v138:=Tryz.zeroValue362
 t139:=Tryz.underlying363
 a139:=Tryz.isAgg363
 z139:=Tryz.sizeOf363
 v139:=Tryz.zeroValue363
 t146:=Tryz.underlying340
 a146:=Tryz.isAgg340
 z146:=Tryz.sizeOf340
 v146:=Tryz.zeroValue340
 g1:=by kernel_rfl
 g3:=by kernel_rfl
 g4:=by kernel_rfl }
def Tryz.lays160_ren : Go.Shelf.Ren:=⟨fun | 160=>185 | 232=>240 | 231=>239 | 227=>241 | 234=>243 | 233=>242 | 236=>245 | 235=>244 | 228=>290 | 271=>292 | 151=>291 | 197=>288 | 120=>333 | 152=>332 | 260=>331 | 137=>346 | 119=>347 | 224=>281 | 225=>280 | 217=>279 | 266=>325 | n=>n,fun | 9=>9 | 4=>4 | 3=>3 | 5=>5 | 117=>268 | 116=>267 | 0=>0 | 124=>271 | 21=>21 | 105=>309 | 46=>261 | 119=>360 | 139=>363 | 138=>362 | n=>n,fun | 3=>5 | 4=>6 | n=>n⟩
theorem Tryz.lays160 : Go.Proofs.Lays.n160 Tryz.prog Tryz.lays160_ren:={
 mixed:=by kernel_rfl
 f119:=Tryz.func347.trans (congrArg some (by kernel_rfl))
 f120:=Tryz.func333.trans (congrArg some (by kernel_rfl))
 f137:=Tryz.func346.trans (congrArg some (by kernel_rfl))
 f151:=Tryz.func291.trans (congrArg some (by kernel_rfl))
 f152:=Tryz.func332.trans (congrArg some (by kernel_rfl))
 f160:=Tryz.func185.trans (congrArg some (by kernel_rfl))
 f197:=Tryz.func288.trans (congrArg some (by kernel_rfl))
 f217:=Tryz.func279.trans (congrArg some (by kernel_rfl))
 f224:=Tryz.func281.trans (congrArg some (by kernel_rfl))
 f225:=Tryz.func280.trans (congrArg some (by kernel_rfl))
 f227:=Tryz.func241.trans (congrArg some (by kernel_rfl))
 f228:=Tryz.func290.trans (congrArg some (by kernel_rfl))
 f231:=Tryz.func239.trans (congrArg some (by kernel_rfl))
 f232:=Tryz.func240.trans (congrArg some (by kernel_rfl))
 f233:=Tryz.func242.trans (congrArg some (by kernel_rfl))
 f234:=Tryz.func243.trans (congrArg some (by kernel_rfl))
 f235:=Tryz.func244.trans (congrArg some (by kernel_rfl))
 f236:=Tryz.func245.trans (congrArg some (by kernel_rfl))
 f260:=Tryz.func331.trans (congrArg some (by kernel_rfl))
 f266:=Tryz.func325.trans (congrArg some (by kernel_rfl))
 f271:=Tryz.func292.trans (congrArg some (by kernel_rfl))
 t0:=Tryz.underlying0
 a0:=Tryz.isAgg0
 z0:=Tryz.sizeOf0
 v0:=Tryz.zeroValue0
 t3:=Tryz.underlying3
 a3:=Tryz.isAgg3
 z3:=Tryz.sizeOf3
 v3:=Tryz.zeroValue3
 t4:=Tryz.underlying4
 a4:=Tryz.isAgg4
 z4:=Tryz.sizeOf4
 v4:=Tryz.zeroValue4
 t5:=Tryz.underlying5
 a5:=Tryz.isAgg5
 z5:=Tryz.sizeOf5
 v5:=Tryz.zeroValue5
 t9:=Tryz.underlying9
 a9:=Tryz.isAgg9
 z9:=Tryz.sizeOf9
 v9:=Tryz.zeroValue9
 t21:=Tryz.underlying21
 a21:=Tryz.isAgg21
 z21:=Tryz.sizeOf21
 v21:=Tryz.zeroValue21
 t46:=Tryz.underlying261
 a46:=Tryz.isAgg261
 z46:=Tryz.sizeOf261
 v46:=Tryz.zeroValue261
 t105:=Tryz.underlying309
 a105:=Tryz.isAgg309
 z105:=Tryz.sizeOf309
 v105:=Tryz.zeroValue309
 t116:=Tryz.underlying267
 a116:=Tryz.isAgg267
 z116:=Tryz.sizeOf267
 t117:=Tryz.underlying268
 a117:=Tryz.isAgg268
 z117:=Tryz.sizeOf268
 v117:=Tryz.zeroValue268
 t119:=Tryz.underlying360
 a119:=Tryz.isAgg360
 z119:=Tryz.sizeOf360
 t124:=Tryz.underlying271
 a124:=Tryz.isAgg271
 z124:=Tryz.sizeOf271
 v124:=Tryz.zeroValue271
 t138:=Tryz.underlying362
 a138:=Tryz.isAgg362
 z138:=Tryz.sizeOf362
 v138:=Tryz.zeroValue362
 t139:=Tryz.underlying363
 a139:=Tryz.isAgg363
 z139:=Tryz.sizeOf363
 v139:=Tryz.zeroValue363
 g3:=by kernel_rfl
 g4:=by kernel_rfl }
def Tryz.lays172_ren : Go.Shelf.Ren:=⟨fun | 172=>186 | 244=>246 | 245=>247 | 247=>293 | 279=>294 | 280=>295 | 281=>296 | 282=>297 | 287=>334 | 316=>187 | 171=>102 | 205=>335 | 321=>348 | 322=>349 | 243=>183 | 246=>236 | 283=>283 | 284=>284 | 285=>285 | 286=>286 | 129=>269 | 317=>327 | 318=>328 | 319=>329 | 320=>330 | 337=>344 | 338=>345 | n=>n,fun | 9=>9 | 3=>3 | 75=>198 | 76=>199 | 4=>4 | 5=>5 | 167=>313 | 37=>22 | 0=>0 | 85=>314 | 2=>2 | 168=>316 | 53=>298 | 175=>347 | 46=>261 | 210=>350 | 127=>250 | 145=>368 | 143=>366 | 21=>21 | 171=>305 | 173=>307 | 212=>343 | 51=>296 | 20=>20 | 213=>344 | 232=>371 | 233=>372 | 80=>201 | n=>n,fun | 15=>3 | 16=>4 | 17=>2 | 18=>7 | 19=>8 | n=>n⟩
theorem Tryz.lays172 : Go.Proofs.Lays.n172 Tryz.prog Tryz.lays172_ren:={
 mixed:=by kernel_rfl
 f129:=Tryz.func269.trans (congrArg some (by kernel_rfl))
 f171:=Tryz.func102.trans (congrArg some (by kernel_rfl))
 f172:=Tryz.func186.trans (congrArg some (by kernel_rfl))
 f205:=Tryz.func335.trans (congrArg some (by kernel_rfl))
 f243:=Tryz.func183.trans (congrArg some (by kernel_rfl))
 f244:=Tryz.func246.trans (congrArg some (by kernel_rfl))
 f245:=Tryz.func247.trans (congrArg some (by kernel_rfl))
 f246:=Tryz.func236.trans (congrArg some (by kernel_rfl))
 f247:=Tryz.func293.trans (congrArg some (by kernel_rfl))
 f279:=Tryz.func294.trans (congrArg some (by kernel_rfl))
 f280:=Tryz.func295.trans (congrArg some (by kernel_rfl))
 f281:=Tryz.func296.trans (congrArg some (by kernel_rfl))
 f282:=Tryz.func297.trans (congrArg some (by kernel_rfl))
 f283:=Tryz.func283.trans (congrArg some (by kernel_rfl))
 f284:=Tryz.func284.trans (congrArg some (by kernel_rfl))
 f285:=Tryz.func285.trans (congrArg some (by kernel_rfl))
 f286:=Tryz.func286.trans (congrArg some (by kernel_rfl))
 f287:=Tryz.func334.trans (congrArg some (by kernel_rfl))
 f316:=Tryz.func187.trans (congrArg some (by kernel_rfl))
 f317:=Tryz.func327.trans (congrArg some (by kernel_rfl))
 f318:=Tryz.func328.trans (congrArg some (by kernel_rfl))
 f319:=Tryz.func329.trans (congrArg some (by kernel_rfl))
 f320:=Tryz.func330.trans (congrArg some (by kernel_rfl))
 f321:=Tryz.func348.trans (congrArg some (by kernel_rfl))
 f322:=Tryz.func349.trans (congrArg some (by kernel_rfl))
 f337:=Tryz.func344.trans (congrArg some (by kernel_rfl))
 f338:=Tryz.func345.trans (congrArg some (by kernel_rfl))
 t0:=Tryz.underlying0
 a0:=Tryz.isAgg0
 z0:=Tryz.sizeOf0
 v0:=Tryz.zeroValue0
 t2:=Tryz.underlying2
 a2:=Tryz.isAgg2
 z2:=Tryz.sizeOf2
 v2:=Tryz.zeroValue2
 t3:=Tryz.underlying3
 a3:=Tryz.isAgg3
 z3:=Tryz.sizeOf3
 v3:=Tryz.zeroValue3
 t4:=Tryz.underlying4
 a4:=Tryz.isAgg4
 z4:=Tryz.sizeOf4
 v4:=Tryz.zeroValue4
 t5:=Tryz.underlying5
 a5:=Tryz.isAgg5
 z5:=Tryz.sizeOf5
 v5:=Tryz.zeroValue5
 t9:=Tryz.underlying9
 a9:=Tryz.isAgg9
 z9:=Tryz.sizeOf9
 v9:=Tryz.zeroValue9
 t20:=Tryz.underlying20
 a20:=Tryz.isAgg20
 z20:=Tryz.sizeOf20
 v20:=Tryz.zeroValue20
 t21:=Tryz.underlying21
 a21:=Tryz.isAgg21
 z21:=Tryz.sizeOf21
 v21:=Tryz.zeroValue21
 t37:=Tryz.underlying22
 a37:=Tryz.isAgg22
 z37:=Tryz.sizeOf22
 v37:=Tryz.zeroValue22
 t46:=Tryz.underlying261
 a46:=Tryz.isAgg261
 z46:=Tryz.sizeOf261
 v46:=Tryz.zeroValue261
 t51:=Tryz.underlying296
 a51:=Tryz.isAgg296
 z51:=Tryz.sizeOf296
 v51:=Tryz.zeroValue296
 t53:=Tryz.underlying298
 a53:=Tryz.isAgg298
 z53:=Tryz.sizeOf298
 v53:=Tryz.zeroValue298
 t75:=Tryz.underlying198
 a75:=Tryz.isAgg198
 z75:=Tryz.sizeOf198
 v75:=Tryz.zeroValue198
 t76:=Tryz.underlying199
 a76:=Tryz.isAgg199
 z76:=Tryz.sizeOf199
 v76:=Tryz.zeroValue199
 t85:=Tryz.underlying314
 a85:=Tryz.isAgg314
 z85:=Tryz.sizeOf314
 v85:=Tryz.zeroValue314
 t127:=Tryz.underlying250
 a127:=Tryz.isAgg250
 z127:=Tryz.sizeOf250
 v127:=Tryz.zeroValue250
 t143:=Tryz.underlying366
 a143:=Tryz.isAgg366
 z143:=Tryz.sizeOf366
 v143:=Tryz.zeroValue366
 t145:=Tryz.underlying368
 a145:=Tryz.isAgg368
 z145:=Tryz.sizeOf368
 v145:=Tryz.zeroValue368
 t167:=Tryz.underlying313
 a167:=Tryz.isAgg313
 z167:=Tryz.sizeOf313
 v167:=Tryz.zeroValue313
 t168:=Tryz.underlying316
 a168:=Tryz.isAgg316
 z168:=Tryz.sizeOf316
 v168:=Tryz.zeroValue316
 t171:=Tryz.underlying305
 a171:=Tryz.isAgg305
 z171:=Tryz.sizeOf305
 v171:=Tryz.zeroValue305
 t173:=Tryz.underlying307
 a173:=Tryz.isAgg307
 z173:=Tryz.sizeOf307
 v173:=Tryz.zeroValue307
 t175:=Tryz.underlying347
 a175:=Tryz.isAgg347
 z175:=Tryz.sizeOf347
 v175:=Tryz.zeroValue347
 t210:=Tryz.underlying350
 a210:=Tryz.isAgg350
 z210:=Tryz.sizeOf350
 v210:=Tryz.zeroValue350
 t212:=Tryz.underlying343
 a212:=Tryz.isAgg343
 z212:=Tryz.sizeOf343
 v212:=Tryz.zeroValue343
 t213:=Tryz.underlying344
 a213:=Tryz.isAgg344
 z213:=Tryz.sizeOf344
 t232:=Tryz.underlying371
 a232:=Tryz.isAgg371
 z232:=Tryz.sizeOf371
 v232:=Tryz.zeroValue371
 t233:=Tryz.underlying372
 a233:=Tryz.isAgg372
 z233:=Tryz.sizeOf372
 v233:=Tryz.zeroValue372
 g15:=by kernel_rfl
 g16:=by kernel_rfl
 g17:=by kernel_rfl
 g18:=by kernel_rfl
 g19:=by kernel_rfl }
open Go.RowKit in
theorem Tryz.strconv_Atoi (s : ByteArray) (n : Int) (hl : s.size ≤ 18) (h : Lib.atoi s.data.toList = some n) (w : World) :
  Calls Tryz.prog 186 #[.string s] w fun e w'=>e = .returned (.tuple #[.int .i64 n,.nilIface]) ∧ ∃ t,w' = Lib.bytesWorld w 5 t:=Any.strconv_Atoi Tryz.lays172 s n hl h w
end Go.Proofs
namespace Lx
open Go Go.Proofs

theorem Qzmh (c : UInt8) (k : Nat) (s : Str) : Lib.splitK [c] 0 (k + 1) (c :: s) = [] :: Lib.splitK [c] 0 k s:=by
 have h : Lib.index (c :: s) [c] = 0:=by rw [Lib.index]; simp [List.isPrefixOf]
 rw [Lib.splitK,h]
 simp
theorem Q7sv {c b : UInt8} (h : b ≠ c) (k : Nat) (s : Str) : ∃ w ws,Lib.splitK [c] 0 k s = w :: ws ∧ Lib.splitK [c] 0 k (b :: s) = (b :: w) :: ws:=by
 cases k with
 | zero=>exact ⟨s,[],rfl,rfl⟩
 | succ k =>
  have hp : ([c] : List UInt8).isPrefixOf (b :: s) = false:=by simp [List.isPrefixOf,Ne.symm h]
  have hix : Lib.index (b :: s) [c] = if Lib.index s [c] == -1 then -1 else Lib.index s [c] + 1:=by rw [Lib.index,hp]; simp
  by_cases hm : Lib.index s [c] = -1
  ·refine ⟨s,[], ?_, ?_⟩
   ·rw [Lib.splitK,if_pos (beq_iff_eq.2 hm)]
   ·rw [Lib.splitK,if_pos (beq_iff_eq.2 (by rw [hix,if_pos (beq_iff_eq.2 hm)]))]
  ·have hge:=Lib.index_ge s [c]
   obtain ⟨j,hj⟩ : ∃ j : Nat,Lib.index s [c] = j:=⟨(Lib.index s [c]).toNat,by omega⟩
   have hix' : Lib.index (b :: s) [c] = ((j + 1 : Nat) : Int):=by rw [hix,if_neg (fun e=>hm (beq_iff_eq.1 e)),hj]; omega
   refine ⟨s.take j,Lib.splitK [c] 0 k (s.drop (j + 1)), ?_, ?_⟩
   ·rw [Lib.splitK,if_neg (fun e=>hm (beq_iff_eq.1 e)),hj]; simp
   ·rw [Lib.splitK,if_neg (fun e=>by have:=beq_iff_eq.1 e; omega),hix']
    have e : ((j + 1 : Nat) : Int).toNat = j + 1:=by omega
    rw [e]
    simp
theorem Q536 (c : UInt8) : ∀ (s : Str),Lib.splitK [c] 0 (s.count c) s = cutS (c.toNat : Int) s
 | []=>rfl
 | b :: s=>by
  by_cases h : b = c
  ·subst h
   rw [List.count_cons_self,Qzmh,Q536 b s]
   simp [cutS]
  ·obtain ⟨w,ws,h1,h2⟩:=Q7sv h (s.count c) s
   rw [List.count_cons_of_ne (by simpa using h),h2]
   have : ¬ ((b.toNat : Int) == (c.toNat : Int)) = true:=fun e=>h (UInt8.toNat_inj.1 (by have:=eq_of_beq e; omega))
   rw [cutS,if_neg this,← Q536 c s,h1]

def szS (s : Str) : Bool:=decide (s.length ≤ 1000000000)
def Q6c2 (s : Str) (c : UInt8) (n : Int) : Nat:=if n < 0 then s.count c else min n.toNat (s.length + 1) - 1
def Qowf : Ent Ty El:=⟨[.ro,.ro,.ro,.ro],0,fun a h=>match a,h with
 | [.str s,.str [c],.int .i64 0,.int .i64 n],[]=>some (szS s && (!decide (n = 0) && decide (n ≤ 1000000000)),.sl .str (Lib.splitK [c] 0 (Q6c2 s c n) s),[])
 | _,_=>none⟩
def Q123 : Ent Ty El:=⟨[.ro,.ro],0,fun a h=>match a,h with
 | [.str s,.str [c]],[]=>some (szS s,.sl .str (cutS (c.toNat : Int) s),[])
 | _,_=>none⟩
theorem cutB (s : ByteArray) (c : UInt8) (k : Nat) : (Lib.splitB ⟨#[c]⟩ 0 k s).map (fun x=>x.data.toList) = Lib.splitK [c] 0 k s.data.toList:=Lib.splitB_data ⟨#[c]⟩ 0 k s

theorem Qy5w (s : Str) (c : UInt8) (n : Int) (hg : (szS s && (!decide (n = 0) && decide (n ≤ 1000000000))) = true) : Qewq Tryz.prog CP Qs0p [.str s,.str [c],.int .i64 0,.int .i64 n] [] (.sl .str (Lib.splitK [c] 0 (Q6c2 s c n) s)) []:=by
 simp only [szS,Bool.and_eq_true,decide_eq_true_eq,Bool.not_eq_true',decide_eq_false_iff_not] at hg
 obtain ⟨hs,hn0,hn⟩:=hg
 refine Qewq.quiet CP_ok fun w N vs hsz hrep=>?_
 obtain ⟨sb,h0,hsb⟩:=Qfrf hrep hsz (j:=0) rfl
 obtain ⟨cb,h1,hcb⟩:=Qfrf hrep hsz (j:=1) rfl
 have h2:=Qf6o hrep hsz (j:=2) rfl
 have h3:=Qf6o hrep hsz (j:=3) rfl
 obtain rfl : cb = ⟨#[c]⟩:=Qa5q hcb
 rw [arr4 hsz h0 h1 h2 h3]
 have hsize : sb.size = s.length:=by rw [Lib.size_eq,hsb]
 have hcnt : Lib.countB sb ⟨#[c]⟩ = s.count c:=by
  show Lib.count sb.data.toList [c] = _
  rw [Lib.count_one,hsb]
 have hle : s.count c ≤ s.length:=List.count_le_length
 have hN : ((Q6c2 s c n + 1 : Nat) : Int) = min (if n < 0 then (Lib.countB sb ⟨#[c]⟩ : Int) + 1 else n) ((sb.size : Int) + 1):=by
  rw [hcnt,hsize]
  unfold Q6c2
  by_cases h : n < 0
  ·rw [if_pos h,if_pos h]; omega
  ·rw [if_neg h,if_neg h]; omega
 have hc:=Any.strings_genSplit_core Tryz.lays221 (by kernel_rfl) sb ⟨#[c]⟩ 0 n (Q6c2 s c n + 1) w (by omega) (Nat.le_refl 1) (Nat.zero_le _)
  (fun x cc hx=>by
   have:=Any.strings_Index_one Tryz.lays143 x c (w.alloc (.cells cc 9))
   refine Calls.mono this ?_
   rintro e w' ⟨rfl,rfl⟩
   refine ⟨?_,rfl⟩
   rw [← Lib.index_one])
  (by
   refine Calls.mono (Any.strings_Count_one Tryz.lays138 sb c w) ?_
   rintro e w' ⟨rfl,rfl⟩
   refine ⟨?_,rfl⟩
   rw [hcnt,← hsb]; rfl) hn0 (by omega) hN
 refine Calls.mono hc ?_
 rintro e w' ⟨rfl,rfl⟩
 refine ⟨_,rfl,Fr.alloc w _,fun N' hro hN'=>?_⟩
 have hlen:=Lib.splitB_length_le ⟨#[c]⟩ 0 (Q6c2 s c n) sb
 have:=RepA.newStrs (El:=El) CP_ok (T:=.str) (f:=fun x=>x) (g:=fun x=>x) (fun x=>rfl) (fun _=>rfl) (N:=N') (w:=w) (t:=9) (ss:=Lib.splitB ⟨#[c]⟩ 0 (Q6c2 s c n) sb) (n:=(Lib.splitB ⟨#[c]⟩ 0 (Q6c2 s c n) sb).length) (cap:=Q6c2 s c n + 1)
  (arr:=Lib.cellsOf (Lib.splitB ⟨#[c]⟩ 0 (Q6c2 s c n) sb) (Q6c2 s c n + 1)) rfl (by omega) (hN' _ (Nat.le_refl _) (by rw [Q541]; omega)) (fun i x hx=>by
   unfold Lib.cellsOf
   have hi:=(List.getElem?_eq_some_iff.1 hx).1
   rw [List.getElem?_toArray,List.getElem?_append_left (by simpa using hi),List.getElem?_map,hx]; rfl)
 rw [cutB,hsb] at this
 exact this
theorem Qtro : EntOK Tryz.prog CP Qs0p Qowf:=by
 refine ⟨⟨Tryz.f184,by kernel_rfl,by kernel_rfl,by kernel_rfl⟩,fun args H res H' h=>?_⟩
 simp only [Qowf] at h
 split at h
 ·simp only [Option.some.injEq,Prod.mk.injEq] at h
  obtain ⟨hg,rfl,rfl⟩:=h
  exact Qy5w _ _ _ hg
 ·cases h
end Lx
namespace Lx
open Go Go.Proofs
noncomputable def Qwzr : RE Ty El:=⟨Tryz.prog,CP,[(Qs0p,Qowf)],Tryz.f168,0,[],[]⟩
theorem Qvk0 : REOK Qwzr Qryc:=⟨CP_ok,(TabOK.cons Qtro Qye1),by kernel_rfl,by kernel_rfl⟩
theorem Q3is (s : Str) (c : UInt8) : aRun Qwzr 600 false (body0 Qwzr.fn) (Q4gm Qwzr.fn [.str s,.str [c]] []) =
 ifb (szS s && (!decide ((-1 : Int) = (0 : Int)) && decide ((-1 : Int) ≤ (1000000000 : Int)))) (some (.ret (.sl .str (Lib.splitK [c] (0 : Nat) (Q6c2 s c (-1 : Int)) s)) [])) (none):=by kernel_rfl
theorem Qpa7 (s : Str) (c : UInt8) (hg : szS s = true) : Qewq Tryz.prog CP Qryc [.str s,.str [c]] [] (.sl .str (cutS (c.toNat : Int) s)) []:=by
 refine Qewq.of Qvk0 (by kernel_rfl) (Q3is s c) ?_
 refine Sat.ifb (fun _=>?_) (fun h=>?_)
 ·refine Sat.ret ?_ rfl
  rw [← Q536]; rfl
 ·refine Sat.no ?_
  simp [hg] at h
theorem Qne7 : EntOK Tryz.prog CP Qryc Q123:=by
 refine ⟨⟨Tryz.f168,by kernel_rfl,by kernel_rfl,by kernel_rfl⟩,fun args H res H' h=>?_⟩
 simp only [Q123] at h
 split at h
 ·simp only [Option.some.injEq,Prod.mk.injEq] at h
  obtain ⟨hg,rfl,rfl⟩:=h
  exact Qpa7 _ _ hg
 ·cases h

end Lx
namespace Lx
open Go Go.Proofs
theorem Qnlg {K V : Ty} (hk : ∀ a b : El K,CP.keq K a b = true ↔ a = b) (c c' : El K) (y : El V) : ∀ m : List (El K × El V),getK CP K V c' (putK CP K V c y m) = if CP.keq K c' c = true then y else getK CP K V c' m
 | []=>by simp only [putK,getK]
 | p :: m=>by
  simp only [putK]
  by_cases h : CP.keq K c p.1 = true
  ·rw [if_pos h]
   simp only [getK]
   by_cases h2 : CP.keq K c' c = true
   ·rw [if_pos h2,if_pos h2]
   ·rw [if_neg h2,if_neg h2]
    have : ¬ CP.keq K c' p.1 = true:=fun e=>h2 ((hk _ _).2 (((hk _ _).1 e).trans ((hk _ _).1 h).symm))
    rw [if_neg this]
  ·rw [if_neg h]
   simp only [getK]
   rw [Qnlg hk c c' y m]
   by_cases h2 : CP.keq K c' p.1 = true
   ·have : ¬ CP.keq K c' c = true:=fun e=>h ((hk _ _).2 (((hk _ _).1 e).symm.trans ((hk _ _).1 h2)))
    rw [if_pos h2,if_neg this,if_pos h2]
   ·rw [if_neg h2,if_neg h2]
theorem Qfl4 (a b : Cell) : CP.keq .pair a b = true ↔ a = b:=by
 obtain ⟨ax,ay⟩:=a
 obtain ⟨bx,b_y⟩:=b
 show ((ax == bx && ay == b_y) = true) ↔ _
 simp
def knows (m : List (El .pair × El .bool)) (seen : List Point) : Prop:=∀ p : Point,getK CP .pair .bool (⟨p.x,p.y⟩ : Cell) m = !Q343 seen p
theorem Qhyl : knows [] []:=fun p=>rfl
theorem Qprk {m : List (El .pair × El .bool)} {seen : List Point} (h : knows m seen) (q : Point) : knows (putK CP .pair .bool (⟨q.x,q.y⟩ : Cell) true m) (seen ++ [q]):=fun p=>by
 rw [Qnlg Qfl4,h p]
 have e : CP.keq .pair (⟨p.x,p.y⟩ : Cell) (⟨q.x,q.y⟩ : Cell) = (q.x == p.x && q.y == p.y):=by
  show (p.x == q.x && p.y == q.y) = _
  rw [Bool.beq_comm (a:=p.x),Bool.beq_comm (a:=p.y)]
 rw [e]
 simp only [Q343,List.all_append,List.all_cons,List.all_nil,Bool.and_true]
 by_cases hc : (q.x == p.x && q.y == p.y) = true
 ·rw [if_pos hc,hc]; simp
 ·rw [if_neg hc]
  have : (q.x == p.x && q.y == p.y) = false:=by simpa using hc
  rw [this]; simp
def Qzuu : Ent Ty El:=Qm9f
theorem le_lt (a b : Str) : (Q7zj a b || a == b) = !Q7zj b a:=by
 have tot : ∀ a b : Str,(Q7zj a b || a == b) = !Q7zj b a:=by
  intro a
  induction a with
  | nil=>intro b; cases b <;> rfl
  | cons x a ih =>
   intro b
   cases b with
   | nil=>rfl
   | cons y b =>
    simp only [Q7zj]
    have hne : ((x :: a) == (y :: b)) = (x == y && a == b):=rfl
    rw [hne]
    by_cases h1 : x < y
    ·have h2 : ¬ y < x:=fun h=>by exact absurd (UInt8.lt_trans h1 h) (UInt8.lt_irrefl _)
     have h3 : (x == y) = false:=by simp; intro e; subst e; exact absurd h1 (UInt8.lt_irrefl _)
     have h4 : ¬ y = x:=fun e=>by subst e; exact absurd h1 (UInt8.lt_irrefl _)
     simp [h1,h2,h3,h4]
    ·by_cases h2 : y < x
     ·have h3 : (x == y) = false:=by simp; intro e; subst e; exact absurd h2 (UInt8.lt_irrefl _)
      simp [h1,h2,h3]
     ·have h3 : x = y:=by
       have a1:=UInt8.not_lt.1 h1
       have a2:=UInt8.not_lt.1 h2
       exact UInt8.le_antisymm a2 a1
      subst h3
      simp [h1,ih b]
 exact tot a b
end Lx
namespace Lx
open Go Go.Proofs
noncomputable def Qc92 : RE Ty El:=⟨Tryz.prog,CP,[(Qi5t,Qcb4),(Q3pj,Qj6w)],Tryz.f92,0,[],[(4,[(1,.any),(20,.any),(21,.any),(22,.any)]),(11,[(1,.any),(5,.any),(49,.any),(50,.any),(51,.any)])]⟩
theorem Qsdp : REOK Qc92 Qdaf:=⟨CP_ok,(TabOK.cons Qvs4 (TabOK.cons Qvb7 Qye1)),by kernel_rfl,by kernel_rfl⟩
theorem Qm8h (ks : List Kind) (ps : List Point) : aRun Qc92 600 false (body0 Qc92.fn) (Q4gm Qc92.fn [.agg [.sl .kind ks,.sl .point ps]] []) =
 ifb (decide ((↑ks.length : Int) > (6 : Int))) (some (.ret (.bool false) [])) (ifb (decide ((↑ps.length : Int) > (16 : Int))) (some (.ret (.bool false) [])) (some (.go (Qu6t Qc92.fn 4) [.ptr 0 0,.sl .kind ks,.int .i64 (↑ks.length : Int),.int .i64 (0 : Int)] [.box [.sl .kind ks,.sl .point ps]]))):=by kernel_rfl
theorem Q0bu (x0 : List (El .kind)) (x1 : Int) (x2 : Int) (x3 : List (El .kind)) (x4 : List (El .point)) : aRun Qc92 600 true (Qu6t Qc92.fn 4) (cutSt Qc92.fn (Q1m4 Qc92 (Qu6t Qc92.fn 4)) [.ptr 0 0,.sl .kind x0,.int .i64 x1,.int .i64 x2] [.box [.sl .kind x3,.sl .point x4]]) =
 ifb (decide (x2 < x1)) (ifb (inb x2 x0.length) (ifb (!Kind.ok (x0.getD x2.toNat (Qc92.C.dflt Ty.kind))) (some (.ret (.bool false) [])) (ifb (decide (x2 > (0 : Int))) (ifb (inb (IntKind.i64.wrap (x2 - (1 : Int))) x3.length) (ifb (Q7zj (x0.getD x2.toNat (Qc92.C.dflt Ty.kind)).name (x3.getD (IntKind.i64.wrap (x2 - (1 : Int))).toNat (Qc92.C.dflt Ty.kind)).name || (x0.getD x2.toNat (Qc92.C.dflt Ty.kind)).name == (x3.getD (IntKind.i64.wrap (x2 - (1 : Int))).toNat (Qc92.C.dflt Ty.kind)).name) (some (.ret (.bool false) [])) (some (.go (Qu6t Qc92.fn 4) [.ptr 0 0,.sl .kind x0,.int .i64 x1,.int .i64 (IntKind.i64.wrap (x2 + (1 : Int)))] [.box [.sl .kind x3,.sl .point x4]]))) (none)) (some (.go (Qu6t Qc92.fn 4) [.ptr 0 0,.sl .kind x0,.int .i64 x1,.int .i64 (IntKind.i64.wrap (x2 + (1 : Int)))] [.box [.sl .kind x3,.sl .point x4]])))) (none)) (some (.go (Qu6t Qc92.fn 11) [.ptr 0 0,.mapr 1,.sl .point x4,.int .i64 (↑x4.length : Int),.int .i64 (0 : Int)] [.box [.sl .kind x3,.sl .point x4],.mp .pair .bool []])):=by kernel_rfl
theorem Qdiq (x0 : List (El .point)) (x1 : Int) (x2 : Int) (x3 : List (El .kind)) (x4 : List (El .point)) (x5 : List (El .pair × El .bool)) : aRun Qc92 600 true (Qu6t Qc92.fn 11) (cutSt Qc92.fn (Q1m4 Qc92 (Qu6t Qc92.fn 11)) [.ptr 0 0,.mapr 1,.sl .point x0,.int .i64 x1,.int .i64 x2] [.box [.sl .kind x3,.sl .point x4],.mp .pair .bool x5]) =
 ifb (decide (x2 < x1)) (ifb (inb x2 x0.length) (ifb (!Point.ok (x0.getD x2.toNat (Qc92.C.dflt Ty.point))) (some (.ret (.bool false) [])) (ifb (getK Qc92.C Ty.pair Ty.bool { x:=(x0.getD x2.toNat (Qc92.C.dflt Ty.point)).x,y:=(x0.getD x2.toNat (Qc92.C.dflt Ty.point)).y } x5) (some (.ret (.bool false) [])) (ifb (decide (x2 > (0 : Int))) (ifb (inb (IntKind.i64.wrap (x2 - (1 : Int))) x4.length) (ifb (Q7zj (x0.getD x2.toNat (Qc92.C.dflt Ty.point)).name (x4.getD (IntKind.i64.wrap (x2 - (1 : Int))).toNat (Qc92.C.dflt Ty.point)).name || (x0.getD x2.toNat (Qc92.C.dflt Ty.point)).name == (x4.getD (IntKind.i64.wrap (x2 - (1 : Int))).toNat (Qc92.C.dflt Ty.point)).name) (some (.ret (.bool false) [])) (some (.go (Qu6t Qc92.fn 11) [.ptr 0 0,.mapr 1,.sl .point x0,.int .i64 x1,.int .i64 (IntKind.i64.wrap (x2 + (1 : Int)))] [.box [.sl .kind x3,.sl .point x4],.mp .pair .bool (putK Qc92.C Ty.pair Ty.bool { x:=(x0.getD x2.toNat (Qc92.C.dflt Ty.point)).x,y:=(x0.getD x2.toNat (Qc92.C.dflt Ty.point)).y } true x5)]))) (none)) (some (.go (Qu6t Qc92.fn 11) [.ptr 0 0,.mapr 1,.sl .point x0,.int .i64 x1,.int .i64 (IntKind.i64.wrap (x2 + (1 : Int)))] [.box [.sl .kind x3,.sl .point x4],.mp .pair .bool (putK Qc92.C Ty.pair Ty.bool { x:=(x0.getD x2.toNat (Qc92.C.dflt Ty.point)).x,y:=(x0.getD x2.toNat (Qc92.C.dflt Ty.point)).y } true x5)]))))) (none)) (some (.ret (.bool true) [])):=by kernel_rfl
theorem Qn1c (ks : List Kind) (ps : List Point) (hp : ps.length ≤ 16) : ∀ (d i : Nat) (m : List (El .pair × El .bool)),i + d = ps.length → knows m (ps.take i) →
  Cut Qc92 Qdaf 11 [.ptr 0 0,.mapr 1,.sl .point ps,.int .i64 (ps.length : Int),.int .i64 (i : Int)] [.box [.sl .kind ks,.sl .point ps],.mp .pair .bool m] (.bool (Qaym (ps.take i) ((ps.take i).getLast?.map (·.name)) (ps.drop i))) []:=by
 intro d
 induction d with
 | zero =>
  intro i m hi hm
  refine Cut.of Qsdp rfl (Qdiq ps ps.length i ks ps m) ?_
  rw [decide_eq_false (by omega),List.drop_of_length_le (by omega)]
  exact Sat.retB rfl rfl
 | succ d ih =>
  intro i m hi hm
  refine Cut.of Qsdp rfl (Qdiq ps ps.length i ks ps m) ?_
  have hlt : i < ps.length:=by omega
  have hw : IntKind.wrap .i64 ((i : Int) + 1) = ((i + 1 : Nat) : Int):=by rw [Qbrg] <;> omega
  have hw1 : IntKind.wrap .i64 ((i : Int) - 1) = (i : Int) - 1:=by rw [Qbrg] <;> omega
  have hd : ps.drop i = ps[i] :: ps.drop (i + 1):=List.drop_eq_getElem_cons hlt
  have hx : ps.getD (i : Int).toNat (Qc92.C.dflt .point) = ps[i]:=by simp [hlt]
  have hin : inb (i : Int) ps.length = true:=by simp only [inb,Bool.and_eq_true,decide_eq_true_eq]; omega
  have hlo : decide ((i : Int) < (ps.length : Int)) = true:=decide_eq_true (by omega)
  have hl : (ps.take (i + 1)).getLast? = some ps[i]:=by rw [List.take_succ_eq_append_getElem hlt,List.getLast?_concat]
  have ih':=ih (i + 1) (putK CP .pair .bool (⟨ps[i].x,ps[i].y⟩ : Cell) true m) (by omega) (by rw [List.take_succ_eq_append_getElem hlt]; exact Qprk hm ps[i])
  rw [hl,Option.map_some] at ih'
  rw [hw,hw1,hx,hd,hin,hlo,Qaym,← List.take_succ_eq_append_getElem hlt]
  simp only [Qd8q]
  cases hk : ps[i].ok with
  | false=>exact Sat.retB rfl rfl
  | true =>
   have hkn : getK Qc92.C .pair .bool ⟨ps[i].x,ps[i].y⟩ m = !Q343 (ps.take i) ps[i]:=hm ps[i]
   rw [hkn]
   simp only [Bool.not_true,Qk7y,Bool.true_and]
   cases hf : Q343 (ps.take i) ps[i] with
   | false =>
    refine Sat.retB ?_ rfl
    simp
   | true =>
   simp only [Bool.not_true,Qk7y,Bool.true_and]
   by_cases h0 : (i : Int) > 0
   ·have hi1 : i - 1 < ps.length:=by omega
    have hx1 : ps.getD ((i : Int) - 1).toNat (Qc92.C.dflt .point) = ps[i - 1]:=by
     rw [show ((i : Int) - 1).toNat = i - 1 by omega]; simp [hi1]
    have hl1 : (ps.take i).getLast? = some ps[i - 1]:=by
     have:=List.take_succ_eq_append_getElem hi1
     rw [show i - 1 + 1 = i by omega] at this
     rw [this,List.getLast?_concat]
    have hin1 : inb ((i : Int) - 1) ps.length = true:=by simp only [inb,Bool.and_eq_true,decide_eq_true_eq]; omega
    rw [decide_eq_true h0,hx1,hl1,hin1,le_lt]
    simp only [Qd8q,Option.map_some,Qe7t]
    cases hb : Q7zj ps[i - 1].name ps[i].name with
    | false=>exact Sat.retB rfl rfl
    | true =>
     simp only [Bool.not_true,Qk7y,Bool.true_and]
     exact Sat.cut ih'
   ·rw [decide_eq_false h0]
    have : i = 0:=by omega
    subst this
    exact Sat.cut ih'
theorem Qhbw (ks : List Kind) (ps : List Point) (hk6 : ks.length ≤ 6) (hp : ps.length ≤ 16) : ∀ (d i : Nat),i + d = ks.length →
  Cut Qc92 Qdaf 4 [.ptr 0 0,.sl .kind ks,.int .i64 (ks.length : Int),.int .i64 (i : Int)] [.box [.sl .kind ks,.sl .point ps]] (.bool (Qh9e ((ks.take i).getLast?.map (·.name)) (ks.drop i) && Qaym [] none ps)) []:=by
 intro d
 induction d with
 | zero =>
  intro i hi
  refine Cut.of Qsdp rfl (Q0bu ks ks.length i ks ps) ?_
  rw [decide_eq_false (by omega),List.drop_of_length_le (by omega)]
  have:=Qn1c ks ps hp ps.length 0 [] (by omega) Qhyl
  exact Sat.cut this
 | succ d ih =>
  intro i hi
  refine Cut.of Qsdp rfl (Q0bu ks ks.length i ks ps) ?_
  have hlt : i < ks.length:=by omega
  have hw : IntKind.wrap .i64 ((i : Int) + 1) = ((i + 1 : Nat) : Int):=by rw [Qbrg] <;> omega
  have hw1 : IntKind.wrap .i64 ((i : Int) - 1) = (i : Int) - 1:=by rw [Qbrg] <;> omega
  have hd : ks.drop i = ks[i] :: ks.drop (i + 1):=List.drop_eq_getElem_cons hlt
  have hx : ks.getD (i : Int).toNat (Qc92.C.dflt .kind) = ks[i]:=by simp [hlt]
  have hin : inb (i : Int) ks.length = true:=by simp only [inb,Bool.and_eq_true,decide_eq_true_eq]; omega
  have hlo : decide ((i : Int) < (ks.length : Int)) = true:=decide_eq_true (by omega)
  have hl : (ks.take (i + 1)).getLast? = some ks[i]:=by rw [List.take_succ_eq_append_getElem hlt,List.getLast?_concat]
  have ih':=ih (i + 1) (by omega)
  rw [hl,Option.map_some] at ih'
  rw [hw,hw1,hx,hd,hin,hlo,Qh9e]
  simp only [Qd8q]
  cases hk : ks[i].ok with
  | false=>exact Sat.retB rfl rfl
  | true =>
   simp only [Bool.not_true,Qk7y,Bool.true_and]
   by_cases h0 : (i : Int) > 0
   ·have hi1 : i - 1 < ks.length:=by omega
    have hx1 : ks.getD ((i : Int) - 1).toNat (Qc92.C.dflt .kind) = ks[i - 1]:=by
     rw [show ((i : Int) - 1).toNat = i - 1 by omega]; simp [hi1]
    have hl1 : (ks.take i).getLast? = some ks[i - 1]:=by
     have:=List.take_succ_eq_append_getElem hi1
     rw [show i - 1 + 1 = i by omega] at this
     rw [this,List.getLast?_concat]
    have hin1 : inb ((i : Int) - 1) ks.length = true:=by simp only [inb,Bool.and_eq_true,decide_eq_true_eq]; omega
    rw [decide_eq_true h0,hx1,hl1,hin1,le_lt]
    simp only [Qd8q,Option.map_some,Qe7t]
    cases hb : Q7zj ks[i - 1].name ks[i].name with
    | false=>exact Sat.retB rfl rfl
    | true =>
     simp only [Bool.not_true,Qk7y,Bool.true_and]
     exact Sat.cut ih'
   ·rw [decide_eq_false h0]
    have : i = 0:=by omega
    subst this
    exact Sat.cut ih'
theorem Qzr7 (ks : List Kind) (ps : List Point) : Qewq Tryz.prog CP Qdaf [.agg [.sl .kind ks,.sl .point ps]] [] (.bool (Qib4 ks ps)) []:=by
 refine Qewq.of Qsdp (by kernel_rfl) (Qm8h ks ps) ?_
 by_cases h6 : ks.length ≤ 6
 ·rw [decide_eq_false (by omega)]
  by_cases h16 : ps.length ≤ 16
  ·rw [decide_eq_false (by omega)]
   have:=Qhbw ks ps h6 h16 ks.length 0 (by omega)
   rw [show Qib4 ks ps = (Qh9e ((ks.take 0).getLast?.map (·.name)) (ks.drop 0) && Qaym [] none ps) by simp [Qib4,h6,h16]]
   exact Sat.cut this
  ·rw [decide_eq_true (by omega)]
   refine Sat.retB ?_ rfl
   simp [Qib4,h16]
 ·rw [decide_eq_true (by omega)]
  refine Sat.retB ?_ rfl
  simp [Qib4,h6]
theorem Qkfq : EntOK Tryz.prog CP Qdaf Qzuu:=by
 refine ⟨⟨Tryz.f92,by kernel_rfl,by kernel_rfl,by kernel_rfl⟩,fun args H res H' h=>?_⟩
 simp only [Qzuu,Qm9f] at h
 split at h
 ·simp only [Option.some.injEq,Prod.mk.injEq] at h
  obtain ⟨hg,rfl,rfl⟩:=h
  exact Qzr7 _ _
 ·cases h
end Lx
namespace Lx
open Go Go.Proofs
def Qy27 : Str:=[48,49,50,51,52,53,54,55,56,57]
def isDig (b : UInt8) : Bool:=decide (48 ≤ b.toNat) && decide (b.toNat ≤ 57)
theorem Q6yr (b : UInt8) : Qy27.contains b = isDig b:=by
 have h : ∀ k : UInt8,(b == k) = decide (b.toNat = k.toNat):=fun k=>by
  by_cases e : b = k
  ·subst e; simp
  ·rw [beq_eq_false_iff_ne.2 e,decide_eq_false (fun h=>e (UInt8.toNat_inj.1 h))]
 simp only [Qy27,List.contains_cons,List.contains_nil,Bool.or_false,h,isDig]
 simp only [show (48 : UInt8).toNat = 48 from rfl,show (49 : UInt8).toNat = 49 from rfl,show (50 : UInt8).toNat = 50 from rfl,show (51 : UInt8).toNat = 51 from rfl,show (52 : UInt8).toNat = 52 from rfl,
  show (53 : UInt8).toNat = 53 from rfl,show (54 : UInt8).toNat = 54 from rfl,show (55 : UInt8).toNat = 55 from rfl,show (56 : UInt8).toNat = 56 from rfl,show (57 : UInt8).toNat = 57 from rfl]
 apply Bool.eq_iff_iff.2
 simp only [Bool.or_eq_true,Bool.and_eq_true,decide_eq_true_eq]
 omega
theorem Qtw7 {p : UInt8 → Bool} : ∀ {l : List UInt8},(∀ x ∈ l.dropWhile p,p x = true) → ∀ x ∈ l,p x = true
 | [],_,x,h=>by simp at h
 | a :: l,h,x,hx=>by
  by_cases ha : p a = true
  ·rw [List.dropWhile_cons_of_pos ha] at h
   simp only [List.mem_cons] at hx
   rcases hx with rfl | hx
   ·exact ha
   ·exact Qtw7 h x hx
  ·rw [List.dropWhile_cons_of_neg ha] at h
   exact h x hx
theorem Q3mr {p : UInt8 → Bool} : ∀ {l : List UInt8},l.dropWhile p = [] ↔ ∀ x ∈ l,p x = true
 | []=>by simp
 | a :: l=>by
  by_cases ha : p a = true
  ·rw [List.dropWhile_cons_of_pos ha,Q3mr (l:=l)]
   simp [ha]
  ·rw [List.dropWhile_cons_of_neg ha]
   simp [ha]
theorem Qm0m (s : Str) : (Lib.trimS s Qy27 == []) = s.all isDig:=by
 have e : (fun b=>Qy27.contains b) = isDig:=funext Q6yr
 apply Bool.eq_iff_iff.2
 unfold Lib.trimS Lib.trimLeftS Lib.trimRightS
 rw [e,beq_iff_eq,Q3mr,List.all_eq_true]
 constructor
 ·intro h x hx
  exact Qtw7 (l:=s.reverse) (fun y hy=>h y (by simpa using hy)) x (by simpa using hx)
 ·intro h x hx
  have : s.reverse.dropWhile isDig = []:=Q3mr.2 (fun y hy=>h y (by simpa using hy))
  rw [this] at hx; simp at hx
def optI : Option Nat → Int
 | some k=>(k : Int)
 | none=>-1
theorem Qe53 : ∀ (s : Str) (acc : Nat),numGo (acc : Int) s = optI (Lib.decFrom acc s)
 | [],acc=>rfl
 | b :: s,acc=>by
  simp only [numGo,Lib.decFrom,Lib.digitVal]
  by_cases h : 48 ≤ b.toNat ∧ b.toNat ≤ 57
  ·rw [if_neg (by omega),if_pos h]
   have : (acc : Int) * 10 + ((b.toNat : Int) - 48) = ((acc * 10 + (b.toNat - 48) : Nat) : Int):=by omega
   rw [this]
   exact Qe53 s _
  ·rw [if_pos (by omega),if_neg h]
   rfl
theorem Q2qd : ∀ (s : Str) (acc : Nat),s.all isDig = (Lib.decFrom acc s).isSome
 | [],acc=>rfl
 | b :: s,acc=>by
  simp only [List.all_cons,Lib.decFrom,Lib.digitVal,isDig]
  by_cases h : 48 ≤ b.toNat ∧ b.toNat ≤ 57
  ·rw [if_pos h,decide_eq_true h.1,decide_eq_true h.2]
   simp only [Bool.and_self,Bool.true_and]
   exact Q2qd s _
  ·rw [if_neg h]
   have : (decide (48 ≤ b.toNat) && decide (b.toNat ≤ 57)) = false:=by
    apply Bool.eq_false_iff.2
    intro e
    simp only [Bool.and_eq_true,decide_eq_true_eq] at e
    exact h e
   rw [this]; rfl
theorem Qk3r {s : Str} (h : s.all isDig = true) : 0 ≤ numGo 0 s:=by
 have:=Qe53 s 0
 rw [Q2qd s 0] at h
 obtain ⟨k,hk⟩:=Option.isSome_iff_exists.1 h
 rw [hk] at this
 have e : ((0 : Nat) : Int) = 0:=rfl
 rw [e] at this
 rw [this]; exact Int.natCast_nonneg k
theorem Qz12 {s : Str} (h : s.all isDig = false) : numGo 0 s = -1:=by
 have:=Qe53 s 0
 rw [Q2qd s 0] at h
 have hn : Lib.decFrom 0 s = none:=by cases hd : Lib.decFrom 0 s with | none=>rfl | some k=>rw [hd] at h; cases h
 rw [hn] at this
 exact this
theorem Qf1l {s : Str} (h0 : 0 < s.length) (h : s.all isDig = true) : Lib.atoi s = some (numGo 0 s):=by
 cases s with
 | nil=>simp at h0
 | cons b s =>
  have hb : isDig b = true:=by simp only [List.all_cons,Bool.and_eq_true] at h; exact h.1
  simp only [isDig,Bool.and_eq_true,decide_eq_true_eq] at hb
  have n1 : ¬ (b == 45) = true:=fun e=>by have:=congrArg UInt8.toNat (eq_of_beq e); simp at this; omega
  have n2 : ¬ (b == 43) = true:=fun e=>by have:=congrArg UInt8.toNat (eq_of_beq e); simp at this; omega
  have hs:=Q2qd (b :: s) 0
  rw [h] at hs
  obtain ⟨k,hk⟩:=Option.isSome_iff_exists.1 hs.symm
  have hn:=Qe53 (b :: s) 0
  rw [hk] at hn
  have e : ((0 : Nat) : Int) = 0:=rfl
  rw [e] at hn
  rw [hn]
  unfold Lib.atoi
  simp only
  rw [if_neg n1,if_neg n2]
  simp [Lib.decNat,hk,optI]

def Q028 : Ent Ty El:=⟨[.ro,.ro],0,fun a h=>match a,h with
 | [.str s,.str d],[]=>some (decide (d = Qy27) && (decide (0 < s.length) && szS s),.str (Lib.trimS s Qy27),[])
 | _,_=>none⟩
def Qrl7 : Ent Ty El:=⟨[.ro],0,fun a h=>match a,h with
 | [.str s],[]=>some (decide (s.length ≤ 18) && (Lib.atoi s).isSome,.tup [.int .i64 ((Lib.atoi s).getD 0),.dead],[])
 | _,_=>none⟩
def decV (s : Str) : Int:=max 0 (numF s)
def decB (s : Str) : Bool:=decide (0 ≤ numF s)
def Q18u : Ent Ty El:=⟨[.ro,.ro],0,fun a h=>match a,h with
 | [.str s,.int .i64 m],[]=>some (decide (m = 7),.tup [.int .i64 (decV s),.bool (decB s)],[])
 | _,_=>none⟩
def decsV (w : List Str) : List Int:=if w.all decB then w.map decV else []
def Qroy : Ent Ty El:=⟨[.ro,.ro],0,fun a h=>match a,h with
 | [.sl .str w,.int .i64 m],[]=>some (decide (m = 7) && decide (w.length ≤ 2000000000),.tup [.sl .int (decsV w),.bool (w.all decB)],[])
 | _,_=>none⟩

theorem Fr.below {w w' : World} (h : RowKit.Below w.heap.size w w') : Fr w w' (fun _=>False):=⟨h.os,h.tape,h.output,h.size,fun b hb _=>h.block b hb⟩
theorem Q5oj (w : World) (e : TypeId) (s : ByteArray) : Fr w (Lib.bytesWorld w e s) (fun _=>False):=by
 refine ⟨?_, ?_, ?_,by rw [Lib.bytesWorld_size]; omega,fun b hb _=>Lib.bytesWorld_at_old w e s b hb⟩ <;> (unfold Lib.bytesWorld World.freeze; split <;> rfl)

theorem Qess (s : Str) (hg : (decide (s.length ≤ 18) && (Lib.atoi s).isSome) = true) : Qewq Tryz.prog CP Q6ji [.str s] [] (.tup [.int .i64 ((Lib.atoi s).getD 0),.dead]) []:=by
 simp only [Bool.and_eq_true,decide_eq_true_eq] at hg
 obtain ⟨hl,hs⟩:=hg
 obtain ⟨n,hn⟩:=Option.isSome_iff_exists.1 hs
 refine Qewq.quiet CP_ok fun w N vs hsz hrep=>?_
 obtain ⟨sb,h0,hsb⟩:=Qfrf hrep hsz (j:=0) rfl
 rw [arr1 hsz h0]
 refine Calls.mono (Tryz.strconv_Atoi sb n (by rw [Lib.size_eq,hsb]; exact hl) (by rw [hsb]; exact hn) w) ?_
 rintro e w' ⟨rfl,t,rfl⟩
 refine ⟨_,rfl,Q5oj w _ _,fun N' _ _=>?_⟩
 rw [hn]
 refine .tup _ _ rfl fun j v c hv hc=>?_
 match j with
 | 0=>simp at hv hc; subst hv; subst hc; exact .int _ _
 | 1=>simp at hv hc; subst hc; exact .dead _
 | j + 2=>simp at hv
theorem Qabz : EntOK Tryz.prog CP Q6ji Qrl7:=by
 refine ⟨⟨Tryz.f186,by kernel_rfl,by kernel_rfl,by kernel_rfl⟩,fun args H res H' h=>?_⟩
 simp only [Qrl7] at h
 split at h
 ·simp only [Option.some.injEq,Prod.mk.injEq] at h
  obtain ⟨hg,rfl,rfl⟩:=h
  exact Qess _ hg
 ·cases h
end Lx
namespace Lx
open Go Go.Proofs
theorem Qtm3 (w : World) : (zeroValue 267).run Tryz.prog w = .ok (.agg (Array.replicate 256 (.bool false))) w:=by
 have h : (Tryz.prog.info? 267).bind (·.zero) = some (.agg (Array.replicate 256 (.bool false))):=by kernel_rfl
 cases hi : Tryz.prog.info? 267 with
 | none=>rw [hi] at h; cases h
 | some i=>rw [hi] at h; exact Q4lz hi h w
theorem Qr77 (s d : Str) (hg : (decide (d = Qy27) && (decide (0 < s.length) && szS s)) = true) : Qewq Tryz.prog CP Q409 [.str s,.str d] [] (.str (Lib.trimS s Qy27)) []:=by
 simp only [Bool.and_eq_true,decide_eq_true_eq,szS] at hg
 obtain ⟨rfl,hl,hs⟩:=hg
 refine Qewq.quiet CP_ok fun w N vs hsz hrep=>?_
 obtain ⟨sb,h0,hsb⟩:=Qfrf hrep hsz (j:=0) rfl
 obtain ⟨cb,h1,hcb⟩:=Qfrf hrep hsz (j:=1) rfl
 rw [arr2 hsz h0 h1]
 have hz : sb.size = s.length:=by rw [Lib.size_eq,hsb]
 have hc : cb.size = 10:=by rw [Lib.size_eq,hcb]; rfl
 refine Calls.mono (Any.strings_Trim_set Tryz.lays160 Qtm3 (by kernel_rfl) sb cb w (by omega) (by omega) (by omega) (by omega) (fun j b hb=>by
  rw [hcb] at hb
  have hm : Qy27.contains b = true:=by simpa using List.mem_of_getElem? hb
  rw [Q6yr] at hm
  simp only [isDig,Bool.and_eq_true,decide_eq_true_eq] at hm
  omega)) ?_
 rintro e w' ⟨rfl,q,rfl⟩
 have f1:=Fr.alloc w (.cells (Lib.setCells cb.data.toList) 267)
 have f2:=Fr.alloc (w.alloc (.cells (Lib.setCells cb.data.toList) 267)) (.cells (Lib.setCells cb.data.toList) 267)
 have f3:=f1.trans' f2
 refine ⟨_,rfl,⟨f3.os,f3.tape,f3.output,f3.size,f3.block⟩,fun N' _ _=>.str _ _ (by rw [hsb,hcb])⟩
theorem Qgq4 : EntOK Tryz.prog CP Q409 Q028:=by
 refine ⟨⟨Tryz.f185,by kernel_rfl,by kernel_rfl,by kernel_rfl⟩,fun args H res H' h=>?_⟩
 simp only [Q028] at h
 split at h
 ·simp only [Option.some.injEq,Prod.mk.injEq] at h
  obtain ⟨hg,rfl,rfl⟩:=h
  exact Qr77 _ _ hg
 ·cases h
end Lx
namespace Lx
open Go Go.Proofs
noncomputable def Qhnv : RE Ty El:=⟨Tryz.prog,CP,[(Q409,Q028),(Q6ji,Qrl7)],Tryz.f104,0,[],[]⟩
theorem Qmyy : REOK Qhnv Q8l1:=⟨CP_ok,(TabOK.cons Qgq4 (TabOK.cons Qabz Qye1)),by kernel_rfl,by kernel_rfl⟩
theorem Qqay (s : Str) (m : Int) : aRun Qhnv 600 false (body0 Qhnv.fn) (Q4gm Qhnv.fn [.str s,.int .i64 m] []) =
 ifb (s == #[].toList) (some (.ret (.tup [.int .i64 (0 : Int),.bool false]) [])) (ifb (decide ((↑(List.length s) : Int) > m)) (some (.ret (.tup [.int .i64 (0 : Int),.bool false]) [])) (ifb (decide (#[(48 : UInt8),(49 : UInt8),(50 : UInt8),(51 : UInt8),(52 : UInt8),(53 : UInt8),(54 : UInt8),(55 : UInt8),(56 : UInt8),(57 : UInt8)].toList = Qy27) && (decide ((0 : Nat) < List.length s) && szS s)) (ifb (!Lib.trimS s Qy27 == #[].toList) (some (.ret (.tup [.int .i64 (0 : Int),.bool false]) [])) (ifb (inb (0 : Int) (List.length s)) (ifb ((↑(List.getD s (Int.toNat (0 : Int)) (0 : UInt8)).toNat : Int) == (48 : Int)) (ifb (!s == #[(48 : UInt8)].toList) (some (.ret (.tup [.int .i64 (0 : Int),.bool false]) [])) (ifb (decide (List.length s ≤ (18 : Nat)) && (Lib.atoi s).isSome) (some (.ret (.tup [.int .i64 ((Lib.atoi s).getD (0 : Int)),.bool true]) [])) (none))) (ifb (decide (List.length s ≤ (18 : Nat)) && (Lib.atoi s).isSome) (some (.ret (.tup [.int .i64 ((Lib.atoi s).getD (0 : Int)),.bool true]) [])) (none))) (none))) (none))):=by kernel_rfl
theorem Qxag (s : Str) (m : Int) (hg : decide (m = 7) = true) : Qewq Tryz.prog CP Q8l1 [.str s,.int .i64 m] [] (.tup [.int .i64 (decV s),.bool (decB s)]) []:=by
 refine Qewq.of Qmyy (by kernel_rfl) (Qqay s m) ?_
 have hm : m = 7:=of_decide_eq_true hg
 subst hm
 have no : numF s = -1 → Sat Qhnv Q8l1 (.tup [.int .i64 (decV s),.bool (decB s)]) [] (some (.ret (.tup [.int .i64 (0 : Int),.bool false]) [])):=fun h=>by
  refine Sat.ret ?_ rfl
  simp [decV,decB,h]
  decide
 have hdig : decide (#[(48 : UInt8),49,50,51,52,53,54,55,56,57].toList = Qy27) = true:=rfl
 rw [hdig]
 by_cases h0 : s = []
 ·subst h0
  exact no rfl
 ·have hl0 : 0 < s.length:=List.length_pos_iff.2 h0
  have e0 : (s == #[].toList) = false:=by simpa using h0
  rw [e0]
  simp only [Qk7y]
  by_cases h7 : s.length ≤ 7
  ·have hz : szS s = true:=decide_eq_true (by omega)
   rw [decide_eq_false (by omega),decide_eq_true hl0,hz,Qm0m]
   simp only [Qk7y,Bool.and_self,Qd8q]
   cases hd : s.all isDig with
   | false =>
    refine no ?_
    unfold numF
    by_cases hc : 1 ≤ s.length ∧ s.length ≤ 7 ∧ ¬ (1 < s.length ∧ ((s.getD 0 0).toNat : Int) = 48)
    ·rw [if_pos hc,Qz12 hd]
    ·rw [if_neg hc]
   | true =>
    have hat:=Qf1l hl0 hd
    have hg0:=Qk3r hd
    have hin : inb (0 : Int) s.length = true:=by simp only [inb,Bool.and_eq_true,decide_eq_true_eq]; omega
    have h18 : (decide (s.length ≤ 18) && (Lib.atoi s).isSome) = true:=by rw [hat,decide_eq_true (by omega)]; rfl
    have yes : ¬ (1 < s.length ∧ ((s.getD 0 0).toNat : Int) = 48) → Sat Qhnv Q8l1 (.tup [.int .i64 (decV s),.bool (decB s)]) [] (some (.ret (.tup [.int .i64 ((Lib.atoi s).getD (0 : Int)),.bool true]) [])):=fun h=>by
     have hn : numF s = numGo 0 s:=by unfold numF; rw [if_pos ⟨hl0,h7,h⟩]
     refine Sat.ret ?_ rfl
     rw [hat]
     have e1 : decV s = numGo 0 s:=by unfold decV; rw [hn]; omega
     have e2 : decB s = true:=by unfold decB; rw [hn]; exact decide_eq_true hg0
     rw [e1,e2]; rfl
    rw [hin,h18]
    simp only [Bool.not_true,Qk7y,Qd8q]
    have ez : s.getD (Int.toNat 0) 0 = s.getD 0 0:=rfl
    rw [ez]
    by_cases hz0 : ((s.getD 0 0).toNat : Int) = 48
    ·rw [hz0]
     simp only [beq_self_eq_true,Qd8q]
     by_cases h1 : 1 < s.length
     ·have hne : (s == #[(48 : UInt8)].toList) = false:=by
       apply beq_eq_false_iff_ne.2
       intro e
       rw [e] at h1; simp at h1
      rw [hne]
      refine no ?_
      unfold numF
      rw [if_neg (fun hc=>hc.2.2 ⟨h1,hz0⟩)]
     ·have hne : (s == #[(48 : UInt8)].toList) = true:=by
       cases s with
       | nil=>simp at hl0
       | cons b t =>
        have ht : t = []:=List.eq_nil_of_length_eq_zero (by simp only [List.length_cons] at h1; omega)
        subst ht
        have : b = 48:=UInt8.toNat_inj.1 (by have : ((b.toNat : Nat) : Int) = 48:=hz0; show b.toNat = 48; omega)
        subst this; rfl
      rw [hne]
      exact yes (fun hc=>h1 hc.1)
    ·rw [beq_eq_false_iff_ne.2 hz0]
     exact yes (fun hc=>hz0 hc.2)
  ·rw [decide_eq_true (by omega)]
   refine no ?_
   unfold numF
   rw [if_neg (by omega)]
theorem Qbi7 : EntOK Tryz.prog CP Q8l1 Q18u:=by
 refine ⟨⟨Tryz.f104,by kernel_rfl,by kernel_rfl,by kernel_rfl⟩,fun args H res H' h=>?_⟩
 simp only [Q18u] at h
 split at h
 ·simp only [Option.some.injEq,Prod.mk.injEq] at h
  obtain ⟨hg,rfl,rfl⟩:=h
  exact Qxag _ _ hg
 ·cases h

noncomputable def Qhfx : RE Ty El:=⟨Tryz.prog,CP,[(Q8l1,Q18u)],Tryz.f167,0,[.ro .int,.any],[(3,[(1,.any),(6,.any),(11,.any),(12,.any),(13,.any)])]⟩
theorem Qker : REOK Qhfx Q0gt:=⟨CP_ok,(TabOK.cons Qbi7 Qye1),by kernel_rfl,by kernel_rfl⟩
theorem Qu7l (w : List Str) (m : Int) : aRun Qhfx 600 false (body0 Qhfx.fn) (Q4gm Qhfx.fn [.sl .str w,.int .i64 m] []) =
 some (.go (Qu6t Qhfx.fn 3) [.int .i64 m,.own 0 [] 0,.sl .str w,.int .i64 (↑w.length : Int),.int .i64 (0 : Int)] [.row .int [] 0 0 0 .no]):=by kernel_rfl
theorem Qfs1 (x0 : Int) (x1 : List (El .str)) (x2 : Int) (x3 : Int) (x4 : List (El .int)) : aRun Qhfx 600 true (Qu6t Qhfx.fn 3) (cutSt Qhfx.fn (Q1m4 Qhfx (Qu6t Qhfx.fn 3)) [.int .i64 x0,.own 0 [] 0,.sl .str x1,.int .i64 x2,.int .i64 x3] [.row .int x4 0 0 0 .no]) =
 ifb (decide (x3 < x2)) (ifb (inb x3 x1.length) (ifb (decide (x0 = (7 : Int))) (ifb (!decB (x1.getD x3.toNat (Qhfx.C.dflt Ty.str))) (some (.ret (.tup [.sl .int [],.bool false]) [])) (ifb (decide ((x4.length + [decV (x1.getD x3.toNat (Qhfx.C.dflt Ty.str))].length) * Qbhn Qhfx.P (3 : Nat) ≤ (140737488355328 : Nat))) (some (.go (Qu6t Qhfx.fn 3) [.int .i64 x0,.own 0 [] 0,.sl .str x1,.int .i64 x2,.int .i64 (IntKind.i64.wrap (x3 + (1 : Int)))] [.row .int (x4 ++ [decV (x1.getD x3.toNat (Qhfx.C.dflt Ty.str))]) 0 0 0 .no])) (none))) (none)) (none)) (some (.ret (.tup [.sl .int x4,.bool true]) [])):=by kernel_rfl
theorem Qjoa (w : List Str) (hw : w.length ≤ 2000000000) : ∀ (d i : Nat),i + d = w.length → (w.take i).all decB = true → Cut Qhfx Q0gt 3 [.int .i64 7,.own 0 [] 0,.sl .str w,.int .i64 (w.length : Int),.int .i64 (i : Int)] [.row .int ((w.take i).map decV) 0 0 0 .no] (.tup [.sl .int (decsV w),.bool (w.all decB)]) []:=by
 intro d
 have hb : Qbhn Qhfx.P 3 = 8:=by kernel_rfl
 induction d with
 | zero =>
  intro i hi ha
  refine Cut.of Qker rfl (Qfs1 7 w w.length i _) ?_
  rw [decide_eq_false (by omega)]
  have : w.take i = w:=List.take_of_length_le (by omega)
  rw [this] at ha ⊢
  refine Sat.ret ?_ rfl
  unfold decsV
  rw [if_pos ha,ha]
 | succ d ih =>
  intro i hi ha
  refine Cut.of Qker rfl (Qfs1 7 w w.length i _) ?_
  have hlt : i < w.length:=by omega
  have hwr : IntKind.wrap .i64 ((i : Int) + 1) = ((i + 1 : Nat) : Int):=by rw [Qbrg] <;> omega
  have hx : w.getD (i : Int).toNat (Qhfx.C.dflt .str) = w[i]:=by simp [hlt]
  have hin : inb (i : Int) w.length = true:=by simp only [inb,Bool.and_eq_true,decide_eq_true_eq]; omega
  have htk:=List.take_succ_eq_append_getElem hlt
  have hroom : decide ((((w.take i).map decV).length + [decV w[i]].length) * 8 ≤ 140737488355328) = true:=decide_eq_true (by simp; omega)
  rw [decide_eq_true (by omega),hin,hx,hwr,hb,hroom,show decide ((7 : Int) = 7) = true from rfl]
  simp only [Qd8q]
  cases hd : decB w[i] with
  | false =>
   have : w.all decB = false:=by
    apply Bool.eq_false_iff.2
    intro h
    have:=List.all_eq_true.1 h w[i] (List.getElem_mem hlt)
    rw [hd] at this; cases this
   refine Sat.ret ?_ rfl
   unfold decsV
   rw [this]; rfl
  | true =>
   have:=ih (i + 1) (by omega) (by rw [htk,List.all_append,ha]; simp [hd])
   rw [htk,List.map_append] at this
   exact Sat.cut this
theorem Qlk2 (w : List Str) (m : Int) (hg : (decide (m = 7) && decide (w.length ≤ 2000000000)) = true) : Qewq Tryz.prog CP Q0gt [.sl .str w,.int .i64 m] [] (.tup [.sl .int (decsV w),.bool (w.all decB)]) []:=by
 refine Qewq.of Qker (by kernel_rfl) (Qu7l w m) ?_
 simp only [Bool.and_eq_true,decide_eq_true_eq] at hg
 obtain ⟨rfl,hw⟩:=hg
 exact Sat.cut (Qjoa w hw w.length 0 (by omega) rfl)
theorem Q6fz : EntOK Tryz.prog CP Q0gt Qroy:=by
 refine ⟨⟨Tryz.f167,by kernel_rfl,by kernel_rfl,by kernel_rfl⟩,fun args H res H' h=>?_⟩
 simp only [Qroy] at h
 split at h
 ·simp only [Option.some.injEq,Prod.mk.injEq] at h
  obtain ⟨hg,rfl,rfl⟩:=h
  exact Qlk2 _ _ hg
 ·cases h
end Lx
namespace Lx
open Go Go.Proofs
def ptOf (ps : List Point) (n : Str) : Point:=ps.getD (Qigq ps n).toNat (dfltP .point)
def Q51t (ps : List Point) (w : List Str) : List Point:=if Qyhl ps w then w.map (ptOf ps) else []
def Qbsc : Ent Ty El:=⟨[.ro,.ro],0,fun a h=>match a,h with
 | [.agg [.sl .kind ks,.sl .point ps],.sl .str w],[]=>some (decide (ps.length < 1000000000),.tup [.sl .point (Q51t ps w),.bool (Qyhl ps w)],[])
 | _,_=>none⟩
def Qmiz : Ent Ty El:=⟨[.ro,.ro,.ro],0,fun a h=>match a,h with
 | [.agg [.sl .kind ks,.sl .point ps],.int .i64 what,.str v],[]=>some (szV v && (decide (ks.length < 1000000000) && decide (ps.length < 1000000000)),.bool (fitsV ks ps what v),[])
 | _,_=>none⟩
def Qna9 : Ent Ty El:=⟨[.ro,.ro],0,fun a h=>match a,h with
 | [.agg [.sl .kind ks,.sl .point ps],.agg [.str fl,.int .i64 what,.int .i64 num,.str v]],[]=>some (szV v && (decide (ks.length < 1000000000) && decide (ps.length < 1000000000)),.bool (Qh2h ks ps fl what num v),[])
 | _,_=>none⟩
def Qjv4 : Ent Ty El:=Q124
theorem Qtox (c : Int) : ∀ s : Str,(cutS c s).length ≤ s.length + 1
 | []=>by simp [cutS]
 | b :: s=>by
  have:=Qtox c s
  simp only [cutS]
  split
  ·simp; omega
  ·split
   ·simp
   ·rename_i w ws h
    rw [h] at this
    simp at this ⊢; omega
theorem Qrzz {ks : List Kind} {ps : List Point} (h : Qib4 ks ps = true) : ks.length ≤ 6 ∧ ps.length ≤ 16:=by
 simp only [Qib4,Bool.and_eq_true,decide_eq_true_eq] at h
 exact ⟨h.1,h.2.1⟩
theorem Qxkm {ks : List Kind} {ps : List Point} {n : Str} {prev : Option Int} {f : Fld} {fs : List Fld} : Qt03 ks ps n prev (f :: fs) = (Qh2h ks ps n f.what f.number f.value && ((match prev with | none=>true | some q=>decide (q < f.what)) && Qt03 ks ps n (some f.what) fs)):=by cases prev <;> rfl
theorem Qvuh {ks : List Kind} {ps : List Point} {e : Entry} (h : ¬ e.fields.length = 0) : Q7i7 ks ps e = Qt03 ks ps e.name none e.fields:=by
 unfold Q7i7
 rw [decide_eq_false h]
 cases hf : e.fields with
 | nil=>rw [hf] at h; simp at h
 | cons f fs =>
  simp only [Qt03,Qh2h,Bool.not_false,Bool.true_and]
  cases Q2rq e.name <;> simp
end Lx
namespace Lx
open Go Go.Proofs
noncomputable def Qe0d : RE Ty El:=⟨Tryz.prog,CP,[(Qn2h,Q0vx),(Q8ie,Q4q8)],Tryz.f121,0,[.ro .point,.any],[(5,[(1,.any),(2,.any),(6,.any),(14,.any),(15,.any),(16,.any)])]⟩
theorem Qtsk : REOK Qe0d Qwtz:=⟨CP_ok,(TabOK.cons Qfgu (TabOK.cons Q5yh Qye1)),by kernel_rfl,by kernel_rfl⟩
theorem Qwrn (ks : List Kind) (ps : List Point) (w : List Str) : aRun Qe0d 600 false (body0 Qe0d.fn) (Q4gm Qe0d.fn [.agg [.sl .kind ks,.sl .point ps],.sl .str w] []) =
 ifb (!inR (↑w.length : Int) (2 : Int) (8 : Int)) (some (.ret (.tup [.sl .point [],.bool false]) [])) (some (.go (Qu6t Qe0d.fn 5) [.sl .str w,.ptr 0 0,.own 1 [] 0,.sl .str w,.int .i64 (↑w.length : Int),.int .i64 (0 : Int)] [.box [.sl .kind ks,.sl .point ps],.row .point [] 0 0 0 .no])):=by kernel_rfl
theorem Qpoy (x0 : List (El .str)) (x1 : List (El .str)) (x2 : Int) (x3 : Int) (x4 : List (El .kind)) (x5 : List (El .point)) (x6 : List (El .point)) : aRun Qe0d 600 true (Qu6t Qe0d.fn 5) (cutSt Qe0d.fn (Q1m4 Qe0d (Qu6t Qe0d.fn 5)) [.sl .str x0,.ptr 0 0,.own 1 [] 0,.sl .str x1,.int .i64 x2,.int .i64 x3] [.box [.sl .kind x4,.sl .point x5],.row .point x6 0 0 0 .no]) =
 ifb (decide (x3 < x2)) (ifb (inb x3 x1.length) (ifb (decide (x5.length < (1000000000 : Nat))) (ifb (decide (idxF (fun p=>p.name == x1.getD x3.toNat (Qe0d.C.dflt Ty.str)) x5 < (0 : Int))) (some (.ret (.tup [.sl .point [],.bool false]) [])) (ifb (decide (x3 > (0 : Int))) (ifb (inb (IntKind.i64.wrap (x3 - (1 : Int))) x0.length) (ifb (x1.getD x3.toNat (Qe0d.C.dflt Ty.str) == x0.getD (IntKind.i64.wrap (x3 - (1 : Int))).toNat (Qe0d.C.dflt Ty.str)) (some (.ret (.tup [.sl .point [],.bool false]) [])) (ifb (inb (idxF (fun p=>p.name == x1.getD x3.toNat (Qe0d.C.dflt Ty.str)) x5) x5.length) (ifb (decide ((x6.length + [x5.getD (idxF (fun p=>p.name == x1.getD x3.toNat (Qe0d.C.dflt Ty.str)) x5).toNat (Qe0d.C.dflt Ty.point)].length) * Qbhn Qe0d.P (160 : Nat) ≤ (140737488355328 : Nat))) (some (.go (Qu6t Qe0d.fn 5) [.sl .str x0,.ptr 0 0,.own 1 [] 0,.sl .str x1,.int .i64 x2,.int .i64 (IntKind.i64.wrap (x3 + (1 : Int)))] [.box [.sl .kind x4,.sl .point x5],.row .point (x6 ++ [x5.getD (idxF (fun p=>p.name == x1.getD x3.toNat (Qe0d.C.dflt Ty.str)) x5).toNat (Qe0d.C.dflt Ty.point)]) 0 0 0 .no])) (none)) (none))) (none)) (ifb (inb (idxF (fun p=>p.name == x1.getD x3.toNat (Qe0d.C.dflt Ty.str)) x5) x5.length) (ifb (decide ((x6.length + [x5.getD (idxF (fun p=>p.name == x1.getD x3.toNat (Qe0d.C.dflt Ty.str)) x5).toNat (Qe0d.C.dflt Ty.point)].length) * Qbhn Qe0d.P (160 : Nat) ≤ (140737488355328 : Nat))) (some (.go (Qu6t Qe0d.fn 5) [.sl .str x0,.ptr 0 0,.own 1 [] 0,.sl .str x1,.int .i64 x2,.int .i64 (IntKind.i64.wrap (x3 + (1 : Int)))] [.box [.sl .kind x4,.sl .point x5],.row .point (x6 ++ [x5.getD (idxF (fun p=>p.name == x1.getD x3.toNat (Qe0d.C.dflt Ty.str)) x5).toNat (Qe0d.C.dflt Ty.point)]) 0 0 0 .no])) (none)) (none)))) (none)) (none)) (some (.ret (.tup [.sl .point x6,.bool true]) [])):=by kernel_rfl
theorem Qf4k (ks : List Kind) (ps : List Point) (w : List Str) (hps : ps.length < 1000000000) (hw8 : inR w.length 2 8 = true) : ∀ (d i : Nat),i + d = w.length → Qyhl ps w = Qyf3 ps (w.take i).getLast? (w.drop i) →
  Cut Qe0d Qwtz 5 [.sl .str w,.ptr 0 0,.own 1 [] 0,.sl .str w,.int .i64 (w.length : Int),.int .i64 (i : Int)] [.box [.sl .kind ks,.sl .point ps],.row .point ((w.take i).map (ptOf ps)) 0 0 0 .no] (.tup [.sl .point (Q51t ps w),.bool (Qyhl ps w)]) []:=by
 intro d
 have hb : Qbhn Qe0d.P 160 = 32:=by kernel_rfl
 have hw9 : w.length ≤ 8:=by simp only [inR,Bool.and_eq_true,decide_eq_true_eq] at hw8; omega
 induction d with
 | zero =>
  intro i hi hr
  refine Cut.of Qtsk rfl (Qpoy w w w.length i ks ps _) ?_
  rw [decide_eq_false (by omega)]
  have e : w.take i = w:=List.take_of_length_le (by omega)
  rw [List.drop_of_length_le (by omega)] at hr
  have hr' : Qyhl ps w = true:=hr
  refine Sat.ret ?_ rfl
  rw [e,Q51t,if_pos hr',hr']
 | succ d ih =>
  intro i hi hr
  refine Cut.of Qtsk rfl (Qpoy w w w.length i ks ps _) ?_
  have hlt : i < w.length:=by omega
  have hw : IntKind.wrap .i64 ((i : Int) + 1) = ((i + 1 : Nat) : Int):=by rw [Qbrg] <;> omega
  have hw1 : IntKind.wrap .i64 ((i : Int) - 1) = (i : Int) - 1:=by rw [Qbrg] <;> omega
  have hd : w.drop i = w[i] :: w.drop (i + 1):=List.drop_eq_getElem_cons hlt
  have hx : w.getD (i : Int).toNat (Qe0d.C.dflt .str) = w[i]:=by simp [hlt]
  have hin : inb (i : Int) w.length = true:=by simp only [inb,Bool.and_eq_true,decide_eq_true_eq]; omega
  have hlo : decide ((i : Int) < (w.length : Int)) = true:=decide_eq_true (by omega)
  have htk:=List.take_succ_eq_append_getElem hlt
  have hl : (w.take (i + 1)).getLast? = some w[i]:=by rw [List.take_succ_eq_append_getElem hlt,List.getLast?_concat]
  have no : Qyhl ps w = false → Sat Qe0d Qwtz (.tup [.sl .point (Q51t ps w),.bool (Qyhl ps w)]) [] (some (.ret (.tup [.sl .point [],.bool false]) [])):=fun h=>by
   refine Sat.ret ?_ rfl
   rw [Q51t,h]; rfl
  have hroom : decide ((((w.take i).map (ptOf ps)).length + [ps.getD (idxF (fun p=>p.name == w[i]) ps).toNat (Qe0d.C.dflt .point)].length) * 32 ≤ 140737488355328) = true:=decide_eq_true (by simp; omega)
  rw [hlo,hin,hx,hw,hw1,hb,hroom,decide_eq_true hps]
  simp only [Qd8q]
  rw [hd,Qyf3] at hr
  have hpi : idxF (fun p=>p.name == w[i]) ps = Qigq ps w[i]:=rfl
  rw [hpi]
  by_cases hp0 : Qigq ps w[i] < 0
  ·rw [decide_eq_true hp0]
   rw [decide_eq_true hp0] at hr
   exact no (by rw [hr]; rfl)
  ·rw [decide_eq_false hp0]
   rw [decide_eq_false hp0] at hr
   have hlt2:=Q1mf (p:=fun q : Point=>q.name == w[i]) (l:=ps)
   have hinp : inb (Qigq ps w[i]) ps.length = true:=by
    simp only [inb,Bool.and_eq_true,decide_eq_true_eq]
    have : Qigq ps w[i] = idxF (fun q : Point=>q.name == w[i]) ps:=rfl
    omega
   rw [hinp]
   simp only [Qk7y,Qd8q]
   simp only [Bool.not_false,Bool.true_and] at hr
   have go : (w.take i).getLast? ≠ some w[i] → Sat Qe0d Qwtz (.tup [.sl .point (Q51t ps w),.bool (Qyhl ps w)]) [] (some (.go (Qu6t Qe0d.fn 5) [.sl .str w,.ptr 0 0,.own 1 [] 0,.sl .str w,.int .i64 (w.length : Int),.int .i64 ((i + 1 : Nat) : Int)] [.box [.sl .kind ks,.sl .point ps],.row .point ((w.take i).map (ptOf ps) ++ [ps.getD (Qigq ps w[i]).toNat (Qe0d.C.dflt .point)]) 0 0 0 .no])):=fun h=>by
    have hne : ((w.take i).getLast? == some w[i]) = false:=beq_eq_false_iff_ne.2 h
    rw [hne] at hr
    have:=ih (i + 1) (by omega) (by rw [hl]; exact hr)
    rw [htk,List.map_append] at this
    exact Sat.cut this
   by_cases h0 : (i : Int) > 0
   ·rw [decide_eq_true h0]
    have hi1 : i - 1 < w.length:=by omega
    have hx1 : w.getD ((i : Int) - 1).toNat (Qe0d.C.dflt .str) = w[i - 1]:=by
     rw [show ((i : Int) - 1).toNat = i - 1 by omega]; simp [hi1]
    have hl1 : (w.take i).getLast? = some w[i - 1]:=by
     have:=List.take_succ_eq_append_getElem hi1
     rw [show i - 1 + 1 = i by omega] at this
     rw [this,List.getLast?_concat]
    have hin1 : inb ((i : Int) - 1) w.length = true:=by simp only [inb,Bool.and_eq_true,decide_eq_true_eq]; omega
    rw [hin1,hx1]
    simp only [Qd8q]
    rw [hl1] at hr go
    by_cases he : w[i] = w[i - 1]
    ·rw [beq_iff_eq.2 he]
     have : ((some w[i - 1] : Option Str) == some w[i]) = true:=by rw [he]; simp
     rw [this] at hr
     exact no (by rw [hr]; rfl)
    ·rw [beq_eq_false_iff_ne.2 he]
     exact go (fun e=>he (Option.some.inj e).symm)
   ·rw [decide_eq_false h0]
    have : i = 0:=by omega
    subst this
    exact go (by simp)
theorem Qpn1 (ks : List Kind) (ps : List Point) (w : List Str) (hg : decide (ps.length < 1000000000) = true) : Qewq Tryz.prog CP Qwtz [.agg [.sl .kind ks,.sl .point ps],.sl .str w] [] (.tup [.sl .point (Q51t ps w),.bool (Qyhl ps w)]) []:=by
 refine Qewq.of Qtsk (by kernel_rfl) (Qwrn ks ps w) ?_
 cases h8 : inR (w.length : Int) 2 8 with
 | false =>
  refine Sat.ret ?_ rfl
  rw [Q51t,Qyhl,h8]; rfl
 | true =>
  have:=Qf4k ks ps w (of_decide_eq_true hg) h8 w.length 0 (by omega) (by rw [Qyhl,h8]; rfl)
  exact Sat.cut this
theorem Q09u : EntOK Tryz.prog CP Qwtz Qbsc:=by
 refine ⟨⟨Tryz.f121,by kernel_rfl,by kernel_rfl,by kernel_rfl⟩,fun args H res H' h=>?_⟩
 simp only [Qbsc] at h
 split at h
 ·simp only [Option.some.injEq,Prod.mk.injEq] at h
  obtain ⟨hg,rfl,rfl⟩:=h
  exact Qpn1 _ _ _ hg
 ·cases h

noncomputable def Qdvz : RE Ty El:=⟨Tryz.prog,CP,[(Qryc,Q123),(Q5ff,Qo07),(Q0gt,Qroy),(Q8l1,Q18u),(Qn2h,Q0vx),(Qwtz,Qbsc)],Tryz.f172,0,[],[]⟩
theorem Qpl8 : REOK Qdvz Qvlr:=⟨CP_ok,(TabOK.cons Qne7 (TabOK.cons Q8iz (TabOK.cons Q6fz (TabOK.cons Qbi7 (TabOK.cons Qfgu (TabOK.cons Q09u Qye1)))))),by kernel_rfl,by kernel_rfl⟩
theorem Ql56 (ks : List Kind) (ps : List Point) (what : Int) (v : Str) : aRun Qdvz 600 false (body0 Qdvz.fn) (Q4gm Qdvz.fn [.agg [.sl .kind ks,.sl .point ps],.int .i64 what,.str v] []) =
 ifb (szS v) (ifb (what == (1 : Int)) (ifb (decide (ks.length < (1000000000 : Nat))) (some (.ret (.bool (decide (idxF (fun p=>p.name == v) ks ≥ (0 : Int)))) [])) (none)) (ifb (what == (2 : Int)) (ifb (decide ((7 : Int) = (7 : Int)) && decide ((cutS (↑(UInt8.toNat (32 : UInt8)) : Int) v).length ≤ (2000000000 : Nat))) (ifb ((cutS (↑(UInt8.toNat (32 : UInt8)) : Int) v).all decB) (ifb ((↑(decsV (cutS (↑(UInt8.toNat (32 : UInt8)) : Int) v)).length : Int) == (2 : Int)) (ifb (inb (0 : Int) (decsV (cutS (↑(UInt8.toNat (32 : UInt8)) : Int) v)).length) (ifb (inb (1 : Int) (decsV (cutS (↑(UInt8.toNat (32 : UInt8)) : Int) v)).length) (ifb (decide ((decsV (cutS (↑(UInt8.toNat (32 : UInt8)) : Int) v)).getD (Int.toNat (0 : Int)) (Qdvz.C.dflt Ty.int) ≤ (decsV (cutS (↑(UInt8.toNat (32 : UInt8)) : Int) v)).getD (Int.toNat (1 : Int)) (Qdvz.C.dflt Ty.int))) (ifb (inb (1 : Int) (decsV (cutS (↑(UInt8.toNat (32 : UInt8)) : Int) v)).length) (some (.ret (.bool (decide ((decsV (cutS (↑(UInt8.toNat (32 : UInt8)) : Int) v)).getD (Int.toNat (1 : Int)) (Qdvz.C.dflt Ty.int) ≤ (10000 : Int)))) [])) (none)) (some (.ret (.bool false) []))) (none)) (none)) (some (.ret (.bool false) []))) (some (.ret (.bool false) []))) (none)) (ifb (what == (3 : Int)) (ifb (decB v) (some (.ret (.bool (inR (decV v) (1 : Int) (6 : Int))) [])) (some (.ret (.bool false) []))) (ifb (what == (4 : Int)) (ifb (decide (ps.length < (1000000000 : Nat))) (some (.ret (.bool (Qyhl ps (cutS (↑(UInt8.toNat (32 : UInt8)) : Int) v))) [])) (none)) (ifb (what == (5 : Int)) (ifb (v == #[(111 : UInt8),(112 : UInt8),(101 : UInt8),(110 : UInt8)].toList) (some (.ret (.bool true) [])) (some (.ret (.bool (v == #[(99 : UInt8),(108 : UInt8),(111 : UInt8),(115 : UInt8),(101 : UInt8),(100 : UInt8)].toList)) []))) (some (.ret (.bool false) []))))))) (none):=by kernel_rfl
theorem Qi63 {R : RE Ty El} {f : FuncId} (w : List Str) : Sat R f (.bool (Q2es w)) [] (ifb ((decide ((7 : Int) = (7 : Int)) && true)) (ifb (w.all decB) (ifb ((↑(decsV w).length : Int) == (2 : Int)) (ifb (inb (0 : Int) (decsV w).length) (ifb (inb (1 : Int) (decsV w).length) (ifb (decide ((decsV w).getD (Int.toNat (0 : Int)) (CP.dflt Ty.int) ≤ (decsV w).getD (Int.toNat (1 : Int)) (CP.dflt Ty.int))) (ifb (inb (1 : Int) (decsV w).length) (some (.ret (.bool (decide ((decsV w).getD (Int.toNat (1 : Int)) (CP.dflt Ty.int) ≤ (10000 : Int)))) [])) (none)) (some (.ret (.bool false) []))) (none)) (none)) (some (.ret (.bool false) []))) (some (.ret (.bool false) []))) (none)):=by
 rw [show decide ((7 : Int) = 7) = true from rfl]
 simp only [Bool.and_self,Qd8q]
 cases ha : w.all decB with
 | false =>
  refine Sat.retB ?_ rfl
  match w with
  | []=>rfl
  | [a]=>rfl
  | [a,b] =>
   simp only [Q2es]
   simp only [List.all_cons,List.all_nil,Bool.and_true,decB] at ha
   by_cases h1 : 0 ≤ numF a
   ·rw [decide_eq_true h1] at ha ⊢
    have h2 : ¬ 0 ≤ numF b:=of_decide_eq_false (by simpa using ha)
    have : inR (numF b) (numF a) 10000 = false:=by unfold inR; rw [decide_eq_false (by omega)]; rfl
    rw [this]; rfl
   ·rw [decide_eq_false h1]; rfl
  | a :: b :: c :: t=>rfl
 | true =>
  have hd : decsV w = w.map decV:=by unfold decsV; rw [if_pos ha]
  rw [hd]
  match w with
  | []=>exact Sat.retB rfl rfl
  | [a]=>exact Sat.retB rfl rfl
  | [a,b] =>
   simp only [List.all_cons,List.all_nil,Bool.and_true,Bool.and_eq_true,decB,decide_eq_true_eq] at ha
   have e1 : decV a = numF a:=by unfold decV; omega
   have e2 : decV b = numF b:=by unfold decV; omega
   show Sat R f _ _ (ifb (decide (decV a ≤ decV b)) (some (.ret (.bool (decide (decV b ≤ 10000))) [])) (some (.ret (.bool false) [])))
   rw [e1,e2]
   simp only [Q2es,inR]
   rw [decide_eq_true ha.1]
   by_cases h : numF a ≤ numF b
   ·rw [decide_eq_true h]
    exact Sat.retB rfl rfl
   ·rw [decide_eq_false h]
    exact Sat.retB rfl rfl
  | a :: b :: c :: t =>
   have : (((List.map decV (a :: b :: c :: t)).length : Int) == 2) = false:=by
    apply beq_eq_false_iff_ne.2
    simp; omega
   rw [this]
   exact Sat.retB rfl rfl
theorem Q602 (ks : List Kind) (ps : List Point) (what : Int) (v : Str) (hg : (szV v && (decide (ks.length < 1000000000) && decide (ps.length < 1000000000))) = true) : Qewq Tryz.prog CP Qvlr [.agg [.sl .kind ks,.sl .point ps],.int .i64 what,.str v] [] (.bool (fitsV ks ps what v)) []:=by
 refine Qewq.of Qpl8 (by kernel_rfl) (Ql56 ks ps what v) ?_
 simp only [Bool.and_eq_true,decide_eq_true_eq] at hg
 obtain ⟨hv,hks,hps⟩:=hg
 have hs : szS v = true:=hv
 have hcl : (cutS ((UInt8.toNat 32 : Nat) : Int) v).length ≤ 2000000000:=by
  have:=Qtox ((UInt8.toNat 32 : Nat) : Int) v
  have hv' : v.length ≤ 1000000000:=of_decide_eq_true hv
  omega
 rw [hs,decide_eq_true hks,decide_eq_true hps,Qd8q]
 unfold fitsV
 by_cases h1 : what = 1
 ·subst h1; exact Sat.retB rfl rfl
 rw [beq_eq_false_iff_ne.2 h1,if_neg h1,Qk7y]
 by_cases h2 : what = 2
 ·subst h2
  rw [if_pos rfl,decide_eq_true hcl,show ((2 : Int) == 2) = true from rfl,Qd8q]
  exact Qi63 (cutS 32 v)
 rw [beq_eq_false_iff_ne.2 h2,if_neg h2,Qk7y]
 by_cases h3 : what = 3
 ·subst h3
  rw [if_pos rfl,show ((3 : Int) == 3) = true from rfl,Qd8q]
  by_cases hn : 0 ≤ numF v
  ·have e1 : decB v = true:=decide_eq_true hn
   have e2 : decV v = numF v:=by unfold decV; omega
   rw [e1,e2]; exact Sat.retB rfl rfl
  ·have e1 : decB v = false:=decide_eq_false hn
   rw [e1]
   refine Sat.retB ?_ rfl
   have : inR (numF v) 1 6 = false:=by unfold inR; rw [decide_eq_false (by omega)]; rfl
   rw [this]
 rw [beq_eq_false_iff_ne.2 h3,if_neg h3,Qk7y]
 by_cases h4 : what = 4
 ·subst h4; exact Sat.retB rfl rfl
 rw [beq_eq_false_iff_ne.2 h4,if_neg h4,Qk7y]
 by_cases h5 : what = 5
 ·subst h5
  rw [if_pos rfl,show ((5 : Int) == 5) = true from rfl,Qd8q]
  have eo : (#[(111 : UInt8),112,101,110].toList) = wOpen:=rfl
  have ec : (#[(99 : UInt8),108,111,115,101,100].toList) = Qupw:=rfl
  rw [eo,ec]
  cases ho : (v == wOpen) with
  | true=>exact Sat.retB rfl rfl
  | false=>exact Sat.retB rfl rfl
 rw [beq_eq_false_iff_ne.2 h5,if_neg h5]
 exact Sat.retB rfl rfl
theorem Qp1l : EntOK Tryz.prog CP Qvlr Qmiz:=by
 refine ⟨⟨Tryz.f172,by kernel_rfl,by kernel_rfl,by kernel_rfl⟩,fun args H res H' h=>?_⟩
 simp only [Qmiz] at h
 split at h
 ·simp only [Option.some.injEq,Prod.mk.injEq] at h
  obtain ⟨hg,rfl,rfl⟩:=h
  exact Q602 _ _ _ _ hg
 ·cases h

noncomputable def Qvjx : RE Ty El:=⟨Tryz.prog,CP,[(Q9ho,Qcc2),(Qn2h,Q0vx),(Qvlr,Qmiz)],Tryz.f93,0,[],[]⟩
theorem Qh4n : REOK Qvjx Q4bs:=⟨CP_ok,(TabOK.cons Q8k7 (TabOK.cons Qfgu (TabOK.cons Qp1l Qye1))),by kernel_rfl,by kernel_rfl⟩
theorem Q0zs (ks : List Kind) (ps : List Point) (fl : Str) (what num : Int) (v : Str) : aRun Qvjx 600 false (body0 Qvjx.fn) (Q4gm Qvjx.fn [.agg [.sl .kind ks,.sl .point ps],.agg [.str fl,.int .i64 what,.int .i64 num,.str v]] []) =
 ifb (Q2rq fl) (ifb (inR num (1 : Int) (1000000 : Int)) (ifb (szV v && (decide (ks.length < (1000000000 : Nat)) && decide (ps.length < (1000000000 : Nat)))) (some (.ret (.bool (fitsV ks ps what v)) [])) (none)) (some (.ret (.bool false) []))) (some (.ret (.bool false) [])):=by kernel_rfl
theorem Q381 (ks : List Kind) (ps : List Point) (fl : Str) (what num : Int) (v : Str) (hg : (szV v && (decide (ks.length < 1000000000) && decide (ps.length < 1000000000))) = true) : Qewq Tryz.prog CP Q4bs [.agg [.sl .kind ks,.sl .point ps],.agg [.str fl,.int .i64 what,.int .i64 num,.str v]] [] (.bool (Qh2h ks ps fl what num v)) []:=by
 refine Qewq.of Qh4n (by kernel_rfl) (Q0zs ks ps fl what num v) ?_
 rw [hg]
 unfold Qh2h
 cases Q2rq fl with
 | false=>exact Sat.retB rfl rfl
 | true =>
  cases inR num 1 1000000 with
  | false=>exact Sat.retB rfl rfl
  | true=>exact Sat.retB rfl rfl
theorem Q0ms : EntOK Tryz.prog CP Q4bs Qna9:=by
 refine ⟨⟨Tryz.f93,by kernel_rfl,by kernel_rfl,by kernel_rfl⟩,fun args H res H' h=>?_⟩
 simp only [Qna9] at h
 split at h
 ·simp only [Option.some.injEq,Prod.mk.injEq] at h
  obtain ⟨hg,rfl,rfl⟩:=h
  exact Q381 _ _ _ _ _ _ hg
 ·cases h

noncomputable def Qeph : RE Ty El:=⟨Tryz.prog,CP,[(Qdaf,Qzuu),(Q4bs,Qna9)],Tryz.f48,0,[],[(4,[(1,.any),(18,.any),(19,.any),(20,.any)]),(9,[(1,.any),(4,.any),(18,.any),(19,.any),(20,.any),(46,.any),(47,.any),(48,.any)])]⟩
theorem Qfut : REOK Qeph Qaev:=⟨CP_ok,(TabOK.cons Qkfq (TabOK.cons Q0ms Qye1)),by kernel_rfl,by kernel_rfl⟩
theorem Q066 (ks : List Kind) (ps : List Point) (es : List Entry) : aRun Qeph 600 false (body0 Qeph.fn) (Q4gm Qeph.fn [.agg [.sl .kind ks,.sl .point ps,.sl .entry es]] []) =
 ifb (!Qib4 ks ps) (some (.ret (.bool false) [])) (ifb (decide ((↑es.length : Int) > (12 : Int))) (some (.ret (.bool false) [])) (some (.go (Qu6t Qeph.fn 4) [.ptr 0 0,.sl .entry es,.int .i64 (↑es.length : Int),.int .i64 (0 : Int)] [.box [.sl .kind ks,.sl .point ps,.sl .entry es]]))):=by kernel_rfl
theorem Q8mz (x0 : List (El .entry)) (x1 : Int) (x2 : Int) (x3 : List (El .kind)) (x4 : List (El .point)) (x5 : List (El .entry)) : aRun Qeph 600 true (Qu6t Qeph.fn 4) (cutSt Qeph.fn (Q1m4 Qeph (Qu6t Qeph.fn 4)) [.ptr 0 0,.sl .entry x0,.int .i64 x1,.int .i64 x2] [.box [.sl .kind x3,.sl .point x4,.sl .entry x5]]) =
 ifb (decide (x2 < x1)) (ifb (inb x2 x0.length) (ifb ((↑(x0.getD x2.toNat (Qeph.C.dflt Ty.entry)).fields.length : Int) == (0 : Int)) (some (.ret (.bool false) [])) (ifb (decide (x2 > (0 : Int))) (ifb (inb (IntKind.i64.wrap (x2 - (1 : Int))) x5.length) (ifb (Q7zj (x0.getD x2.toNat (Qeph.C.dflt Ty.entry)).name (x5.getD (IntKind.i64.wrap (x2 - (1 : Int))).toNat (Qeph.C.dflt Ty.entry)).name || (x0.getD x2.toNat (Qeph.C.dflt Ty.entry)).name == (x5.getD (IntKind.i64.wrap (x2 - (1 : Int))).toNat (Qeph.C.dflt Ty.entry)).name) (some (.ret (.bool false) [])) (some (.go (Qu6t Qeph.fn 9) [.ptr 0 0,.ptr 1 0,.sl .entry x0,.int .i64 x1,.int .i64 x2,.sl .fld ((x0.getD x2.toNat (Qeph.C.dflt Ty.entry)).fields),.int .i64 ((↑(x0.getD x2.toNat (Qeph.C.dflt Ty.entry)).fields.length : Int)),.int .i64 (0 : Int)] [.box [.sl .kind x3,.sl .point x4,.sl .entry x5],.box [.str ((x0.getD x2.toNat (Qeph.C.dflt Ty.entry)).name),.sl .fld ((x0.getD x2.toNat (Qeph.C.dflt Ty.entry)).fields)]]))) (none)) (some (.go (Qu6t Qeph.fn 9) [.ptr 0 0,.ptr 1 0,.sl .entry x0,.int .i64 x1,.int .i64 x2,.sl .fld ((x0.getD x2.toNat (Qeph.C.dflt Ty.entry)).fields),.int .i64 ((↑(x0.getD x2.toNat (Qeph.C.dflt Ty.entry)).fields.length : Int)),.int .i64 (0 : Int)] [.box [.sl .kind x3,.sl .point x4,.sl .entry x5],.box [.str ((x0.getD x2.toNat (Qeph.C.dflt Ty.entry)).name),.sl .fld ((x0.getD x2.toNat (Qeph.C.dflt Ty.entry)).fields)]])))) (none)) (some (.ret (.bool true) [])):=by kernel_rfl
theorem Qev7 (x0 : List (El .entry)) (x1 : Int) (x2 : Int) (x3 : List (El .fld)) (x4 : Int) (x5 : Int) (x6 : List (El .kind)) (x7 : List (El .point)) (x8 : List (El .entry)) (x9 : Str) (x10 : List (El .fld)) : aRun Qeph 600 true (Qu6t Qeph.fn 9) (cutSt Qeph.fn (Q1m4 Qeph (Qu6t Qeph.fn 9)) [.ptr 0 0,.ptr 1 0,.sl .entry x0,.int .i64 x1,.int .i64 x2,.sl .fld x3,.int .i64 x4,.int .i64 x5] [.box [.sl .kind x6,.sl .point x7,.sl .entry x8],.box [.str x9,.sl .fld x10]]) =
 ifb (decide (x5 < x4)) (ifb (inb x5 x3.length) (ifb (szV (x3.getD x5.toNat (Qeph.C.dflt Ty.fld)).value && (decide (x6.length < (1000000000 : Nat)) && decide (x7.length < (1000000000 : Nat)))) (ifb (!Qh2h x6 x7 x9 (x3.getD x5.toNat (Qeph.C.dflt Ty.fld)).what (x3.getD x5.toNat (Qeph.C.dflt Ty.fld)).number (x3.getD x5.toNat (Qeph.C.dflt Ty.fld)).value) (some (.ret (.bool false) [])) (ifb (decide (x5 > (0 : Int))) (ifb (inb (IntKind.i64.wrap (x5 - (1 : Int))) x10.length) (ifb (decide ((x3.getD x5.toNat (Qeph.C.dflt Ty.fld)).what ≤ (x10.getD (IntKind.i64.wrap (x5 - (1 : Int))).toNat (Qeph.C.dflt Ty.fld)).what)) (some (.ret (.bool false) [])) (some (.go (Qu6t Qeph.fn 9) [.ptr 0 0,.ptr 1 0,.sl .entry x0,.int .i64 x1,.int .i64 x2,.sl .fld x3,.int .i64 x4,.int .i64 (IntKind.i64.wrap (x5 + (1 : Int)))] [.box [.sl .kind x6,.sl .point x7,.sl .entry x8],.box [.str x9,.sl .fld x10]]))) (none)) (some (.go (Qu6t Qeph.fn 9) [.ptr 0 0,.ptr 1 0,.sl .entry x0,.int .i64 x1,.int .i64 x2,.sl .fld x3,.int .i64 x4,.int .i64 (IntKind.i64.wrap (x5 + (1 : Int)))] [.box [.sl .kind x6,.sl .point x7,.sl .entry x8],.box [.str x9,.sl .fld x10]])))) (none)) (none)) (some (.go (Qu6t Qeph.fn 4) [.ptr 0 0,.sl .entry x0,.int .i64 x1,.int .i64 (IntKind.i64.wrap (x2 + (1 : Int)))] [.box [.sl .kind x6,.sl .point x7,.sl .entry x8]])):=by kernel_rfl
theorem Q5ka (ks : List Kind) (ps : List Point) (es : List Entry) (hb : Qib4 ks ps = true) (n : Str) (fs : List Fld) (hfs : fs.length ≤ 1000000000) (hsz : fs.all (fun f=>szV f.value) = true) (i : Nat) (hi : i < 1000) (nx : Bool) (h4 : Cut Qeph Qaev 4 [.ptr 0 0,.sl .entry es,.int .i64 (es.length : Int),.int .i64 ((i + 1 : Nat) : Int)] [.box [.sl .kind ks,.sl .point ps,.sl .entry es]] (.bool nx) []) : ∀ (d k : Nat),k + d = fs.length →
  Cut Qeph Qaev 9 [.ptr 0 0,.ptr 1 0,.sl .entry es,.int .i64 (es.length : Int),.int .i64 (i : Int),.sl .fld fs,.int .i64 (fs.length : Int),.int .i64 (k : Int)] [.box [.sl .kind ks,.sl .point ps,.sl .entry es],.box [.str n,.sl .fld fs]] (.bool (Qt03 ks ps n ((fs.take k).getLast?.map (·.what)) (fs.drop k) && nx)) []:=by
 have hwi : IntKind.wrap .i64 ((i : Int) + 1) = ((i + 1 : Nat) : Int):=by rw [Qbrg] <;> omega
 obtain ⟨hkl,hpl⟩:=Qrzz hb
 intro d
 induction d with
 | zero =>
  intro k hk
  refine Cut.of Qfut rfl (Qev7 es es.length i fs fs.length k ks ps es n fs) ?_
  rw [decide_eq_false (by omega),List.drop_of_length_le (by omega),hwi]
  exact Sat.cut h4
 | succ d ih =>
  intro k hk
  refine Cut.of Qfut rfl (Qev7 es es.length i fs fs.length k ks ps es n fs) ?_
  have hlt : k < fs.length:=by omega
  have hw : IntKind.wrap .i64 ((k : Int) + 1) = ((k + 1 : Nat) : Int):=by rw [Qbrg] <;> omega
  have hw1 : IntKind.wrap .i64 ((k : Int) - 1) = (k : Int) - 1:=by rw [Qbrg] <;> omega
  have hd : fs.drop k = fs[k] :: fs.drop (k + 1):=List.drop_eq_getElem_cons hlt
  have hx : fs.getD (k : Int).toNat (Qeph.C.dflt .fld) = fs[k]:=by simp [hlt]
  have hin : inb (k : Int) fs.length = true:=by simp only [inb,Bool.and_eq_true,decide_eq_true_eq]; omega
  have hlo : decide ((k : Int) < (fs.length : Int)) = true:=decide_eq_true (by omega)
  have htk:=List.take_succ_eq_append_getElem hlt
  have hl : (fs.take (k + 1)).getLast? = some fs[k]:=by rw [List.take_succ_eq_append_getElem hlt,List.getLast?_concat]
  have hv : szV fs[k].value = true:=List.all_eq_true.1 hsz _ (List.getElem_mem hlt)
  have ih':=ih (k + 1) (by omega)
  rw [hl,Option.map_some] at ih'
  rw [hlo,hin,hx,hv,hw,hw1,hd,Qxkm,decide_eq_true (by omega : ks.length < 1000000000),decide_eq_true (by omega : ps.length < 1000000000)]
  simp only [Qd8q,Bool.and_self]
  cases hc : Qh2h ks ps n fs[k].what fs[k].number fs[k].value with
  | false=>exact Sat.retB rfl rfl
  | true =>
   simp only [Bool.not_true,Qk7y,Bool.true_and]
   by_cases h0 : (k : Int) > 0
   ·rw [decide_eq_true h0]
    have hi1 : k - 1 < fs.length:=by omega
    have hx1 : fs.getD ((k : Int) - 1).toNat (Qeph.C.dflt .fld) = fs[k - 1]:=by
     rw [show ((k : Int) - 1).toNat = k - 1 by omega]; simp [hi1]
    have hl1 : (fs.take k).getLast? = some fs[k - 1]:=by
     have:=List.take_succ_eq_append_getElem hi1
     rw [show k - 1 + 1 = k by omega] at this
     rw [this,List.getLast?_concat]
    have hin1 : inb ((k : Int) - 1) fs.length = true:=by simp only [inb,Bool.and_eq_true,decide_eq_true_eq]; omega
    rw [hin1,hx1,hl1]
    simp only [Qd8q,Option.map_some]
    by_cases hq : fs[k - 1].what < fs[k].what
    ·rw [decide_eq_true hq,decide_eq_false (by omega)]
     exact Sat.cut ih'
    ·rw [decide_eq_false hq,decide_eq_true (by omega)]
     exact Sat.retB rfl rfl
   ·rw [decide_eq_false h0]
    have : k = 0:=by omega
    subst this
    exact Sat.cut ih'
theorem Qrwz (ks : List Kind) (ps : List Point) (es : List Entry) (hb : Qib4 ks ps = true) (h12 : es.length ≤ 12) (hsz : es.all szE = true) : ∀ (d i : Nat),i + d = es.length →
  Cut Qeph Qaev 4 [.ptr 0 0,.sl .entry es,.int .i64 (es.length : Int),.int .i64 (i : Int)] [.box [.sl .kind ks,.sl .point ps,.sl .entry es]] (.bool (Qgea ks ps ((es.take i).getLast?.map (·.name)) (es.drop i))) []:=by
 intro d
 induction d with
 | zero =>
  intro i hi
  refine Cut.of Qfut rfl (Q8mz es es.length i ks ps es) ?_
  rw [decide_eq_false (by omega),List.drop_of_length_le (by omega)]
  exact Sat.retB rfl rfl
 | succ d ih =>
  intro i hi
  refine Cut.of Qfut rfl (Q8mz es es.length i ks ps es) ?_
  have hlt : i < es.length:=by omega
  have hw : IntKind.wrap .i64 ((i : Int) + 1) = ((i + 1 : Nat) : Int):=by rw [Qbrg] <;> omega
  have hw1 : IntKind.wrap .i64 ((i : Int) - 1) = (i : Int) - 1:=by rw [Qbrg] <;> omega
  have hd : es.drop i = es[i] :: es.drop (i + 1):=List.drop_eq_getElem_cons hlt
  have hx : es.getD (i : Int).toNat (Qeph.C.dflt .entry) = es[i]:=by simp [hlt]
  have hin : inb (i : Int) es.length = true:=by simp only [inb,Bool.and_eq_true,decide_eq_true_eq]; omega
  have hlo : decide ((i : Int) < (es.length : Int)) = true:=decide_eq_true (by omega)
  have htk:=List.take_succ_eq_append_getElem hlt
  have hl : (es.take (i + 1)).getLast? = some es[i]:=by rw [List.take_succ_eq_append_getElem hlt,List.getLast?_concat]
  have hz:=List.all_eq_true.1 hsz _ (List.getElem_mem hlt)
  simp only [szE,Bool.and_eq_true,decide_eq_true_eq] at hz
  have ih':=ih (i + 1) (by omega)
  rw [hl,Option.map_some] at ih'
  have inner:=Q5ka ks ps es hb es[i].name es[i].fields hz.1 hz.2 i (by omega) _ ih' es[i].fields.length 0 (by omega)
  rw [List.drop_zero] at inner
  rw [hlo,hin,hx,hw1,hd,Qgea]
  simp only [Qd8q]
  by_cases hf0 : es[i].fields.length = 0
  ·have e1 : ((es[i].fields.length : Int) == 0) = true:=by simp [hf0]
   rw [e1]
   refine Sat.retB ?_ rfl
   simp [Q7i7,hf0]
  ·have e1 : ((es[i].fields.length : Int) == 0) = false:=by simp; intro e; exact hf0 (by rw [e]; rfl)
   rw [e1,Qvuh hf0]
   simp only [Qk7y]
   by_cases h0 : (i : Int) > 0
   ·rw [decide_eq_true h0]
    have hi1 : i - 1 < es.length:=by omega
    have hx1 : es.getD ((i : Int) - 1).toNat (Qeph.C.dflt .entry) = es[i - 1]:=by
     rw [show ((i : Int) - 1).toNat = i - 1 by omega]; simp [hi1]
    have hl1 : (es.take i).getLast? = some es[i - 1]:=by
     have:=List.take_succ_eq_append_getElem hi1
     rw [show i - 1 + 1 = i by omega] at this
     rw [this,List.getLast?_concat]
    have hin1 : inb ((i : Int) - 1) es.length = true:=by simp only [inb,Bool.and_eq_true,decide_eq_true_eq]; omega
    rw [hin1,hx1,hl1,le_lt]
    simp only [Qd8q,Option.map_some,Qe7t]
    cases hq : Q7zj es[i - 1].name es[i].name with
    | false =>
     refine Sat.retB ?_ rfl
     simp
    | true =>
     simp only [Bool.not_true,Qk7y,Bool.true_and]
     exact Sat.cut inner
   ·rw [decide_eq_false h0]
    have : i = 0:=by omega
    subst this
    exact Sat.cut inner
theorem Qgs9 (ks : List Kind) (ps : List Point) (es : List Entry) (hg : szB es = true) : Qewq Tryz.prog CP Qaev [.agg [.sl .kind ks,.sl .point ps,.sl .entry es]] [] (.bool (Qn0o ks ps es)) []:=by
 refine Qewq.of Qfut (by kernel_rfl) (Q066 ks ps es) ?_
 simp only [szB,Bool.and_eq_true,decide_eq_true_eq] at hg
 cases hb : Qib4 ks ps with
 | false =>
  refine Sat.retB ?_ rfl
  simp [Qn0o,hb]
 | true =>
  simp only [Bool.not_true,Qk7y]
  by_cases h12 : es.length ≤ 12
  ·rw [decide_eq_false (by omega)]
   have:=Qrwz ks ps es hb h12 hg.2 es.length 0 (by omega)
   rw [show Qn0o ks ps es = Qgea ks ps ((es.take 0).getLast?.map (·.name)) (es.drop 0) by simp [Qn0o,hb,h12]]
   exact Sat.cut this
  ·rw [decide_eq_true (by omega)]
   refine Sat.retB ?_ rfl
   simp [Qn0o,h12]
theorem Qwza : EntOK Tryz.prog CP Qaev Qjv4:=by
 refine ⟨⟨Tryz.f48,by kernel_rfl,by kernel_rfl,by kernel_rfl⟩,fun args H res H' h=>?_⟩
 simp only [Qjv4,Q124] at h
 split at h
 ·simp only [Option.some.injEq,Prod.mk.injEq] at h
  obtain ⟨hg,rfl,rfl⟩:=h
  exact Qgs9 _ _ _ hg
 ·cases h
end Lx
namespace Lx
open Go Go.Proofs
def entIx (es : List Entry) (n : Str) : Int:=idxF (fun e=>e.name == n) es
theorem Qx66 {ks : List Kind} {ps : List Point} {n : Str} : ∀ {fs : List Fld} {prev : Option Int},Qt03 ks ps n prev fs = true → ∀ f ∈ fs,fitsV ks ps f.what f.value = true
 | [],_,_,f,hf=>by simp at hf
 | g :: fs,prev,h,f,hf=>by
  rw [Qxkm] at h
  simp only [Bool.and_eq_true,Qh2h] at h
  simp only [List.mem_cons] at hf
  rcases hf with rfl | hf
  ·exact h.1.2.2
  ·exact Qx66 h.2.2 f hf
theorem Qohw {es : List Entry} {n : Str} (h : 0 ≤ entIx es n) : inb (entIx es n) es.length = true:=by
 have h2:=Q1mf (p:=fun k : Entry=>k.name == n) (l:=es)
 have h3 : entIx es n = idxF (fun k : Entry=>k.name == n) es:=rfl
 simp only [inb,Bool.and_eq_true,decide_eq_true_eq]; omega
theorem Q4rj {ks : List Kind} {ps : List Point} : ∀ {es : List Entry} {prev : Option Str},Qgea ks ps prev es = true → ∀ e ∈ es,Q7i7 ks ps e = true
 | [],_,_,e,he=>by simp at he
 | a :: es,prev,h,e,he=>by
  rw [Qgea] at h
  simp only [Bool.and_eq_true] at h
  simp only [List.mem_cons] at he
  rcases he with rfl | he
  ·exact h.1
  ·exact Q4rj h.2.2 e he
theorem Qg6k {ks : List Kind} {ps : List Point} {es : List Entry} (h : Qn0o ks ps es = true) : Qib4 ks ps = true ∧ es.length ≤ 12 ∧ ∀ e ∈ es,Q7i7 ks ps e = true:=by
 simp only [Qn0o,Bool.and_eq_true,decide_eq_true_eq] at h
 exact ⟨h.1,h.2.1,Q4rj h.2.2⟩
theorem Qhwx {es : List Entry} {n : Str} (h : 0 ≤ entIx es n) : es.getD (entIx es n).toNat (dfltP .entry) ∈ es:=by
 have h2:=Q1mf (p:=fun k : Entry=>k.name == n) (l:=es)
 have h3 : entIx es n = idxF (fun k : Entry=>k.name == n) es:=rfl
 have hlt : (entIx es n).toNat < es.length:=by omega
 rw [List.getD_eq_getElem?_getD,List.getElem?_eq_getElem hlt]
 exact List.getElem_mem hlt
end Lx
namespace Lx
open Go Go.Proofs
end Lx
namespace Lx
open Go
section
variable {Ty : Type} {El : Ty → Type}
def SatE (R : RE Ty El) (f : FuncId) (Q : AV Ty El → List (AObj Ty El) → Prop) (T : Option (Leaf Ty El)) : Prop:=∃ res H',Sat R f res H' T ∧ Q res H'
variable {R : RE Ty El} {f : FuncId} {Q : AV Ty El → List (AObj Ty El) → Prop}
theorem SatE.ifb {c : Bool} {A B : Option (Leaf Ty El)} (h1 : c = true → SatE R f Q A) (h2 : c = false → SatE R f Q B) : SatE R f Q (Lx.ifb c A B):=by
 cases c with
 | true=>exact h1 rfl
 | false=>exact h2 rfl
theorem SatE.need {c : Bool} {A : Option (Leaf Ty El)} (h : c = true) (h1 : SatE R f Q A) : SatE R f Q (Lx.ifb c A none):=by
 subst h; exact h1
theorem SatE.ret {v : AV Ty El} {h : List (AObj Ty El)} (hq : Q v h) : SatE R f Q (some (.ret v h)):=⟨v,h,Sat.ret rfl rfl,hq⟩
def CutE (R : RE Ty El) (f : FuncId) (id : Nat) (vals : List (AV Ty El)) (h : List (AObj Ty El)) (Q : AV Ty El → List (AObj Ty El) → Prop) : Prop:=∃ res H',Cut R f id vals h res H' ∧ Q res H'
theorem SatE.cut {id : Nat} {vals : List (AV Ty El)} {h : List (AObj Ty El)} (hg : CutE R f id vals h Q) : SatE R f Q (some (.go (Qu6t R.fn id) vals h)):=by
 obtain ⟨res,H',h1,h2⟩:=hg
 exact ⟨res,H',Sat.cut h1,h2⟩
theorem CutE.of (hR : REOK R f) {id : Nat} {vals : List (AV Ty El)} {h : List (AObj Ty El)} {live : List (Nat × Sh Ty)} {fuel : Nat} {T : Option (Leaf Ty El)} (hl : Q1m4 R (Qu6t R.fn id) = live) (ht : aRun R fuel true (Qu6t R.fn id) (cutSt R.fn live vals h) = T) (hs : SatE R f Q T) : CutE R f id vals h Q:=by
 obtain ⟨res,H',h1,h2⟩:=hs
 exact ⟨res,H',Cut.of hR hl ht h1,h2⟩
def CallE (P : Program) (C : Cod Ty El) (g : FuncId) (args : List (AV Ty El)) (H : List (AObj Ty El)) (Q : AV Ty El → List (AObj Ty El) → Prop) : Prop:=∃ res H',Qewq P C g args H res H' ∧ Q res H'
theorem CallE.of (hR : REOK R f) {args : List (AV Ty El)} {H : List (AObj Ty El)} {fuel : Nat} {T : Option (Leaf Ty El)} (hfit : fitsB R args H = true) (ht : aRun R fuel false (body0 R.fn) (Q4gm R.fn args H) = T) (hs : SatE R f Q T) : CallE R.P R.C f args H Q:=by
 obtain ⟨res,H',h1,h2⟩:=hs
 exact ⟨res,H',Qewq.of hR hfit ht h1,h2⟩
theorem SatE.mono {Q' : AV Ty El → List (AObj Ty El) → Prop} {T : Option (Leaf Ty El)} (h : SatE R f Q T) (hq : ∀ v h,Q v h → Q' v h) : SatE R f Q' T:=by
 obtain ⟨v,H',h1,h2⟩:=h; exact ⟨v,H',h1,hq _ _ h2⟩
noncomputable def drawn {α : Type} [Inhabited α] (p : α → Prop) : α:=Classical.epsilon p
end
end Lx
namespace Lx
open Go
section
variable {Ty : Type} {El : Ty → Type} {C : Cod Ty El} {P : Program}
def noNm (k : Nat) : Nat → AV Ty El → Bool
 | 0,_=>false
 | n + 1,v=>match v with
  | .own r _ _=>r != k
  | .view r _ _ _ _ _=>r != k
  | .ptr r _=>r != k
  | .eptr r _ _ _ _ _=>r != k
  | .mapr r=>r != k
  | .agg cs | .tup cs | .rop cs _ | .fn _ cs=>cs.all (noNm k n)
  | _=>true
def objNm (k : Nat) : AObj Ty El → Bool
 | .box cs=>cs.all (noNm k 6)
 | .mp ..=>false
 | _=>true
theorem Qn0f {k : Nat} {c : AV Ty El} (h : Qvgi c = true) : noNm k 1 c = true:=by
 cases c <;> simp [Qvgi] at h <;> rfl
theorem RepA.noNm (hC : CodOK P C) {N N' : Nm} {w : World} {k : Nat} (hG : ∀ r p v u,r ≠ k → N.G r p v u → N'.G r p v u) (hro : ∀ b,N.ro b → N'.ro b) {v : Value} {x : AV Ty El} (h : RepA C N w v x) : ∀ n,Lx.noNm k n x = true → RepA C N' w v x:=by
 have kids : ∀ {n : Nat} {cs : List (AV Ty El)},cs.all (Lx.noNm k n) = true → ∀ (j : Nat) c,cs[j]? = some c → Lx.noNm k n c = true:=fun h j c hj=>List.all_eq_true.1 h c (List.mem_of_getElem? hj)
 induction h with
 | int k n=>exact fun _ _=>.int k n
 | bool b=>exact fun _ _=>.bool b
 | str s l h=>exact fun _ _=>.str s l h
 | sl0 T a cap=>exact fun _ _=>.sl0 T a cap
 | sl T xs b o n cap f hn hc hr hcell _ ih =>
  exact fun _ _=>.sl T xs b o n cap f hn hc (hro b hr) hcell (fun i j c hi hj=>ih i j c hi hj 1 (Qn0f (hC.cell _ _ c (List.mem_of_getElem? hj))))
 | nils=>exact fun _ _=>.nils
 | own r p v u h =>
  intro n hn
  cases n with
  | zero=>simp [Lx.noNm] at hn
  | succ n=>exact .own r p v u (hG _ _ _ _ (by simpa [Lx.noNm] using hn) h)
 | view r p v wd lo m n cap a h hb =>
  intro n hn
  cases n with
  | zero=>simp [Lx.noNm] at hn
  | succ n=>exact .view r p v wd lo m _ cap a (hG _ _ _ _ (by simpa [Lx.noNm] using hn) h) hb
 | ptr r b off h =>
  intro n hn
  cases n with
  | zero=>simp [Lx.noNm] at hn
  | succ n=>exact .ptr r b off (hG _ _ _ _ (by simpa [Lx.noNm] using hn) h)
 | eptr r p v wd i j b n cap h hi =>
  intro n hn
  cases n with
  | zero=>simp [Lx.noNm] at hn
  | succ n=>exact .eptr r p v wd i j b _ cap (hG _ _ _ _ (by simpa [Lx.noNm] using hn) h) hi
 | rop cs b o off f hr hcell _ ih =>
  intro n hn
  cases n with
  | zero=>simp [Lx.noNm] at hn
  | succ n=>exact .rop cs b o off f (hro b hr) hcell (fun j c hj=>ih j c hj n (kids (by simpa [Lx.noNm] using hn) j c hj))
 | nilp=>exact fun _ _=>.nilp
 | mapr r b h =>
  intro n hn
  cases n with
  | zero=>simp [Lx.noNm] at hn
  | succ n=>exact .mapr r b (hG _ _ _ _ (by simpa [Lx.noNm] using hn) h)
 | agg vs cs hl _ ih =>
  intro n hn
  cases n with
  | zero=>simp [Lx.noNm] at hn
  | succ n=>exact .agg vs cs hl (fun j v c hv hc=>ih j v c hv hc n (kids (by simpa [Lx.noNm] using hn) j c hc))
 | tup vs cs hl _ ih =>
  intro n hn
  cases n with
  | zero=>simp [Lx.noNm] at hn
  | succ n=>exact .tup vs cs hl (fun j v c hv hc=>ih j v c hv hc n (kids (by simpa [Lx.noNm] using hn) j c hc))
 | fn f vs cs hl _ ih =>
  intro n hn
  cases n with
  | zero=>simp [Lx.noNm] at hn
  | succ n=>exact .fn f vs cs hl (fun j v c hv hc=>ih j v c hv hc n (kids (by simpa [Lx.noNm] using hn) j c hc))
 | raw u h=>exact fun _ _=>.raw u h
 | lt T xs u e cells f hty ho h1 hone hr hcell _ ih =>
  exact fun _ _=>.lt T xs u e cells f hty ho h1 hone (fun b hb=>hro b (hr b hb)) hcell (fun i j c hi hc=>ih i j c hi hc 1 (Qn0f (hC.cell _ _ c (List.mem_of_getElem? hc))))
 | glob g=>exact fun _ _=>.glob g
 | dead v=>exact fun _ _=>.dead v

theorem Qf9x {H : List (AObj Ty El)} {k r : Nat} {o : AObj Ty El} (hk : k < H.length) : hpOf (H.set k o) r = if r = k then o else hpOf H r:=by
 unfold hpOf
 rw [List.getD_eq_getElem?_getD,List.getD_eq_getElem?_getD,List.getElem?_set]
 by_cases h : k = r
 ·subst h; simp [hk]
 ·rw [if_neg h,if_neg (fun e=>h e.symm)]
theorem Q13r {H : List (AObj Ty El)} {r : Nat} {o : AObj Ty El} (h : hpOf H r = o) (hg : o ≠ .gone) : o ∈ H:=by
 unfold hpOf at h
 rw [List.getD_eq_getElem?_getD] at h
 cases e : H[r]? with
 | none=>rw [e] at h; exact absurd h.symm hg
 | some x=>rw [e] at h; simp at h; subst h; exact List.mem_of_getElem? e

theorem Qewq.drop (hC : CodOK P C) {g : FuncId} {args : List (AV Ty El)} {H : List (AObj Ty El)} {res : AV Ty El} {H' : List (AObj Ty El)} (h : Qewq P C g args H res H') (k : Nat) (hk : k < H'.length) (hres : noNm k 6 res = true) (hobj : H'.all (objNm k) = true) :
  Qewq P C g args H res (H'.set k .out):=by
 intro w N vs hN hsz hrep
 refine (h w N vs hN hsz hrep).mono ?_
 rintro en w' ⟨v,N',rfl,hH,hv,hio,hroI,hroO,hfr,hF⟩
 let N2 : Nm:={ ν:=N'.ν,F:=fun r b=>r ≠ k ∧ N'.F r b,G:=fun r p v u=>r ≠ k ∧ N'.G r p v u,ro:=N'.ro }
 refine ⟨v,N2,rfl, ?_,hv.noNm hC (N':=N2) (fun r p v u hr hg=>⟨hr,hg⟩) (fun _ h=>h) 6 hres,fun r hr hs=>?_,hroI,hroO,hfr,fun r b hb=>hF r b hb.2⟩
 ·refine ⟨fun r=>?_,fun r p v u hg=>?_,fun r=>?_,fun r p v u hg=>hH.one r p v u hg.2,fun r r' b h1 h2=>hH.dist r r' b h1.2 h2.2,fun r b h1 h2=>hH.roNot r b h1.2 h2,hH.roLt,hH.glTo hC (fun _ h=>h) (fun _ _=>rfl)⟩
  ·rw [Qf9x hk]
   by_cases hr : r = k
   ·rw [if_pos hr]; exact fun b hb=>hb.1 hr
   ·rw [if_neg hr]
    have ho:=hH.obj r
    cases e : hpOf H' r with
    | box cs =>
     rw [e] at ho
     have hm:=Q13r e (by simp)
     have hn:=List.all_eq_true.1 hobj _ hm
     obtain ⟨b,arr,t,h1,h2,h3,h4,h5,h6⟩:=ho
     exact ⟨b,arr,t,h1,h2,h3,h4,fun j v c hj hc=>(h5 j v c hj hc).noNm hC (N':=N2) (fun r p v u hr hg=>⟨hr,hg⟩) (fun _ h=>h) 6 (List.all_eq_true.1 hn c (List.mem_of_getElem? hc)),fun b'=>⟨fun hb=>(h6 b').1 hb.2,fun hb=>⟨hr,(h6 b').2 hb⟩⟩⟩
    | row T xs d vr vn m =>
     rw [e] at ho
     exact ⟨ho.1,(Deep.cast (N:=N') (N':=N2) hC (fun _ h=>h) (fun _ _=>rfl) _ _ _ _ _ _ ho.2 (fun _ _=>rfl)).blkEq (fun b=>⟨fun hb=>hb.2,fun hb=>⟨hr,hb⟩⟩)⟩
    | mp K V es =>
     have hm:=Q13r e (by simp)
     have hn:=List.all_eq_true.1 hobj _ hm
     simp [objNm] at hn
    | gone=>rw [e] at ho; exact fun b hb=>ho b hb.2
    | out=>rw [e] at ho; exact fun b hb=>ho b hb.2
  ·rw [Qf9x hk,if_neg hg.1]; exact hH.reg r p v u hg.2
  ·rw [Qf9x hk]
   by_cases hr : r = k
   ·rw [if_pos hr]; trivial
   ·rw [if_neg hr]
    have hf:=hH.full r
    cases e : hpOf H' r with
    | box cs=>rw [e] at hf; exact ⟨hr,hf⟩
    | mp K V es=>rw [e] at hf; exact ⟨hr,hf⟩
    | row T xs d vr vn m=>rw [e] at hf; exact ⟨⟨hr,hf.1⟩,fun p u h1 h2 h3 h4=>⟨hr,hf.2 p u h1 h2 h3 h4⟩⟩
    | gone=>trivial
    | out=>trivial
 ·refine hio r hr ?_
  by_cases e : r = k
  ·have : hpOf (H'.set k (.out : AObj Ty El)) r = .out:=by rw [Qf9x hk,if_pos e]
   simp [stays,this] at hs
  ·have : hpOf (H'.set k (.out : AObj Ty El)) r = hpOf H' r:=by rw [Qf9x hk,if_neg e]
   simpa only [stays,this] using hs

theorem Qewq.move (hC : CodOK P C) {g : FuncId} {args : List (AV Ty El)} {o0 : AObj Ty El} {T : Ty} {xs : List (El T)} {d : Nat} (h : Qewq P C g args [o0] (.own 0 [] 0) [.row T xs d 0 0 .no]) :
  Qewq P C g args [o0] (.own 1 [] 0) [.out,.row T xs d 0 0 .no]:=by
 intro w N vs hN hsz hrep
 refine (h w N vs hN hsz hrep).mono ?_
 rintro en w' ⟨v,N',rfl,hH,hv,hio,hroI,hroO,hfr,hF⟩
 let N2 : Nm:={ ν:=fun _=>N'.ν 0,F:=fun r b=>r = 1 ∧ N'.F 0 b,G:=fun r p v u=>r = 1 ∧ N'.G 0 p v u,ro:=N'.ro }
 have e0 : ∀ r,hpOf ([.out,.row T xs d 0 0 .no] : List (AObj Ty El)) (r + 2) = .gone:=fun r=>by simp [hpOf]
 refine ⟨v,N2,rfl,⟨fun r=>?_,fun r p v u hg=>?_,fun r=>?_,fun r p v u hg=>hH.one 0 p v u hg.2,fun r r' b h1 h2=>h1.1.trans h2.1.symm,fun r b h1 h2=>hH.roNot 0 b h1.2 h2,hH.roLt,hH.glTo hC (fun _ h=>h) (fun _ _=>rfl)⟩,.own 1 [] 0 v ⟨rfl,hv.inv_own⟩,fun r hr hs=>?_,hroI,hroO,hfr,fun r b hb=>hF 0 b hb.2⟩
 ·match r with
  | 0=>exact fun b hb=>by cases hb.1
  | 1 =>
   have ho:=hH.obj 0
   exact ⟨ho.1,(Deep.cast (N:=N') (N':=N2) hC (fun _ h=>h) (fun _ _=>rfl) _ _ _ _ _ _ ho.2 (fun _ _=>rfl)).blkEq (fun b=>⟨fun hb=>hb.2,fun hb=>⟨rfl,hb⟩⟩)⟩
  | r + 2=>rw [e0]; exact fun b hb=>by have:=hb.1; omega
 ·obtain ⟨rfl,hg⟩:=hg
  exact hH.reg 0 p v u hg
 ·match r with
  | 0=>trivial
  | 1 =>
   have hf:=hH.full 0
   exact ⟨⟨rfl,hf.1⟩,fun p u h1 h2 h3 h4=>⟨rfl,hf.2 p u h1 h2 h3 h4⟩⟩
  | r + 2=>rw [e0]; trivial
 ·match r,hr with
  | 0,_=>simp [hpOf,stays] at hs
end
end Lx
namespace Lx
open Go Go.Proofs
def Qul0 : List Fld → Fld → List Fld
 | [],f=>[f]
 | g :: r,f=>if g.what < f.what then g :: Qul0 r f else if g.what = f.what then (if Fld.later f g = true then f :: r else g :: r) else f :: g :: r
def insE : List Entry → Str → Fld → List Entry
 | [],n,f=>[⟨n,[f]⟩]
 | e :: r,n,f=>if Q7zj e.name n = true then e :: insE r n f else ⟨n,[f]⟩ :: e :: r
def putF (es : List Entry) (n : Str) (f : Fld) : List Entry :=
 if 0 ≤ entIx es n then es.set (entIx es n).toNat ⟨(es.getD (entIx es n).toNat (dfltP .entry)).name,Qul0 (es.getD (entIx es n).toNat (dfltP .entry)).fields f⟩ else insE es n f
def Qs7k (ks : List Kind) (ps : List Point) (c : Chg) : Bool:=Q2rq c.flight && (inR c.number 1 1000000 && (Qib4 ks ps && fitsV ks ps c.what c.value))
structure BookR where
 ks : List Kind
 ps : List Point
 es : List Entry
 code : Int
 deriving Inhabited
def takeF (ks : List Kind) (ps : List Point) (es : List Entry) (c : Chg) : BookR :=
 if Qn0o ks ps es = true then
  if Qs7k ks ps c = true then (if entIx es c.flight < 0 ∧ 12 ≤ es.length then ⟨ks,ps,es,3⟩ else ⟨ks,ps,putF es c.flight ⟨c.what,c.number,c.value⟩,0⟩) else ⟨ks,ps,es,2⟩
 else ⟨[],[],[],1⟩
def Qf5p : Ent Ty El:=⟨[.ro],2,fun a h=>match a,h with
 | [.agg [.sl .kind ks,.sl .point ps]],[]=>some (Qzta ks ps,.agg [.own 0 [] 0,.own 1 [] 0],[.row .kind ks 0 0 0 .no,.row .point ps 0 0 0 .no])
 | _,_=>none⟩
def Qc1o : Ent Ty El:=⟨[.ro],3,fun a h=>match a,h with
 | [.agg [.sl .kind ks,.sl .point ps,.sl .entry es]],[]=>some (Q8cx ks ps es,.agg [.own 0 [] 0,.own 1 [] 0,.own 2 [] 0],[.row .kind ks 0 0 0 .no,.row .point ps 0 0 0 .no,.row .entry es 1 0 0 .no])
 | _,_=>none⟩
def Ql3g : Ent Ty El:=⟨[.io,.ro],1,fun a h=>match a,h with
 | [.own 0 [] 0,.agg [.int .i64 w,.int .i64 n,.str v]],[.row .fld l 0 0 0 .no]=>some (Qckx l,.own 1 [] 0,[.out,.row .fld (Qul0 l ⟨w,n,v⟩) 0 0 0 .no])
 | _,_=>none⟩
theorem Q1mk {b n : Nat} (hb : b ≤ 256) (hn : n ≤ 500000000000) : decide (n * b ≤ 140737488355328) = true:=by
 have h : n * b ≤ 500000000000 * 256:=Nat.mul_le_mul hn hb
 exact decide_eq_true (by omega)
theorem newL {l : List Fld} {i : Nat} {f : Fld} : ([] ++ List.take ((i : Int).toNat - Int.toNat (0 : Int)) (List.drop (Int.toNat (0 : Int)) l) ++ [f] ++ List.take ((l.length : Int).toNat - (i : Int).toNat) (List.drop (i : Int).toNat l)) = l.take i ++ f :: l.drop i:=by
 have h : List.take (l.length - i) (List.drop i l) = List.drop i l:=List.take_of_length_le (by simp)
 simp [h]
theorem Qp68 {r : List Fld} {g f : Fld} (h : g.what < f.what) : Qul0 (g :: r) f = g :: Qul0 r f:=by rw [Qul0,if_pos h]
end Lx
namespace Lx
open Go Go.Proofs
noncomputable def Ql8d : RE Ty El:=⟨Tryz.prog,CP,[],Tryz.f213,0,[],[]⟩
theorem Qdix : REOK Ql8d Qnlm:=⟨CP_ok,Qye1,by kernel_rfl,by kernel_rfl⟩
theorem Qr5q (a b c d : Int) (s t : Str) : aRun Ql8d 600 false (body0 Ql8d.fn) (Q4gm Ql8d.fn [.agg [.int .i64 a,.int .i64 b,.str s],.agg [.int .i64 c,.int .i64 d,.str t]] []) =
 ifb (b != d) (some (.ret (.bool (decide (b > d))) [])) (some (.ret (.bool (!(Q7zj s t || s == t))) [])):=by kernel_rfl
theorem Qxzd (a b c d : Int) (s t : Str) : Qewq Tryz.prog CP Qnlm [.agg [.int .i64 a,.int .i64 b,.str s],.agg [.int .i64 c,.int .i64 d,.str t]] [] (.bool (Fld.later ⟨a,b,s⟩ ⟨c,d,t⟩)) []:=by
 refine Qewq.of Qdix (by kernel_rfl) (Qr5q a b c d s t) ?_
 rw [le_lt,Bool.not_not]
 by_cases h : b = d
 ·subst h
  rw [show (b != b) = false by simp,show Fld.later ⟨a,b,s⟩ ⟨c,b,t⟩ = Q7zj t s from if_pos rfl]
  exact Sat.ret rfl rfl
 ·rw [show (b != d) = true by simp [h],show Fld.later ⟨a,b,s⟩ ⟨c,d,t⟩ = decide (b > d) from if_neg h]
  exact Sat.ret rfl rfl
theorem Qa3h : EntOK Tryz.prog CP Qnlm Q7bn:=by
 refine ⟨⟨Tryz.f213,by kernel_rfl,by kernel_rfl,by kernel_rfl⟩,fun args H res H' h=>?_⟩
 simp only [Q7bn] at h
 split at h
 ·simp only [Option.some.injEq,Prod.mk.injEq] at h
  obtain ⟨hg,rfl,rfl⟩:=h
  exact Qxzd _ _ _ _ _ _
 ·cases h

noncomputable def Q9x1 : RE Ty El:=⟨Tryz.prog,CP,[],Tryz.f191,0,[],[]⟩
theorem Qejk : REOK Q9x1 Q373:=⟨CP_ok,Qye1,by kernel_rfl,by kernel_rfl⟩
theorem Q4sv (ks : List Kind) (ps : List Point) : aRun Q9x1 600 false (body0 Q9x1.fn) (Q4gm Q9x1.fn [.agg [.sl .kind ks,.sl .point ps]] []) =
 ifb (decide (((0 : Nat) + ks.length) * Qbhn Q9x1.P (40 : Nat) ≤ (140737488355328 : Nat))) (ifb (decide (((0 : Nat) + ps.length) * Qbhn Q9x1.P (160 : Nat) ≤ (140737488355328 : Nat))) (some (.ret (.agg [.own 0 [] 0,.own 1 [] 0]) [.row .kind ([] ++ ks) 0 0 0 .no,.row .point ([] ++ ps) 0 0 0 .no])) (none)) (none):=by kernel_rfl
theorem Qxit (ks : List Kind) (ps : List Point) (hg : Qzta ks ps = true) : Qewq Tryz.prog CP Q373 [.agg [.sl .kind ks,.sl .point ps]] [] (.agg [.own 0 [] 0,.own 1 [] 0]) [.row .kind ks 0 0 0 .no,.row .point ps 0 0 0 .no]:=by
 refine Qewq.of Qejk (by kernel_rfl) (Q4sv ks ps) ?_
 simp only [Qzta,Q6lz,Qjyp,Bool.and_eq_true,decide_eq_true_eq] at hg
 obtain ⟨⟨g0,_⟩,⟨g1,_⟩,_⟩:=hg
 have hb40 : Qbhn Q9x1.P 40 ≤ 256:=of_decide_eq_true (by kernel_rfl)
 have hb160 : Qbhn Q9x1.P 160 ≤ 256:=of_decide_eq_true (by kernel_rfl)
 rw [Q1mk hb40 (by simp; omega),Q1mk hb160 (by simp; omega)]
 exact Sat.ret rfl rfl
theorem Qoq9 : EntOK Tryz.prog CP Q373 Qf5p:=by
 refine ⟨⟨Tryz.f191,by kernel_rfl,by kernel_rfl,by kernel_rfl⟩,fun args H res H' h=>?_⟩
 simp only [Qf5p] at h
 split at h
 ·simp only [Option.some.injEq,Prod.mk.injEq] at h
  obtain ⟨hg,rfl,rfl⟩:=h
  exact Qxit _ _ hg
 ·cases h

noncomputable def Q947 : RE Ty El:=⟨Tryz.prog,CP,[(Q373,Qf5p)],Tryz.f138,0,[.agg [.own .kind,.own .point,.own .entry]],[(3,[(1,.any),(2,.any),(3,.any),(4,.any)])]⟩
theorem Qg3r : REOK Q947 Qfx9:=⟨CP_ok,(TabOK.cons Qoq9 Qye1),by kernel_rfl,by kernel_rfl⟩
theorem Qhyh (ks : List Kind) (ps : List Point) (es : List Entry) : aRun Q947 600 false (body0 Q947.fn) (Q4gm Q947.fn [.agg [.sl .kind ks,.sl .point ps,.sl .entry es]] []) =
 ifb (Qzta ks ps) (some (.go (Qu6t Q947.fn 3) [.ptr 0 0,.ptr 1 0,.ptr 2 0,.int .i64 (0 : Int)] [.box [.sl .kind ks,.sl .point ps,.sl .entry es],.box [.nils,.nils,.nils],.box [.own 3 [] 0,.own 4 [] 0,.nils],.row .kind ks 0 0 0 .no,.row .point ps 0 0 0 .no])) (none):=by kernel_rfl
theorem Qswp (x0 : Int) (x1 : List (El .kind)) (x2 : List (El .point)) (x3 : List (El .entry)) (x4 : List (El .kind)) (x5 : List (El .point)) : aRun Q947 600 true (Qu6t Q947.fn 3) (cutSt Q947.fn (Q1m4 Q947 (Qu6t Q947.fn 3)) [.ptr 0 0,.ptr 1 0,.ptr 2 0,.int .i64 x0] [.box [.sl .kind x1,.sl .point x2,.sl .entry x3],.box [.nils,.nils,.nils],.box [.own 3 [] 0,.own 4 [] 0,.nils],.row .kind x4 0 0 0 .no,.row .point x5 0 0 0 .no]) =
 ifb (decide (x0 < (↑x3.length : Int))) (ifb (inb x0 x3.length) (ifb (inb x0 x3.length) (ifb (decide (((0 : Nat) + (x3.getD x0.toNat (Q947.C.dflt Ty.entry)).fields.length) * Qbhn Q947.P (94 : Nat) ≤ (140737488355328 : Nat))) (some (.go (Qu6t Q947.fn 3) [.ptr 0 0,.ptr 1 0,.ptr 2 0,.int .i64 (IntKind.i64.wrap (x0 + (1 : Int)))] [.box [.sl .kind x1,.sl .point x2,.sl .entry x3],.box [.nils,.nils,.nils],.box [.own 3 [] 0,.own 4 [] 0,.own 5 [] 0],.row .kind x4 0 0 0 .no,.row .point x5 0 0 0 .no,.row .entry ([Entry.mk (x3.getD x0.toNat (Q947.C.dflt Ty.entry)).name ([] ++ (x3.getD x0.toNat (Q947.C.dflt Ty.entry)).fields)]) 1 0 0 .no])) (none)) (none)) (none)) (some (.ret (.agg [.own 0 [] 0,.own 1 [] 0,.own 2 [] 0]) [.row .kind x4 0 0 0 .no,.row .point x5 0 0 0 .no,.row .entry [] 1 0 0 .no])):=by kernel_rfl
theorem Q3i1 (x0 : Int) (x1 : List (El .kind)) (x2 : List (El .point)) (x3 : List (El .entry)) (x4 : List (El .kind)) (x5 : List (El .point)) (x6 : List (El .entry)) : aRun Q947 600 true (Qu6t Q947.fn 3) (cutSt Q947.fn (Q1m4 Q947 (Qu6t Q947.fn 3)) [.ptr 0 0,.ptr 1 0,.ptr 2 0,.int .i64 x0] [.box [.sl .kind x1,.sl .point x2,.sl .entry x3],.box [.nils,.nils,.nils],.box [.own 3 [] 0,.own 4 [] 0,.own 5 [] 0],.row .kind x4 0 0 0 .no,.row .point x5 0 0 0 .no,.row .entry x6 1 0 0 .no]) =
 ifb (decide (x0 < (↑x3.length : Int))) (ifb (inb x0 x3.length) (ifb (inb x0 x3.length) (ifb (decide (((0 : Nat) + (x3.getD x0.toNat (Q947.C.dflt Ty.entry)).fields.length) * Qbhn Q947.P (94 : Nat) ≤ (140737488355328 : Nat))) (ifb (decide ((x6.length + [Entry.mk (x3.getD x0.toNat (Q947.C.dflt Ty.entry)).name ([] ++ (x3.getD x0.toNat (Q947.C.dflt Ty.entry)).fields)].length) * Qbhn Q947.P (92 : Nat) ≤ (140737488355328 : Nat))) (some (.go (Qu6t Q947.fn 3) [.ptr 0 0,.ptr 1 0,.ptr 2 0,.int .i64 (IntKind.i64.wrap (x0 + (1 : Int)))] [.box [.sl .kind x1,.sl .point x2,.sl .entry x3],.box [.nils,.nils,.nils],.box [.own 3 [] 0,.own 4 [] 0,.own 5 [] 0],.row .kind x4 0 0 0 .no,.row .point x5 0 0 0 .no,.row .entry (x6 ++ [Entry.mk (x3.getD x0.toNat (Q947.C.dflt Ty.entry)).name ([] ++ (x3.getD x0.toNat (Q947.C.dflt Ty.entry)).fields)]) 1 0 0 .no])) (none)) (none)) (none)) (none)) (some (.ret (.agg [.own 0 [] 0,.own 1 [] 0,.own 2 [] 0]) [.row .kind x4 0 0 0 .no,.row .point x5 0 0 0 .no,.row .entry x6 1 0 0 .no])):=by kernel_rfl
theorem Q8wy (ks : List Kind) (ps : List Point) (es : List Entry) (g0 : es.length ≤ 1000000000) (g1 : es.all (fun z : Entry=>Qytc z.name z.fields) = true) : ∀ (d i : Nat),i + d = es.length →
  Cut Q947 Qfx9 3 [.ptr 0 0,.ptr 1 0,.ptr 2 0,.int .i64 (i : Int)] [.box [.sl .kind ks,.sl .point ps,.sl .entry es],.box [.nils,.nils,.nils],.box [.own 3 [] 0,.own 4 [] 0,.own 5 [] 0],.row .kind ks 0 0 0 .no,.row .point ps 0 0 0 .no,.row .entry (es.take i) 1 0 0 .no] (.agg [.own 0 [] 0,.own 1 [] 0,.own 2 [] 0]) [.row .kind ks 0 0 0 .no,.row .point ps 0 0 0 .no,.row .entry es 1 0 0 .no]:=by
 have hb92 : Qbhn Q947.P 92 ≤ 256:=of_decide_eq_true (by kernel_rfl)
 have hb94 : Qbhn Q947.P 94 ≤ 256:=of_decide_eq_true (by kernel_rfl)
 intro d
 induction d with
 | zero =>
  intro i hi
  refine Cut.of Qg3r rfl (Q3i1 i ks ps es ks ps _) ?_
  rw [show decide ((i : Int) < (es.length : Int)) = false from decide_eq_false (by omega),List.take_of_length_le (by omega)]
  exact Sat.ret rfl rfl
 | succ d ih =>
  intro i hi
  refine Cut.of Qg3r rfl (Q3i1 i ks ps es ks ps _) ?_
  have hlt : i < es.length:=by omega
  have hw : IntKind.wrap .i64 ((i : Int) + 1) = ((i + 1 : Nat) : Int):=by rw [Qbrg] <;> omega
  have hw1 : IntKind.wrap .i64 ((i : Int) - 1) = (i : Int) - 1:=by rw [Qbrg] <;> omega
  have hd : es.drop i = es[i] :: es.drop (i + 1):=List.drop_eq_getElem_cons hlt
  have hx : es.getD (i : Int).toNat (Q947.C.dflt .entry) = es[i]:=by simp [hlt]
  have hin : inb (i : Int) es.length = true:=by simp only [inb,Bool.and_eq_true,decide_eq_true_eq]; omega
  have hlo : decide ((i : Int) < (es.length : Int)) = true:=decide_eq_true (by omega)
  have htk:=List.take_succ_eq_append_getElem hlt
  have hl : (es.take (i + 1)).getLast? = some es[i]:=by rw [List.take_succ_eq_append_getElem hlt,List.getLast?_concat]
  have hz:=List.all_eq_true.1 g1 es[i] (List.getElem_mem hlt)
  simp only [Qytc,Qckx,Bool.and_eq_true,decide_eq_true_eq] at hz
  rw [hlo,hin,hx,hw,Q1mk hb94 (by simp; omega),Q1mk hb92 (by simp; omega)]
  simp only [Qd8q,List.nil_append]
  have nx:=ih (i + 1) (by omega)
  rw [htk] at nx
  exact Sat.cut nx
theorem Qg48 (ks : List Kind) (ps : List Point) (es : List Entry) (g0 : es.length ≤ 1000000000) (g1 : es.all (fun z : Entry=>Qytc z.name z.fields) = true) :
  Cut Q947 Qfx9 3 [.ptr 0 0,.ptr 1 0,.ptr 2 0,.int .i64 (0 : Int)] [.box [.sl .kind ks,.sl .point ps,.sl .entry es],.box [.nils,.nils,.nils],.box [.own 3 [] 0,.own 4 [] 0,.nils],.row .kind ks 0 0 0 .no,.row .point ps 0 0 0 .no] (.agg [.own 0 [] 0,.own 1 [] 0,.own 2 [] 0]) [.row .kind ks 0 0 0 .no,.row .point ps 0 0 0 .no,.row .entry es 1 0 0 .no]:=by
 have hb92 : Qbhn Q947.P 92 ≤ 256:=of_decide_eq_true (by kernel_rfl)
 have hb94 : Qbhn Q947.P 94 ≤ 256:=of_decide_eq_true (by kernel_rfl)
 refine Cut.of Qg3r rfl (Qswp 0 ks ps es ks ps) ?_
 cases es with
 | nil=>exact Sat.ret rfl rfl
 | cons e es =>
  have hz:=g1
  rw [List.all_cons,Bool.and_eq_true] at hz
  replace hz:=hz.1
  simp only [Qytc,Qckx,Bool.and_eq_true,decide_eq_true_eq] at hz
  have hi0 : inb (0 : Int) (e :: es).length = true:=by simp only [inb,Bool.and_eq_true,decide_eq_true_eq,List.length_cons]; omega
  have hx0 : (e :: es).getD (Int.toNat 0) (Q947.C.dflt .entry) = e:=rfl
  rw [show decide ((0 : Int) < ((e :: es).length : Int)) = true from decide_eq_true (by simp only [List.length_cons]; omega),hi0,hx0,Q1mk hb94 (by simp; omega)]
  simp only [Qd8q,List.nil_append]
  exact Sat.cut (Q8wy ks ps (e :: es) g0 g1 es.length 1 (by simp only [List.length_cons]; omega))
theorem Ql4i (ks : List Kind) (ps : List Point) (es : List Entry) (hg : Q8cx ks ps es = true) : Qewq Tryz.prog CP Qfx9 [.agg [.sl .kind ks,.sl .point ps,.sl .entry es]] [] (.agg [.own 0 [] 0,.own 1 [] 0,.own 2 [] 0]) [.row .kind ks 0 0 0 .no,.row .point ps 0 0 0 .no,.row .entry es 1 0 0 .no]:=by
 refine Qewq.of Qg3r (by kernel_rfl) (Qhyh ks ps es) ?_
 simp only [Q8cx,Bool.and_eq_true] at hg
 obtain ⟨g0,g1,g2,_⟩:=hg
 rw [show Qzta ks ps = true by simp only [Qzta,g0,g1,Bool.and_true]]
 simp only [Qnwa,Bool.and_eq_true,decide_eq_true_eq] at g2
 exact Sat.cut (Qg48 ks ps es g2.1 g2.2)
theorem Qaka : EntOK Tryz.prog CP Qfx9 Qc1o:=by
 refine ⟨⟨Tryz.f138,by kernel_rfl,by kernel_rfl,by kernel_rfl⟩,fun args H res H' h=>?_⟩
 simp only [Qc1o] at h
 split at h
 ·simp only [Option.some.injEq,Prod.mk.injEq] at h
  obtain ⟨hg,rfl,rfl⟩:=h
  exact Ql4i _ _ _ hg
 ·cases h

noncomputable def Qfex : RE Ty El:=⟨Tryz.prog,CP,[(Qnlm,Q7bn)],Tryz.f212,1,[.own .fld],[(2,[(0,.any),(3,.any),(5,.any)])]⟩
theorem Qf5e : REOK Qfex Qfs9:=⟨CP_ok,(TabOK.cons Qa3h Qye1),by kernel_rfl,by kernel_rfl⟩
theorem Qj5p (l : List Fld) (w n : Int) (v : Str) : aRun Qfex 600 false (body0 Qfex.fn) (Q4gm Qfex.fn [.own 0 [] 0,.agg [.int .i64 w,.int .i64 n,.str v]] [.row .fld l 0 0 0 .no]) =
 some (.go (Qu6t Qfex.fn 2) [.own 0 [] 0,.ptr 1 0,.int .i64 (0 : Int)] [.row .fld l 0 0 0 .no,.box [.int .i64 w,.int .i64 n,.str v]]):=by kernel_rfl
theorem Qdk2 (x0 : Int) (x1 : List (El .fld)) (x2 : Int) (x3 : Int) (x4 : Str) : aRun Qfex 600 true (Qu6t Qfex.fn 2) (cutSt Qfex.fn (Q1m4 Qfex (Qu6t Qfex.fn 2)) [.own 0 [] 0,.ptr 1 0,.int .i64 x0] [.row .fld x1 0 0 0 .no,.box [.int .i64 x2,.int .i64 x3,.str x4]]) =
 ifb (decide (x0 < (↑x1.length : Int))) (ifb (inb x0 x1.length) (ifb (decide ((x1.getD x0.toNat (Qfex.C.dflt Ty.fld)).what < x2)) (some (.go (Qu6t Qfex.fn 2) [.own 0 [] 0,.ptr 1 0,.int .i64 (IntKind.i64.wrap (x0 + (1 : Int)))] [.row .fld x1 0 0 0 .no,.box [.int .i64 x2,.int .i64 x3,.str x4]])) (ifb (decide (x0 < (↑x1.length : Int))) (ifb (inb x0 x1.length) (ifb ((x1.getD x0.toNat (Qfex.C.dflt Ty.fld)).what == x2) (ifb (inb x0 x1.length) (ifb ((Fld.mk x2 x3 x4).later (x1.getD x0.toNat (Qfex.C.dflt Ty.fld))) (ifb (inb x0 x1.length) (some (.ret (.own 0 [] 0) [.row .fld (x1.set x0.toNat (Fld.mk x2 x3 x4)) 0 0 0 .no])) (none)) (some (.ret (.own 0 [] 0) [.row .fld x1 0 0 0 .no]))) (none)) (ifb (decide ((0 : Int) ≤ (0 : Int)) && (decide ((0 : Int) ≤ x0) && decide (x0 ≤ (↑x1.length : Int)))) (ifb (decide (((0 : Nat) + (List.take (x0.toNat - Int.toNat (0 : Int)) (List.drop (Int.toNat (0 : Int)) x1)).length) * Qbhn Qfex.P (94 : Nat) ≤ (140737488355328 : Nat))) (ifb (decide ((([] ++ List.take (x0.toNat - Int.toNat (0 : Int)) (List.drop (Int.toNat (0 : Int)) x1)).length + [Fld.mk x2 x3 x4].length) * Qbhn Qfex.P (94 : Nat) ≤ (140737488355328 : Nat))) (ifb (decide ((0 : Int) ≤ x0) && (decide (x0 ≤ (↑x1.length : Int)) && decide ((↑x1.length : Int) ≤ (↑x1.length : Int)))) (ifb (decide ((([] ++ List.take (x0.toNat - Int.toNat (0 : Int)) (List.drop (Int.toNat (0 : Int)) x1) ++ [Fld.mk x2 x3 x4]).length + (List.take ((↑x1.length : Int).toNat - x0.toNat) (List.drop x0.toNat x1)).length) * Qbhn Qfex.P (94 : Nat) ≤ (140737488355328 : Nat))) (some (.ret (.own 1 [] 0) [.row .fld x1 0 0 0 .no,.row .fld ([] ++ List.take (x0.toNat - Int.toNat (0 : Int)) (List.drop (Int.toNat (0 : Int)) x1) ++ [Fld.mk x2 x3 x4] ++ List.take ((↑x1.length : Int).toNat - x0.toNat) (List.drop x0.toNat x1)) 0 0 0 .no])) (none)) (none)) (none)) (none)) (none))) (none)) (ifb (decide ((0 : Int) ≤ (0 : Int)) && (decide ((0 : Int) ≤ x0) && decide (x0 ≤ (↑x1.length : Int)))) (ifb (decide (((0 : Nat) + (List.take (x0.toNat - Int.toNat (0 : Int)) (List.drop (Int.toNat (0 : Int)) x1)).length) * Qbhn Qfex.P (94 : Nat) ≤ (140737488355328 : Nat))) (ifb (decide ((([] ++ List.take (x0.toNat - Int.toNat (0 : Int)) (List.drop (Int.toNat (0 : Int)) x1)).length + [Fld.mk x2 x3 x4].length) * Qbhn Qfex.P (94 : Nat) ≤ (140737488355328 : Nat))) (ifb (decide ((0 : Int) ≤ x0) && (decide (x0 ≤ (↑x1.length : Int)) && decide ((↑x1.length : Int) ≤ (↑x1.length : Int)))) (ifb (decide ((([] ++ List.take (x0.toNat - Int.toNat (0 : Int)) (List.drop (Int.toNat (0 : Int)) x1) ++ [Fld.mk x2 x3 x4]).length + (List.take ((↑x1.length : Int).toNat - x0.toNat) (List.drop x0.toNat x1)).length) * Qbhn Qfex.P (94 : Nat) ≤ (140737488355328 : Nat))) (some (.ret (.own 1 [] 0) [.row .fld x1 0 0 0 .no,.row .fld ([] ++ List.take (x0.toNat - Int.toNat (0 : Int)) (List.drop (Int.toNat (0 : Int)) x1) ++ [Fld.mk x2 x3 x4] ++ List.take ((↑x1.length : Int).toNat - x0.toNat) (List.drop x0.toNat x1)) 0 0 0 .no])) (none)) (none)) (none)) (none)) (none)))) (none)) (ifb (decide (x0 < (↑x1.length : Int))) (ifb (inb x0 x1.length) (ifb ((x1.getD x0.toNat (Qfex.C.dflt Ty.fld)).what == x2) (ifb (inb x0 x1.length) (ifb ((Fld.mk x2 x3 x4).later (x1.getD x0.toNat (Qfex.C.dflt Ty.fld))) (ifb (inb x0 x1.length) (some (.ret (.own 0 [] 0) [.row .fld (x1.set x0.toNat (Fld.mk x2 x3 x4)) 0 0 0 .no])) (none)) (some (.ret (.own 0 [] 0) [.row .fld x1 0 0 0 .no]))) (none)) (ifb (decide ((0 : Int) ≤ (0 : Int)) && (decide ((0 : Int) ≤ x0) && decide (x0 ≤ (↑x1.length : Int)))) (ifb (decide (((0 : Nat) + (List.take (x0.toNat - Int.toNat (0 : Int)) (List.drop (Int.toNat (0 : Int)) x1)).length) * Qbhn Qfex.P (94 : Nat) ≤ (140737488355328 : Nat))) (ifb (decide ((([] ++ List.take (x0.toNat - Int.toNat (0 : Int)) (List.drop (Int.toNat (0 : Int)) x1)).length + [Fld.mk x2 x3 x4].length) * Qbhn Qfex.P (94 : Nat) ≤ (140737488355328 : Nat))) (ifb (decide ((0 : Int) ≤ x0) && (decide (x0 ≤ (↑x1.length : Int)) && decide ((↑x1.length : Int) ≤ (↑x1.length : Int)))) (ifb (decide ((([] ++ List.take (x0.toNat - Int.toNat (0 : Int)) (List.drop (Int.toNat (0 : Int)) x1) ++ [Fld.mk x2 x3 x4]).length + (List.take ((↑x1.length : Int).toNat - x0.toNat) (List.drop x0.toNat x1)).length) * Qbhn Qfex.P (94 : Nat) ≤ (140737488355328 : Nat))) (some (.ret (.own 1 [] 0) [.row .fld x1 0 0 0 .no,.row .fld ([] ++ List.take (x0.toNat - Int.toNat (0 : Int)) (List.drop (Int.toNat (0 : Int)) x1) ++ [Fld.mk x2 x3 x4] ++ List.take ((↑x1.length : Int).toNat - x0.toNat) (List.drop x0.toNat x1)) 0 0 0 .no])) (none)) (none)) (none)) (none)) (none))) (none)) (ifb (decide ((0 : Int) ≤ (0 : Int)) && (decide ((0 : Int) ≤ x0) && decide (x0 ≤ (↑x1.length : Int)))) (ifb (decide (((0 : Nat) + (List.take (x0.toNat - Int.toNat (0 : Int)) (List.drop (Int.toNat (0 : Int)) x1)).length) * Qbhn Qfex.P (94 : Nat) ≤ (140737488355328 : Nat))) (ifb (decide ((([] ++ List.take (x0.toNat - Int.toNat (0 : Int)) (List.drop (Int.toNat (0 : Int)) x1)).length + [Fld.mk x2 x3 x4].length) * Qbhn Qfex.P (94 : Nat) ≤ (140737488355328 : Nat))) (ifb (decide ((0 : Int) ≤ x0) && (decide (x0 ≤ (↑x1.length : Int)) && decide ((↑x1.length : Int) ≤ (↑x1.length : Int)))) (ifb (decide ((([] ++ List.take (x0.toNat - Int.toNat (0 : Int)) (List.drop (Int.toNat (0 : Int)) x1) ++ [Fld.mk x2 x3 x4]).length + (List.take ((↑x1.length : Int).toNat - x0.toNat) (List.drop x0.toNat x1)).length) * Qbhn Qfex.P (94 : Nat) ≤ (140737488355328 : Nat))) (some (.ret (.own 1 [] 0) [.row .fld x1 0 0 0 .no,.row .fld ([] ++ List.take (x0.toNat - Int.toNat (0 : Int)) (List.drop (Int.toNat (0 : Int)) x1) ++ [Fld.mk x2 x3 x4] ++ List.take ((↑x1.length : Int).toNat - x0.toNat) (List.drop x0.toNat x1)) 0 0 0 .no])) (none)) (none)) (none)) (none)) (none))):=by kernel_rfl
theorem Qnvi (l : List Fld) (w n : Int) (v : Str) (g0 : l.length ≤ 1000000000) : ∀ (d i : Nat),i + d = l.length → Qul0 l ⟨w,n,v⟩ = l.take i ++ Qul0 (l.drop i) ⟨w,n,v⟩ →
  CutE Qfex Qfs9 2 [.own 0 [] 0,.ptr 1 0,.int .i64 (i : Int)] [.row .fld l 0 0 0 .no,.box [.int .i64 w,.int .i64 n,.str v]] (fun v' h=>(v' = .own 0 [] 0 ∧ h = [.row .fld (Qul0 l ⟨w,n,v⟩) 0 0 0 .no]) ∨ (v' = .own 1 [] 0 ∧ h = [.row .fld l 0 0 0 .no,.row .fld (Qul0 l ⟨w,n,v⟩) 0 0 0 .no])):=by
 have hb : Qbhn Qfex.P 94 ≤ 256:=of_decide_eq_true (by kernel_rfl)
 intro d
 induction d with
 | zero =>
  intro i hi hf
  refine CutE.of Qf5e rfl (Qdk2 i l w n v) ?_
  rw [show decide ((i : Int) < (l.length : Int)) = false from decide_eq_false (by omega)]
  simp only [Qk7y]
  rw [List.drop_of_length_le (by omega)] at hf
  refine SatE.need (by simp; omega) (SatE.need (Q1mk hb (by simp; omega)) (SatE.need (Q1mk hb (by simp; omega)) (SatE.need (by simp; omega) (SatE.need (Q1mk hb (by simp; omega)) (SatE.ret (.inr ⟨rfl, ?_⟩))))))
  rw [newL,hf,List.drop_of_length_le (by omega)]; rfl
 | succ d ih =>
  intro i hi hf
  refine CutE.of Qf5e rfl (Qdk2 i l w n v) ?_
  have hlt : i < l.length:=by omega
  have hw : IntKind.wrap .i64 ((i : Int) + 1) = ((i + 1 : Nat) : Int):=by rw [Qbrg] <;> omega
  have hw1 : IntKind.wrap .i64 ((i : Int) - 1) = (i : Int) - 1:=by rw [Qbrg] <;> omega
  have hd : l.drop i = l[i] :: l.drop (i + 1):=List.drop_eq_getElem_cons hlt
  have hx : l.getD (i : Int).toNat (Qfex.C.dflt .fld) = l[i]:=by simp [hlt]
  have hin : inb (i : Int) l.length = true:=by simp only [inb,Bool.and_eq_true,decide_eq_true_eq]; omega
  have hlo : decide ((i : Int) < (l.length : Int)) = true:=decide_eq_true (by omega)
  have htk:=List.take_succ_eq_append_getElem hlt
  have hl : (l.take (i + 1)).getLast? = some l[i]:=by rw [List.take_succ_eq_append_getElem hlt,List.getLast?_concat]
  rw [hd] at hf
  rw [hlo,hin,hx,hw]
  simp only [Qd8q]
  by_cases h1 : l[i].what < w
  ·rw [show decide (l[i].what < w) = true from decide_eq_true h1]
   rw [Qp68 (r:=l.drop (i + 1)) (f:=⟨w,n,v⟩) h1] at hf
   have hf' : Qul0 l ⟨w,n,v⟩ = l.take (i + 1) ++ Qul0 (l.drop (i + 1)) ⟨w,n,v⟩:=hf.trans ((show l.take i ++ l[i] :: Qul0 (l.drop (i + 1)) ⟨w,n,v⟩ = (l.take i ++ [l[i]]) ++ Qul0 (l.drop (i + 1)) ⟨w,n,v⟩ by rw [List.append_assoc]; rfl).trans (congrArg (fun z=>z ++ Qul0 (l.drop (i + 1)) ⟨w,n,v⟩) htk.symm))
   exact SatE.cut (ih (i + 1) (by omega) hf')
  rw [show decide (l[i].what < w) = false from decide_eq_false h1]
  simp only [Qk7y]
  rw [Qul0,if_neg h1] at hf
  by_cases h2 : l[i].what = w
  ·rw [show (l[i].what == w) = true by simp [h2]]
   simp only [Qd8q]
   rw [if_pos h2] at hf
   cases h3 : Fld.later ⟨w,n,v⟩ l[i] with
   | true =>
    rw [h3] at hf
    refine SatE.ret (.inl ⟨rfl, ?_⟩)
    rw [hf,if_pos rfl,Int.toNat_natCast,List.set_eq_take_append_cons_drop,if_pos hlt]
   | false =>
    rw [h3] at hf
    refine SatE.ret (.inl ⟨rfl, ?_⟩)
    rw [hf,if_neg (by simp),← hd,List.take_append_drop]
  ·rw [show (l[i].what == w) = false by simp [h2]]
   simp only [Qk7y]
   rw [if_neg h2,← hd] at hf
   refine SatE.need (by simp; omega) (SatE.need (Q1mk hb (by simp; omega)) (SatE.need (Q1mk hb (by simp; omega)) (SatE.need (by simp; omega) (SatE.need (Q1mk hb (by simp; omega)) (SatE.ret (.inr ⟨rfl, ?_⟩))))))
   rw [newL,hf]
theorem Q6qg (l : List Fld) (w n : Int) (v : Str) (hg : Qckx l = true) : Qewq Tryz.prog CP Qfs9 [.own 0 [] 0,.agg [.int .i64 w,.int .i64 n,.str v]] [.row .fld l 0 0 0 .no] (.own 1 [] 0) [.out,.row .fld (Qul0 l ⟨w,n,v⟩) 0 0 0 .no]:=by
 simp only [Qckx,Bool.and_eq_true,decide_eq_true_eq] at hg
 have hE : CallE Qfex.P Qfex.C Qfs9 [.own 0 [] 0,.agg [.int .i64 w,.int .i64 n,.str v]] [.row .fld l 0 0 0 .no] (fun v' h=>(v' = .own 0 [] 0 ∧ h = [.row .fld (Qul0 l ⟨w,n,v⟩) 0 0 0 .no]) ∨ (v' = .own 1 [] 0 ∧ h = [.row .fld l 0 0 0 .no,.row .fld (Qul0 l ⟨w,n,v⟩) 0 0 0 .no])):=CallE.of Qf5e (by kernel_rfl) (Qj5p l w n v) (SatE.cut (Qnvi l w n v hg.1 l.length 0 (by omega) rfl))
 obtain ⟨res,H',h,hq⟩:=hE
 rcases hq with ⟨rfl,rfl⟩ | ⟨rfl,rfl⟩
 ·exact Qewq.move CP_ok h
 ·exact Qewq.drop CP_ok h 0 (by simp) rfl rfl
theorem Q0b0 : EntOK Tryz.prog CP Qfs9 Ql3g:=by
 refine ⟨⟨Tryz.f212,by kernel_rfl,by kernel_rfl,by kernel_rfl⟩,fun args H res H' h=>?_⟩
 simp only [Ql3g] at h
 split at h
 ·simp only [Option.some.injEq,Prod.mk.injEq] at h
  obtain ⟨hg,rfl,rfl⟩:=h
  exact Q6qg _ _ _ _ hg
 ·cases h
end Lx
namespace Lx
open Go Go.Proofs
def putOk (es : List Entry) : Bool:=decide (es.length < 1000000000) && es.all (fun z=>Qytc z.name z.fields)
theorem newG {α : Type} {l : List α} {i : Nat} {f : α} : ([] ++ List.take ((i : Int).toNat - Int.toNat (0 : Int)) (List.drop (Int.toNat (0 : Int)) l) ++ [f] ++ List.take ((l.length : Int).toNat - (i : Int).toNat) (List.drop (i : Int).toNat l)) = l.take i ++ f :: l.drop i:=by
 have h : List.take (l.length - i) (List.drop i l) = List.drop i l:=List.take_of_length_le (by simp)
 simp [h]
theorem Q2m4 {r : List Entry} {e : Entry} {n : Str} {f : Fld} (h : Q7zj e.name n = true) : insE (e :: r) n f = e :: insE r n f:=by rw [insE,if_pos h]
theorem Qj3b {r : List Entry} {e : Entry} {n : Str} {f : Fld} (h : Q7zj e.name n = false) : insE (e :: r) n f = ⟨n,[f]⟩ :: e :: r:=by rw [insE,if_neg (by simp [h])]
theorem Q5v6 {es : List Entry} {n : Str} {f : Fld} (h : 0 ≤ entIx es n) : putF es n f = es.set (entIx es n).toNat ⟨(es.getD (entIx es n).toNat (dfltP .entry)).name,Qul0 (es.getD (entIx es n).toNat (dfltP .entry)).fields f⟩:=if_pos h
theorem Qk9v {es : List Entry} {n : Str} {f : Fld} (h : ¬ 0 ≤ entIx es n) : putF es n f = insE es n f:=if_neg h
end Lx
namespace Rw
open Go Go.Proofs Lx
def insR : List Ent0 → Str → Fld → List Ent0
 | [],n,f=>[⟨n,.lt [f]⟩]
 | e :: r,n,f=>if Q7zj e.name n = true then e :: insR r n f else ⟨n,.lt [f]⟩ :: e :: r
theorem insR_lt {r : List Ent0} {e : Ent0} {n : Str} {f : Fld} (h : Q7zj e.name n = true) : insR (e :: r) n f = e :: insR r n f:=by rw [insR,if_pos h]
theorem insR_ge {r : List Ent0} {e : Ent0} {n : Str} {f : Fld} (h : Q7zj e.name n = false) : insR (e :: r) n f = ⟨n,.lt [f]⟩ :: e :: r:=by rw [insR,if_neg (by simp [h])]
def Qf4o : Ent Ty El:=⟨[.ro,.ro],0,fun a h=>match a,h with
 | [.agg [.raw kh,.raw ph,.sl .ent es],.str n],[]=>some (decide (es.length < 1000000000),.int .i64 (idxF (fun p=>p.name == n) es),[])
 | _,_=>none⟩
end Rw
namespace Rw
open Go Go.Proofs Lx
noncomputable def Qj8l : RE Ty El:=⟨Tryz.prog,CP,[],Tryz.f116,0,[],[(2,[(1,.any),(2,.any),(5,.any)])]⟩
theorem Qv79 : REOK Qj8l Q4v9:=⟨CP_ok,Qye1,by kernel_rfl,by kernel_rfl⟩
theorem Q0e6 (kh ph : Value) (es : List Ent0) (n : Str) : aRun Qj8l 600 false (body0 Qj8l.fn) (Q4gm Qj8l.fn [.agg [.raw kh,.raw ph,.sl .ent es],.str n] []) =
 some (.go (Qu6t Qj8l.fn 2) [.str n,.ptr 0 0,.int .i64 (0 : Int)] [.box [.raw kh,.raw ph,.sl .ent es]]):=by kernel_rfl
theorem Qzuc (x0 : Str) (x1 : Int) (x2 : Value) (x3 : Value) (x4 : List (El .ent)) : aRun Qj8l 600 true (Qu6t Qj8l.fn 2) (cutSt Qj8l.fn (Q1m4 Qj8l (Qu6t Qj8l.fn 2)) [.str x0,.ptr 0 0,.int .i64 x1] [.box [.raw x2,.raw x3,.sl .ent x4]]) =
 ifb (decide (x1 < (↑x4.length : Int))) (ifb (inb x1 x4.length) (ifb ((x4.getD x1.toNat (Qj8l.C.dflt Ty.ent)).name == x0) (some (.ret (.int .i64 x1) [])) (some (.go (Qu6t Qj8l.fn 2) [.str x0,.ptr 0 0,.int .i64 (IntKind.i64.wrap (x1 + (1 : Int)))] [.box [.raw x2,.raw x3,.sl .ent x4]]))) (none)) (some (.ret (.int .i64 (-1 : Int)) [])):=by kernel_rfl
theorem Qn1k (kh ph : Value) (es : List Ent0) (n : Str) (h0 : es.length < 1000000000) : ∀ (d i : Nat),i + d = es.length → (∀ k < i,∀ x,es[k]? = some x → (x.name == n) = false) → Cut Qj8l Q4v9 2 [.str n,.ptr 0 0,.int .i64 (i : Int)] [.box [.raw kh,.raw ph,.sl .ent es]] (.int .i64 (idxF (fun p=>p.name == n) es)) []:=by
 intro d
 induction d with
 | zero =>
  intro i hi hno
  refine Cut.of Qv79 rfl (Qzuc n i kh ph es) ?_
  rw [show decide ((i : Int) < (es.length : Int)) = false from decide_eq_false (by omega),Qk7y]
  refine Sat.retI ?_ rfl
  unfold idxF
  rw [List.findIdx?_eq_none_iff.2 (fun x hx=>by
   obtain ⟨j,hj,rfl⟩:=List.getElem_of_mem hx
   exact hno j (by omega) _ (List.getElem?_eq_getElem hj))]
 | succ d ih =>
  intro i hi hno
  refine Cut.of Qv79 rfl (Qzuc n i kh ph es) ?_
  have hlt : i < es.length:=by omega
  have hw : IntKind.wrap .i64 ((i : Int) + 1) = ((i + 1 : Nat) : Int):=by rw [Qbrg] <;> omega
  have hx : es.getD (i : Int).toNat (Qj8l.C.dflt .ent) = es[i]:=by simp [hlt]
  have hin : inb (i : Int) es.length = true:=by simp only [inb,Bool.and_eq_true,decide_eq_true_eq]; omega
  rw [show decide ((i : Int) < (es.length : Int)) = true from decide_eq_true (by omega),hin,hx,hw]
  simp only [Qd8q]
  cases hn : (es[i].name == n) with
  | true =>
   rw [Qd8q]
   refine Sat.retI ?_ rfl
   unfold idxF
   rw [List.findIdx?_eq_some_iff_getElem.2 ⟨hlt,hn,fun j hj=>by rw [hno j hj _ (List.getElem?_eq_getElem (by omega))]; simp⟩]
  | false =>
   rw [Qk7y]
   refine Sat.cut (ih (i + 1) (by omega) (fun k hk x hy=>?_))
   rcases Nat.lt_or_ge k i with h | h
   ·exact hno k h x hy
   ·obtain rfl : k = i:=by omega
    rw [List.getElem?_eq_getElem hlt] at hy
    obtain rfl:=Option.some.inj hy
    exact hn
theorem Qbk7 (kh ph : Value) (es : List Ent0) (n : Str) (hg : decide (es.length < 1000000000) = true) : Qewq Tryz.prog CP Q4v9 [.agg [.raw kh,.raw ph,.sl .ent es],.str n] [] (.int .i64 (idxF (fun p=>p.name == n) es)) []:=by
 refine Qewq.of Qv79 (by kernel_rfl) (Q0e6 kh ph es n) ?_
 exact Sat.cut (Qn1k kh ph es n (of_decide_eq_true hg) es.length 0 (by omega) (fun k hk=>by omega))
theorem Q9x2 : EntOK Tryz.prog CP Q4v9 Qf4o:=by
 refine ⟨⟨Tryz.f116,by kernel_rfl,by kernel_rfl,by kernel_rfl⟩,fun args H res H' h=>?_⟩
 simp only [Qf4o] at h
 split at h
 ·simp only [Option.some.injEq,Prod.mk.injEq] at h
  obtain ⟨hg,rfl,rfl⟩:=h
  exact Qbk7 _ _ _ _ hg
 ·cases h

noncomputable def Qx07 : RE Ty El:=⟨Tryz.prog,CP,[(Q4v9,Qf4o)],Tryz.f139,1,[.agg [.any,.any,.own .ent]],[(6,[(1,.any),(3,.any),(5,.any),(6,.any),(8,.any)])]⟩
theorem Qi9q : REOK Qx07 Q7kf:=⟨CP_ok,(TabOK.cons Q9x2 Qye1),by kernel_rfl,by kernel_rfl⟩
theorem Q9x4 (kh ph : Value) (es : List Ent0) (n : Str) (w m : Int) (v : Str) : aRun Qx07 600 false (body0 Qx07.fn) (Q4gm Qx07.fn [.agg [.raw kh,.raw ph,.own 0 [] 0],.str n,.agg [.int .i64 w,.int .i64 m,.str v]] [.row .ent es 0 0 0 .no]) =
 ifb (decide (es.length < (1000000000 : Nat))) (ifb (decide (idxF (fun p=>p.name == n) es ≥ (0 : Int))) (ifb (inb (idxF (fun p=>p.name == n) es) es.length) (none) (none)) (some (.go (Qu6t Qx07.fn 6) [.str n,.ptr 1 0,.ptr 2 0,.ptr 3 0,.int .i64 (0 : Int)] [.row .ent es 0 0 0 .no,.box [.raw kh,.raw ph,.own 0 [] 0],.box [.int .i64 w,.int .i64 m,.str v],.box [.nils,.nils,.nils]]))) (none):=by kernel_rfl
theorem Qdpk (x0 : Str) (x1 : Int) (x2 : List (El .ent)) (x3 : Value) (x4 : Value) (x5 : Int) (x6 : Int) (x7 : Str) : aRun Qx07 600 true (Qu6t Qx07.fn 6) (cutSt Qx07.fn (Q1m4 Qx07 (Qu6t Qx07.fn 6)) [.str x0,.ptr 1 0,.ptr 2 0,.ptr 3 0,.int .i64 x1] [.row .ent x2 0 0 0 .no,.box [.raw x3,.raw x4,.own 0 [] 0],.box [.int .i64 x5,.int .i64 x6,.str x7],.box [.nils,.nils,.nils]]) =
 ifb (decide (x1 < (↑x2.length : Int))) (ifb (inb x1 x2.length) (ifb (Q7zj (x2.getD x1.toNat (Qx07.C.dflt Ty.ent)).name x0) (some (.go (Qu6t Qx07.fn 6) [.str x0,.ptr 1 0,.ptr 2 0,.ptr 3 0,.int .i64 (IntKind.i64.wrap (x1 + (1 : Int)))] [.row .ent x2 0 0 0 .no,.box [.raw x3,.raw x4,.own 0 [] 0],.box [.int .i64 x5,.int .i64 x6,.str x7],.box [.nils,.nils,.nils]])) (ifb (decide ((0 : Int) ≤ (0 : Int)) && (decide ((0 : Int) ≤ x1) && decide (x1 ≤ (↑x2.length : Int)))) (ifb (decide (((0 : Nat) + (List.take (x1.toNat - Int.toNat (0 : Int)) (List.drop (Int.toNat (0 : Int)) x2)).length) * Qbhn Qx07.P (92 : Nat) ≤ (140737488355328 : Nat))) (ifb (decide ((([] ++ List.take (x1.toNat - Int.toNat (0 : Int)) (List.drop (Int.toNat (0 : Int)) x2)).length + [Ent0.mk x0 (Hd.lt [Fld.mk x5 x6 x7])].length) * Qbhn Qx07.P (92 : Nat) ≤ (140737488355328 : Nat))) (ifb (decide ((0 : Int) ≤ x1) && (decide (x1 ≤ (↑x2.length : Int)) && decide ((↑x2.length : Int) ≤ (↑x2.length : Int)))) (ifb (decide ((([] ++ List.take (x1.toNat - Int.toNat (0 : Int)) (List.drop (Int.toNat (0 : Int)) x2) ++ [Ent0.mk x0 (Hd.lt [Fld.mk x5 x6 x7])]).length + (List.take ((↑x2.length : Int).toNat - x1.toNat) (List.drop x1.toNat x2)).length) * Qbhn Qx07.P (92 : Nat) ≤ (140737488355328 : Nat))) (some (.ret (.agg [.raw x3,.raw x4,.own 1 [] 0]) [.row .ent x2 0 0 0 .no,.row .ent ([] ++ List.take (x1.toNat - Int.toNat (0 : Int)) (List.drop (Int.toNat (0 : Int)) x2) ++ [Ent0.mk x0 (Hd.lt [Fld.mk x5 x6 x7])] ++ List.take ((↑x2.length : Int).toNat - x1.toNat) (List.drop x1.toNat x2)) 0 0 0 .no])) (none)) (none)) (none)) (none)) (none))) (none)) (ifb (decide ((0 : Int) ≤ (0 : Int)) && (decide ((0 : Int) ≤ x1) && decide (x1 ≤ (↑x2.length : Int)))) (ifb (decide (((0 : Nat) + (List.take (x1.toNat - Int.toNat (0 : Int)) (List.drop (Int.toNat (0 : Int)) x2)).length) * Qbhn Qx07.P (92 : Nat) ≤ (140737488355328 : Nat))) (ifb (decide ((([] ++ List.take (x1.toNat - Int.toNat (0 : Int)) (List.drop (Int.toNat (0 : Int)) x2)).length + [Ent0.mk x0 (Hd.lt [Fld.mk x5 x6 x7])].length) * Qbhn Qx07.P (92 : Nat) ≤ (140737488355328 : Nat))) (ifb (decide ((0 : Int) ≤ x1) && (decide (x1 ≤ (↑x2.length : Int)) && decide ((↑x2.length : Int) ≤ (↑x2.length : Int)))) (ifb (decide ((([] ++ List.take (x1.toNat - Int.toNat (0 : Int)) (List.drop (Int.toNat (0 : Int)) x2) ++ [Ent0.mk x0 (Hd.lt [Fld.mk x5 x6 x7])]).length + (List.take ((↑x2.length : Int).toNat - x1.toNat) (List.drop x1.toNat x2)).length) * Qbhn Qx07.P (92 : Nat) ≤ (140737488355328 : Nat))) (some (.ret (.agg [.raw x3,.raw x4,.own 1 [] 0]) [.row .ent x2 0 0 0 .no,.row .ent ([] ++ List.take (x1.toNat - Int.toNat (0 : Int)) (List.drop (Int.toNat (0 : Int)) x2) ++ [Ent0.mk x0 (Hd.lt [Fld.mk x5 x6 x7])] ++ List.take ((↑x2.length : Int).toNat - x1.toNat) (List.drop x1.toNat x2)) 0 0 0 .no])) (none)) (none)) (none)) (none)) (none)):=by kernel_rfl
theorem Q1h2 (kh ph : Value) (es : List Ent0) (n : Str) (w m : Int) (v : Str) (g0 : es.length < 1000000000) : ∀ (d i : Nat),i + d = es.length → insR es n ⟨w,m,v⟩ = es.take i ++ insR (es.drop i) n ⟨w,m,v⟩ →
  Cut Qx07 Q7kf 6 [.str n,.ptr 1 0,.ptr 2 0,.ptr 3 0,.int .i64 (i : Int)] [.row .ent es 0 0 0 .no,.box [.raw kh,.raw ph,.own 0 [] 0],.box [.int .i64 w,.int .i64 m,.str v],.box [.nils,.nils,.nils]] (.agg [.raw kh,.raw ph,.own 1 [] 0]) [.row .ent es 0 0 0 .no,.row .ent (insR es n ⟨w,m,v⟩) 0 0 0 .no]:=by
 have hb : Qbhn Qx07.P 92 ≤ 256:=of_decide_eq_true (by kernel_rfl)
 intro d
 induction d with
 | zero =>
  intro i hi hf
  refine Cut.of Qi9q rfl (Qdpk n i es kh ph w m v) ?_
  rw [List.drop_of_length_le (by omega)] at hf
  rw [show decide ((i : Int) < (es.length : Int)) = false from decide_eq_false (by omega),Qk7y]
  rw [show (decide ((0 : Int) ≤ (0 : Int)) && (decide ((0 : Int) ≤ (i : Int)) && decide ((i : Int) ≤ (es.length : Int)))) = true by simp; omega,show (decide ((0 : Int) ≤ (i : Int)) && (decide ((i : Int) ≤ (es.length : Int)) && decide ((es.length : Int) ≤ (es.length : Int)))) = true by simp; omega,Q1mk hb (by simp; omega),Q1mk hb (by simp; omega),Q1mk hb (by simp; omega)]
  simp only [Qd8q]
  refine Sat.ret rfl ?_
  rw [newG,hf,List.drop_of_length_le (by omega)]; rfl
 | succ d ih =>
  intro i hi hf
  refine Cut.of Qi9q rfl (Qdpk n i es kh ph w m v) ?_
  have hlt : i < es.length:=by omega
  have hw : IntKind.wrap .i64 ((i : Int) + 1) = ((i + 1 : Nat) : Int):=by rw [Qbrg] <;> omega
  have hw1 : IntKind.wrap .i64 ((i : Int) - 1) = (i : Int) - 1:=by rw [Qbrg] <;> omega
  have hd : es.drop i = es[i] :: es.drop (i + 1):=List.drop_eq_getElem_cons hlt
  have hx : es.getD (i : Int).toNat (Qx07.C.dflt .ent) = es[i]:=by simp [hlt]
  have hin : inb (i : Int) es.length = true:=by simp only [inb,Bool.and_eq_true,decide_eq_true_eq]; omega
  have hlo : decide ((i : Int) < (es.length : Int)) = true:=decide_eq_true (by omega)
  have htk:=List.take_succ_eq_append_getElem hlt
  have hl : (es.take (i + 1)).getLast? = some es[i]:=by rw [List.take_succ_eq_append_getElem hlt,List.getLast?_concat]
  rw [hd] at hf
  rw [hlo,hin,hx,hw]
  simp only [Qd8q]
  cases h1 : Q7zj es[i].name n with
  | true =>
   rw [insR_lt h1] at hf
   have hf' : insR es n ⟨w,m,v⟩ = es.take (i + 1) ++ insR (es.drop (i + 1)) n ⟨w,m,v⟩:=hf.trans ((show es.take i ++ es[i] :: insR (es.drop (i + 1)) n ⟨w,m,v⟩ = (es.take i ++ [es[i]]) ++ insR (es.drop (i + 1)) n ⟨w,m,v⟩ by rw [List.append_assoc]; rfl).trans (congrArg (fun z=>z ++ insR (es.drop (i + 1)) n ⟨w,m,v⟩) htk.symm))
   exact Sat.cut (ih (i + 1) (by omega) hf')
  | false =>
   rw [insR_ge h1,← hd] at hf
   rw [show (decide ((0 : Int) ≤ (0 : Int)) && (decide ((0 : Int) ≤ (i : Int)) && decide ((i : Int) ≤ (es.length : Int)))) = true by simp; omega,show (decide ((0 : Int) ≤ (i : Int)) && (decide ((i : Int) ≤ (es.length : Int)) && decide ((es.length : Int) ≤ (es.length : Int)))) = true by simp; omega,Q1mk hb (by simp; omega),Q1mk hb (by simp; omega),Q1mk hb (by simp; omega)]
   simp only [Qd8q,Qk7y]
   refine Sat.ret rfl ?_
   rw [newG,hf]
theorem c_spec_l13Put (kh ph : Value) (es : List Ent0) (n : Str) (w m : Int) (v : Str) (hg : (decide (es.length < 1000000000) && decide (idxF (fun p=>p.name == n) es < 0)) = true) : Qewq Tryz.prog CP Q7kf [.agg [.raw kh,.raw ph,.own 0 [] 0],.str n,.agg [.int .i64 w,.int .i64 m,.str v]] [.row .ent es 0 0 0 .no] (.agg [.raw kh,.raw ph,.own 1 [] 0]) [.row .ent es 0 0 0 .no,.row .ent (insR es n ⟨w,m,v⟩) 0 0 0 .no]:=by
 refine Qewq.of Qi9q (by kernel_rfl) (Q9x4 kh ph es n w m v) ?_
 simp only [Bool.and_eq_true,decide_eq_true_eq] at hg
 obtain ⟨g0,g1⟩:=hg
 rw [show decide (es.length < 1000000000) = true from decide_eq_true g0,show decide (idxF (fun p=>p.name == n) es ≥ (0 : Int)) = false from decide_eq_false (by omega)]
 simp only [Qd8q,Qk7y]
 exact Sat.cut (Q1h2 kh ph es n w m v g0 es.length 0 (by omega) rfl)
end Rw
namespace Lx
open Go
section
variable {Ty : Type} {El : Ty → Type} {C : Cod Ty El} {P : Program}
theorem Qewq.frz (hC : CodOK P C) {g : FuncId} {args : List (AV Ty El)} {H : List (AObj Ty El)} {res : AV Ty El} {H' : List (AObj Ty El)} {r d d' : Nat} {T : Ty} {xs : List (El T)} (hk : r < H.length) (hr : hpOf H r = .row T xs d 0 0 .no) (hd : d' ≤ d)
  (h : Qewq P C g args (H.set r (.row T xs d' 0 0 .no)) res H') : Qewq P C g args H res H':=by
 intro w N vs hN hsz hrep
 have ho:=hN.obj r
 rw [hr] at ho
 obtain ⟨B',h1,h2,h3⟩:=Deep.freeze hC d' d _ _ _ _ _ hd ho.2 (fun _ h=>h)
 have hs : Step C (fun k=>k = r) N (N.upd r (N.ν r) B' (rowG C w T xs (N.ν r) d' 0 0 .no) (fun b=>N.F r b ∧ ¬ B' b)) (hpOf H) (setH (hpOf H) r (.row T xs d' 0 0 .no)) w w:=by
  refine Step.row hC hN (fun _ _ _=>rfl) (Nat.le_refl _) ho.1 (fun hL=>h3 _ hL (fun b hb hn=>.inr ⟨hb,hn⟩)) (fun p v u hg=>?_) (fun b hb=>.inl (h1 b hb)) (fun b hb=>.inr hb.1) (fun b hb hn=>hn.2 hb) rfl rfl rfl
  have:=hN.reg r p v u hg
  rw [hr] at this
  cases p with
  | nil=>exact this
  | cons q p=>exact ⟨this.1,fun hm e hl=>this.2 rfl e (Nat.le_trans hl hd)⟩
 have he : hpOf (H.set r (.row T xs d' 0 0 .no)) = setH (hpOf H) r (.row T xs d' 0 0 .no):=by
  funext k
  rw [Qf9x hk]
  by_cases e : k = r
  ·subst e; simp [Q3el]
  ·rw [if_neg e,Qte0 _ _ e]
 have hF2 : ∀ k b,(N.upd r (N.ν r) B' (rowG C w T xs (N.ν r) d' 0 0 .no) (fun b=>N.F r b ∧ ¬ B' b)).F k b → N.F k b:=fun k b hb=>by
  by_cases e : k = r
  ·subst e; simp only [Nm.upd_F_self] at hb; exact h1 b hb
  ·simpa [Nm.upd,e] using hb
 have hν2 : ∀ k,(N.upd r (N.ν r) B' (rowG C w T xs (N.ν r) d' 0 0 .no) (fun b=>N.F r b ∧ ¬ B' b)).ν k = N.ν k:=fun k=>by
  by_cases e : k = r
  ·subst e; simp
  ·simp [Nm.upd,e]
 refine (h w _ vs (by rw [he]; exact hN.step hC hs) hsz (fun j v x hv hx=>(hrep j v x hv hx).mono (hs.le hN))).mono ?_
 rintro en w' ⟨v,N',rfl,hH,hv,hio,hroI,hroO,hfr,hF⟩
 refine ⟨v,N',rfl,hH,hv,fun k hk hst=>(hio k (by simpa using hk) hst).trans (hν2 k),fun b hb=>hroI b ((hs.le hN).ro b hb),fun b hb=>?_,⟨hfr.os,hfr.tape,hfr.output,hfr.size,fun b hb hn=>hfr.block b hb (fun ⟨k,hb2⟩=>hn ⟨k,hF2 k b hb2⟩)⟩,fun k b hb=>(hF k b hb).imp id (fun ⟨k',hb'⟩=>⟨k',hF2 k' b hb'⟩)⟩
 rcases hroO b hb with h | h | ⟨k,hb'⟩
 ·rcases h with h | h
  ·exact .inl h
  ·exact .inr (.inr ⟨r,h.1⟩)
 ·exact .inr (.inl h)
 ·exact .inr (.inr ⟨k,hF2 k b hb'⟩)
variable {R : RE Ty El} {f : FuncId}
theorem Cut.frz (hC : CodOK R.P R.C) {id : Nat} {vals : List (AV Ty El)} {h : List (AObj Ty El)} {res : AV Ty El} {H' : List (AObj Ty El)} {r d d' : Nat} {T : Ty} {xs : List (El T)} (hk : r < h.length) (hr : hpOf h r = .row T xs d 0 0 .no) (hd : d' ≤ d)
  (hg : Cut R f id vals (h.set r (.row T xs d' 0 0 .no)) res H') : Cut R f id vals h res H':=by
 intro X N a w hn hm hS
 obtain ⟨N',hS',_⟩:=hS.freeze hC (r:=r) (T:=T) (xs:=xs) (d:=d) (d':=d') (vr:=0) (vn:=0) (vn':=0) hr hd (Nat.le_refl _)
 refine hg X N' a w hn hm ?_
 have he : (cutSt R.fn (Q1m4 R (Qu6t R.fn id)) vals (h.set r (.row T xs d' 0 0 .no))).hpF = setH (cutSt R.fn (Q1m4 R (Qu6t R.fn id)) vals h).hpF r (.row T xs d' 0 0 .no):=by
  funext k
  have e1 : hpOf (h.set r (.row T xs d' 0 0 .no)) k = if k = r then .row T xs d' 0 0 .no else hpOf h k:=Qf9x hk
  by_cases e : k = r
  ·subst e; rw [Q3el]; exact e1.trans (if_pos rfl)
  ·rw [Qte0 _ _ e]; exact e1.trans (if_neg e)
 rw [he]
 exact hS'
theorem CutE.frz (hC : CodOK R.P R.C) {id : Nat} {vals : List (AV Ty El)} {h : List (AObj Ty El)} {Q : AV Ty El → List (AObj Ty El) → Prop} {r d d' : Nat} {T : Ty} {xs : List (El T)} (hk : r < h.length) (hr : hpOf h r = .row T xs d 0 0 .no) (hd : d' ≤ d)
  (hg : CutE R f id vals (h.set r (.row T xs d' 0 0 .no)) Q) : CutE R f id vals h Q:=by
 obtain ⟨res,H',h1,h2⟩:=hg
 exact ⟨res,H',Cut.frz hC hk hr hd h1,h2⟩
end
end Lx
namespace Lx
open Go
section
variable {Ty : Type} {El : Ty → Type} {C : Cod Ty El} {P : Program}
def swC (k L : Nat) : AV Ty El → AV Ty El
 | .own r p v=>.own (if r = k then L else r) p v
 | c=>c
def swOk : AV Ty El → Bool
 | .own .. | .int .. | .bool .. | .str .. | .nils=>true
 | _=>false
def swO (k L : Nat) : AObj Ty El → AObj Ty El
 | .box cs=>.box (cs.map (swC k L))
 | o=>o
def swBox : AObj Ty El → Bool
 | .box cs=>cs.all swOk
 | .mp ..=>false
 | _=>true
theorem Qwzt {H : List (AObj Ty El)} {r : Nat} (h : H.length ≤ r) : hpOf H r = .gone:=by
 unfold hpOf; rw [List.getD_eq_getElem?_getD,List.getElem?_eq_none h]; rfl
theorem Qewq.moveG (hC : CodOK P C) {g : FuncId} {args : List (AV Ty El)} {H : List (AObj Ty El)} {res res' : AV Ty El} {H' : List (AObj Ty El)} {T : Ty} {xs : List (El T)} {d : Nat} (h : Qewq P C g args H res H') (k : Nat) (hk : k < H'.length) (hlen : H.length ≤ H'.length)
  (hrow : hpOf H' k = .row T xs d 0 0 .no) (hres : ∀ (N N2 : Nm) (w : World) (v : Value),(∀ v c,swOk c = true → RepA C N w v c → RepA C N2 w v (swC k H'.length c)) → (∀ v x,noNm k 6 x = true → RepA C N w v x → RepA C N2 w v x) → RepA C N w v res → RepA C N2 w v res') (hbox : H'.all swBox = true) : Qewq P C g args H res' ((H'.map (swO k H'.length)).set k .out ++ [.row T xs d 0 0 .no]):=by
 intro w N vs hN hsz hrep
 refine (h w N vs hN hsz hrep).mono ?_
 rintro en w' ⟨v,N',rfl,hH,hv,hio,hroI,hroO,hfr,hF⟩
 have hL : hpOf H' H'.length = .gone:=Qwzt (Nat.le_refl _)
 have noF : ∀ b,¬ N'.F H'.length b:=fun b hb=>by
  have:=hH.obj H'.length
  rw [hL] at this
  exact this b hb
 have noG : ∀ p v u,¬ N'.G H'.length p v u:=fun p v u hg=>by
  have:=hH.reg H'.length p v u hg
  rw [hL] at this
  exact this

 have ob : ∀ r,hpOf ((H'.map (swO k H'.length)).set k .out ++ [.row T xs d 0 0 .no]) r = if r = k then .out else if r = H'.length then .row T xs d 0 0 .no else swO k H'.length (hpOf H' r):=fun r=>by
  unfold hpOf
  rw [List.getD_eq_getElem?_getD,List.getD_eq_getElem?_getD]
  by_cases h1 : r = k
  ·subst h1
   rw [List.getElem?_append_left (by simpa using hk),List.getElem?_set,if_pos rfl,if_pos (by simpa using hk),if_pos rfl]; rfl
  ·rw [if_neg h1]
   by_cases h2 : r = H'.length
   ·subst h2
    rw [if_pos rfl,List.getElem?_append_right (by simp)]
    simp
   ·rw [if_neg h2]
    by_cases h3 : r < H'.length
    ·rw [List.getElem?_append_left (by simpa using h3),List.getElem?_set,if_neg (fun e=>h1 e.symm),List.getElem?_map,List.getElem?_eq_getElem h3]
     rfl
    ·have : H'.length < r:=by omega
     rw [List.getElem?_append_right (by simp; omega),List.getElem?_eq_none (by simp; omega),List.getElem?_eq_none (by omega)]
     rfl
 let N2 : Nm:={ ν:=fun r=>if r = H'.length then N'.ν k else N'.ν r,F:=fun r b=>(r ≠ k ∧ r ≠ H'.length ∧ N'.F r b) ∨ (r = H'.length ∧ N'.F k b),G:=fun r p v u=>(r ≠ k ∧ r ≠ H'.length ∧ N'.G r p v u) ∨ (r = H'.length ∧ N'.G k p v u),ro:=N'.ro }
 have nek : k ≠ H'.length:=by omega
 have rC : ∀ (v : Value) (c : AV Ty El),swOk c = true → RepA C N' w' v c → RepA C N2 w' v (swC k H'.length c):=fun v c hc hr=>by
  cases hr with
  | own r p ver _ hx =>
   simp only [swC]
   by_cases e : r = k
   ·subst e; rw [if_pos rfl]; exact .own _ _ _ _ (.inr ⟨rfl,hx⟩)
   ·rw [if_neg e]
    exact .own _ _ _ _ (.inl ⟨e,fun e2=>noG p ver v (by rw [← e2]; exact hx),hx⟩)
  | int k n=>exact .int k n
  | bool b=>exact .bool b
  | str s l h=>exact .str s l h
  | nils=>exact .nils
  | _=>simp [swOk] at hc
 refine ⟨v,N2,rfl,⟨fun r=>?_,fun r p v u hg=>?_,fun r=>?_,fun r p v u hg=>?_,fun r r' b h1 h2=>?_,fun r b h1 h2=>?_,hH.roLt,hH.glTo hC (fun _ h=>h) (fun _ _=>rfl)⟩, ?_,fun r hr hst=>?_,hroI,hroO,hfr,fun r b hb=>?_⟩
 ·rw [ob]
  by_cases h1 : r = k
  ·rw [if_pos h1]
   rintro b (hb | hb)
   ·exact hb.1 h1
   ·exact nek (h1.symm.trans hb.1)
  ·rw [if_neg h1]
   by_cases h2 : r = H'.length
   ·rw [if_pos h2]
    have ho:=hH.obj k
    rw [hrow] at ho
    have eν : N2.ν r = N'.ν k:=if_pos h2
    refine ⟨by rw [eν]; exact ho.1, ?_⟩
    rw [eν]
    exact (Deep.cast (N:=N') (N':=N2) hC (fun _ h=>h) (fun _ _=>rfl) _ _ _ _ _ _ ho.2 (fun _ _=>rfl)).blkEq (fun b=>⟨fun hb=>hb.elim (fun hb=>absurd h2 hb.2.1) (fun hb=>hb.2),fun hb=>.inr ⟨h2,hb⟩⟩)
   ·rw [if_neg h2]
    have ho:=hH.obj r
    have eν : N2.ν r = N'.ν r:=if_neg h2
    have eF : ∀ b,N2.F r b ↔ N'.F r b:=fun b=>⟨fun hb=>hb.elim (fun hb=>hb.2.2) (fun hb=>absurd hb.1 h2),fun hb=>.inl ⟨h1,h2,hb⟩⟩
    cases e : hpOf H' r with
    | box cs =>
     rw [e] at ho
     have hm:=Q13r e (by simp)
     have hn : cs.all swOk = true:=List.all_eq_true.1 hbox _ hm
     obtain ⟨b,arr,t,q1,q2,q3,q4,q5,q6⟩:=ho
     refine ⟨b,arr,t,eν.trans q1,q2,by rw [q3]; simp,q4,fun j v c hj hc=>?_,fun b'=>(eF b').trans (q6 b')⟩
     rw [List.getElem?_map] at hc
     cases e2 : cs[j]? with
     | none=>rw [e2] at hc; cases hc
     | some c0 =>
      rw [e2] at hc
      simp only [Option.map_some,Option.some.injEq] at hc
      subst hc
      exact rC v c0 (List.all_eq_true.1 hn c0 (List.mem_of_getElem? e2)) (q5 j v c0 hj e2)
    | row T' xs' d' vr vn m =>
     rw [e] at ho
     refine ⟨by rw [eν]; exact ho.1, ?_⟩
     rw [eν]
     exact (Deep.cast (N:=N') (N':=N2) hC (fun _ h=>h) (fun _ _=>rfl) _ _ _ _ _ _ ho.2 (fun _ _=>rfl)).blkEq eF
    | mp K V es =>
     have hm:=Q13r e (by simp)
     have hn:=List.all_eq_true.1 hbox _ hm
     simp [swBox] at hn
    | gone=>rw [e] at ho; exact fun b hb=>ho b ((eF b).1 hb)
    | out=>rw [e] at ho; exact fun b hb=>ho b ((eF b).1 hb)
 ·rw [ob]
  rcases hg with ⟨h1,h2,hg⟩ | ⟨rfl,hg⟩
  ·have eν : N2.ν r = N'.ν r:=if_neg h2
   rw [if_neg h1,if_neg h2,eν]
   have:=hH.reg r p v u hg
   cases e : hpOf H' r <;> rw [e] at this <;> exact this
  ·have eν : N2.ν H'.length = N'.ν k:=if_pos rfl
   rw [if_neg nek.symm,if_pos rfl,eν]
   have:=hH.reg k p v u hg
   rw [hrow] at this
   exact this
 ·rw [ob]
  by_cases h1 : r = k
  ·rw [if_pos h1]; trivial
  ·rw [if_neg h1]
   by_cases h2 : r = H'.length
   ·rw [if_pos h2]
    have hf:=hH.full k
    rw [hrow] at hf
    have eν : N2.ν r = N'.ν k:=if_pos h2
    refine ⟨.inr ⟨h2,by rw [eν]; exact hf.1⟩,fun p u q1 q2 q3 q4=>.inr ⟨h2,hf.2 p u q1 q2 q3 (by rw [← eν]; exact q4)⟩⟩
   ·rw [if_neg h2]
    have eν : N2.ν r = N'.ν r:=if_neg h2
    have hf:=hH.full r
    cases e : hpOf H' r with
    | box cs=>rw [e] at hf; exact .inl ⟨h1,h2,by rw [eν]; exact hf⟩
    | mp K V es=>rw [e] at hf; exact .inl ⟨h1,h2,by rw [eν]; exact hf⟩
    | row T' xs' d' vr vn m=>rw [e] at hf; exact ⟨.inl ⟨h1,h2,by rw [eν]; exact hf.1⟩,fun p u q1 q2 q3 q4=>.inl ⟨h1,h2,hf.2 p u q1 q2 q3 (by rw [← eν]; exact q4)⟩⟩
    | gone=>trivial
    | out=>trivial
 ·rcases hg with ⟨_,_,hg⟩ | ⟨_,hg⟩
  ·exact hH.one _ _ _ _ hg
  ·exact hH.one _ _ _ _ hg
 ·rcases h1 with ⟨a1,a2,a3⟩ | ⟨a1,a3⟩ <;> rcases h2 with ⟨b1,b2,b3⟩ | ⟨b1,b3⟩
  ·exact hH.dist r r' b a3 b3
  ·exact absurd (hH.dist r k b a3 b3) a1
  ·exact absurd (hH.dist r' k b b3 a3) b1
  ·exact a1.trans b1.symm
 ·rcases h1 with ⟨_,_,a3⟩ | ⟨_,a3⟩
  ·exact hH.roNot _ _ a3 h2
  ·exact hH.roNot _ _ a3 h2
 ·exact hres N' N2 w' v rC (fun v x hx hv=>hv.noNm hC (N':=N2) (fun r p v u hr hg=>.inl ⟨hr,fun e=>noG p v u (by rw [← e]; exact hg),hg⟩) (fun _ h=>h) 6 hx) hv
 ·have hrk : r ≠ k:=fun e=>by
   have : hpOf ((H'.map (swO k H'.length)).set k .out ++ [.row T xs d 0 0 .no]) r = .out:=by rw [ob,if_pos e]
   simp [stays,this] at hst
  have hrL : r ≠ H'.length:=by omega
  have eν : N2.ν r = N'.ν r:=if_neg hrL
  rw [eν]
  refine hio r hr ?_
  have e1 : hpOf ((H'.map (swO k H'.length)).set k .out ++ [.row T xs d 0 0 .no]) r = swO k H'.length (hpOf H' r):=by rw [ob,if_neg hrk,if_neg hrL]
  simp only [stays,e1] at hst ⊢
  cases e : hpOf H' r <;> rw [e] at hst <;> exact hst
 ·rcases hb with ⟨_,_,hb⟩ | ⟨_,hb⟩
  ·exact hF _ _ hb
  ·exact hF _ _ hb
theorem Qewq.moveAt (hC : CodOK P C) {g : FuncId} {args : List (AV Ty El)} {H : List (AObj Ty El)} {res : AV Ty El} {H' : List (AObj Ty El)} {T : Ty} {xs : List (El T)} {d : Nat} (h : Qewq P C g args H res H') (k : Nat) (hk : k < H'.length) (hlen : H.length ≤ H'.length)
  (hrow : hpOf H' k = .row T xs d 0 0 .no) (hres : noNm k 6 res = true) (hbox : H'.all swBox = true) : Qewq P C g args H res ((H'.map (swO k H'.length)).set k .out ++ [.row T xs d 0 0 .no]) :=
 h.moveG hC k hk hlen hrow (fun N N2 w v _ h2 hv=>h2 v res hres hv) hbox
theorem Qewq.moveAgg (hC : CodOK P C) {g : FuncId} {args : List (AV Ty El)} {H : List (AObj Ty El)} {cs : List (AV Ty El)} {H' : List (AObj Ty El)} {T : Ty} {xs : List (El T)} {d : Nat} (h : Qewq P C g args H (.agg cs) H') (k : Nat) (hk : k < H'.length) (hlen : H.length ≤ H'.length)
  (hrow : hpOf H' k = .row T xs d 0 0 .no) (hres : cs.all swOk = true) (hbox : H'.all swBox = true) : Qewq P C g args H (.agg (cs.map (swC k H'.length))) ((H'.map (swO k H'.length)).set k .out ++ [.row T xs d 0 0 .no]) :=
 h.moveG hC k hk hlen hrow (fun N N2 w v h1 _ hv=>by
  cases hv with
  | agg vs cs hl hv =>
   refine .agg vs _ (by simpa using hl) (fun j u c hu hc=>?_)
   rw [List.getElem?_map] at hc
   cases e : cs[j]? with
   | none=>rw [e] at hc; cases hc
   | some c0 =>
    rw [e] at hc
    simp only [Option.map_some,Option.some.injEq] at hc
    subst hc
    exact h1 u c0 (List.all_eq_true.1 hres c0 (List.mem_of_getElem? e)) (hv j u c0 hu e)) hbox
theorem Qewq.args {g : FuncId} {args args' : List (AV Ty El)} {H : List (AObj Ty El)} {res : AV Ty El} {H' : List (AObj Ty El)} (h : Qewq P C g args H res H') (hl : args'.length = args.length)
  (hw : ∀ (j : Nat) x x',args[j]? = some x → args'[j]? = some x' → ∀ (N : Nm) (w : World) (v : Value),RepA C N w v x' → RepA C N w v x) : Qewq P C g args' H res H':=by
 intro w N vs hN hsz hrep
 refine h w N vs hN (hsz.trans hl) (fun j v x hv hx=>?_)
 have hj : j < args'.length:=by rw [hl]; exact (List.getElem?_eq_some_iff.1 hx).1
 exact hw j x _ hx (List.getElem?_eq_getElem hj) N w v (hrep j v _ hv (List.getElem?_eq_getElem hj))
end
end Lx
