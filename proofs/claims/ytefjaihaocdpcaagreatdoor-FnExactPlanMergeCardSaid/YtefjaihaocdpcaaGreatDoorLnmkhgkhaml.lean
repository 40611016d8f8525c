/- The law of PlanMerge, exact. -/
import Derived.Test.YtefjaihaocdpcaaGreatDoorLcifbcpdpma
set_option linter.unusedVariables false
set_option linter.unusedSimpArgs false
set_option maxRecDepth 4000
namespace Lx
open Go Go.Proofs
noncomputable def Qpi9 : RE Ty El:=⟨Tryz.prog,CP,[(Qnld,Q6ij),(Q0u8,Qhik),(Qb03,Q7dj),(Qqd1,Q1mq),(Qfif,Qe1d),(Qlm5,Qiah),(Qae1,Qwp6)],Tryz.f13,0,[],[]⟩
theorem Q0jk : REOK Qpi9 Qj9a:=⟨CP_ok,(TabOK.cons Qdd6 (TabOK.cons Qlxs (TabOK.cons Qyq0 (TabOK.cons Qg6m (TabOK.cons Qjdi (TabOK.cons Qtoj (TabOK.cons Qdi2 Qye1))))))),by kernel_rfl,by kernel_rfl⟩
theorem Q8s1 (ks : List Kind) (ps : List Point) (es : List Entry) (ks2 : List Kind) (ps2 : List Point) (es2 : List Entry) : aRun Qpi9 600 false (body0 Qpi9.fn) (Q4gm Qpi9.fn [.agg [.sl .lkind ks,.sl .lpoint ps,.sl .lentry es],.agg [.sl .lkind ks2,.sl .lpoint ps2,.sl .lentry es2]] []) =
 ifb (Q72n ks ps es && Q09a (1048576 : Int)) (ifb (decide (szL (1048576 : Int) (Qqpg ks ps es) < (0 : Int))) (some (.ret (.bool true) [])) (ifb (Q72n ks2 ps2 es2 && Q09a (szL (1048576 : Int) (Qqpg ks ps es))) (ifb (decide (szL (szL (1048576 : Int) (Qqpg ks ps es)) (Qqpg ks2 ps2 es2) < (0 : Int))) (some (.ret (.bool true) [])) (ifb (Q8cx ks ps es) (ifb (Q8cx ks2 ps2 es2) (ifb (mgK ks ps es ks2 ps2 es2) (ifb (Q8cx ks ps es) (ifb (Q8cx ks2 ps2 es2) (ifb (mgK ks ps es ks2 ps2 es2) (ifb (Q8cx (Qjop ks ps es ks2 ps2 es2).ks (Qjop ks ps es ks2 ps2 es2).ps (Qjop ks ps es ks2 ps2 es2).es) (ifb (!(decide ((Qjop ks ps es ks2 ps2 es2).ks = (Qjop ks ps es ks2 ps2 es2).ks) && (decide ((Qjop ks ps es ks2 ps2 es2).ps = (Qjop ks ps es ks2 ps2 es2).ps) && true) && (decide ((Qjop ks ps es ks2 ps2 es2).es = (Qjop ks ps es ks2 ps2 es2).es) && true))) (some (.ret (.bool false) [])) (ifb ((Qjop ks ps es ks2 ps2 es2).code != (Qjop ks ps es ks2 ps2 es2).code) (some (.ret (.bool false) [])) (ifb (Q8cx ks ps es) (ifb (Q8cx ks ps es) (ifb (!(decide (ks = ks) && (decide (ps = ps) && true) && (decide (es = es) && true))) (some (.ret (.bool false) [])) (ifb (Q8cx ks2 ps2 es2) (ifb (Q8cx ks2 ps2 es2) (ifb (!(decide (ks2 = ks2) && (decide (ps2 = ps2) && true) && (decide (es2 = es2) && true))) (some (.ret (.bool false) [])) (ifb (Q8cx ks ps es) (ifb (Q8cx ks2 ps2 es2) (ifb (decide ((Qcns es2 (Qf7t ps2 (Qkja ks2 (Qcns es (Qf7t ps (Qkja ks (1 : Int)).snd).snd).snd).snd).snd).snd < (0 : Int))) (some (.ret (.bool false) [])) (ifb (Q8cx (Qjop ks ps es ks2 ps2 es2).ks (Qjop ks ps es ks2 ps2 es2).ps (Qjop ks ps es ks2 ps2 es2).es) (ifb (!(decide ((Qjop ks ps es ks2 ps2 es2).ks = (Qjop ks ps es ks2 ps2 es2).ks) && (decide ((Qjop ks ps es ks2 ps2 es2).ps = (Qjop ks ps es ks2 ps2 es2).ps) && true) && (decide ((Qjop ks ps es ks2 ps2 es2).es = (Qjop ks ps es ks2 ps2 es2).es) && true))) (some (.ret (.bool false) [])) (ifb ((Qjop ks ps es ks2 ps2 es2).code != (Qjop ks ps es ks2 ps2 es2).code) (some (.ret (.bool false) [])) (ifb (Q8cx (Qjop ks ps es ks2 ps2 es2).ks (Qjop ks ps es ks2 ps2 es2).ps (Qjop ks ps es ks2 ps2 es2).es) (ifb (Q8cx (Qkja (Qjop ks ps es ks2 ps2 es2).ks (1 : Int)).fst (Qf7t (Qjop ks ps es ks2 ps2 es2).ps (Qkja (Qjop ks ps es ks2 ps2 es2).ks (1 : Int)).snd).fst (Qcns (Qjop ks ps es ks2 ps2 es2).es (Qf7t (Qjop ks ps es ks2 ps2 es2).ps (Qkja (Qjop ks ps es ks2 ps2 es2).ks (1 : Int)).snd).snd).fst) (ifb (decide ((Qsoy (Qkja (Qjop ks ps es ks2 ps2 es2).ks (1 : Int)).fst (Qf7t (Qjop ks ps es ks2 ps2 es2).ps (Qkja (Qjop ks ps es ks2 ps2 es2).ks (1 : Int)).snd).fst (Qcns (Qjop ks ps es ks2 ps2 es2).es (Qf7t (Qjop ks ps es ks2 ps2 es2).ps (Qkja (Qjop ks ps es ks2 ps2 es2).ks (1 : Int)).snd).snd).fst (1 : Int)).getD (-1 : Int) < (0 : Int))) (some (.ret (.bool false) [])) (ifb ((Qsoy (Qkja (Qjop ks ps es ks2 ps2 es2).ks (1 : Int)).fst (Qf7t (Qjop ks ps es ks2 ps2 es2).ps (Qkja (Qjop ks ps es ks2 ps2 es2).ks (1 : Int)).snd).fst (Qcns (Qjop ks ps es ks2 ps2 es2).es (Qf7t (Qjop ks ps es ks2 ps2 es2).ps (Qkja (Qjop ks ps es ks2 ps2 es2).ks (1 : Int)).snd).snd).fst (1 : Int)).getD (-1 : Int) != (Qcns (Qjop ks ps es ks2 ps2 es2).es (Qf7t (Qjop ks ps es ks2 ps2 es2).ps (Qkja (Qjop ks ps es ks2 ps2 es2).ks (1 : Int)).snd).snd).snd) (some (.ret (.bool false) [])) (ifb (Q8cx ks ps es) (ifb (Q8cx ks2 ps2 es2) (ifb (mgK ks ps es ks2 ps2 es2) (ifb (Q8cx (Qjop ks ps es ks2 ps2 es2).ks (Qjop ks ps es ks2 ps2 es2).ps (Qjop ks ps es ks2 ps2 es2).es) (ifb (!(decide ((Qjop ks ps es ks2 ps2 es2).ks = (Qjop ks ps es ks2 ps2 es2).ks) && (decide ((Qjop ks ps es ks2 ps2 es2).ps = (Qjop ks ps es ks2 ps2 es2).ps) && true) && (decide ((Qjop ks ps es ks2 ps2 es2).es = (Qjop ks ps es ks2 ps2 es2).es) && true))) (some (.ret (.bool false) [])) (ifb ((Qjop ks ps es ks2 ps2 es2).code != (Qjop ks ps es ks2 ps2 es2).code) (some (.ret (.bool false) [])) (ifb (Q8cx (Qkja (Qjop ks ps es ks2 ps2 es2).ks (1 : Int)).fst (Qf7t (Qjop ks ps es ks2 ps2 es2).ps (Qkja (Qjop ks ps es ks2 ps2 es2).ks (1 : Int)).snd).fst (Qcns (Qjop ks ps es ks2 ps2 es2).es (Qf7t (Qjop ks ps es ks2 ps2 es2).ps (Qkja (Qjop ks ps es ks2 ps2 es2).ks (1 : Int)).snd).snd).fst) (ifb (decide ((Qsoy (Qkja (Qjop ks ps es ks2 ps2 es2).ks (1 : Int)).fst (Qf7t (Qjop ks ps es ks2 ps2 es2).ps (Qkja (Qjop ks ps es ks2 ps2 es2).ks (1 : Int)).snd).fst (Qcns (Qjop ks ps es ks2 ps2 es2).es (Qf7t (Qjop ks ps es ks2 ps2 es2).ps (Qkja (Qjop ks ps es ks2 ps2 es2).ks (1 : Int)).snd).snd).fst (1 : Int)).getD (-1 : Int) < (0 : Int))) (some (.ret (.bool false) [])) (ifb ((Qsoy (Qkja (Qjop ks ps es ks2 ps2 es2).ks (1 : Int)).fst (Qf7t (Qjop ks ps es ks2 ps2 es2).ps (Qkja (Qjop ks ps es ks2 ps2 es2).ks (1 : Int)).snd).fst (Qcns (Qjop ks ps es ks2 ps2 es2).es (Qf7t (Qjop ks ps es ks2 ps2 es2).ps (Qkja (Qjop ks ps es ks2 ps2 es2).ks (1 : Int)).snd).snd).fst (1 : Int)).getD (-1 : Int) != (Qcns (Qjop ks ps es ks2 ps2 es2).es (Qf7t (Qjop ks ps es ks2 ps2 es2).ps (Qkja (Qjop ks ps es ks2 ps2 es2).ks (1 : Int)).snd).snd).snd) (some (.ret (.bool false) [])) (some (.ret (.bool true) [])))) (none)))) (none)) (none)) (none)) (none)))) (none)) (none)))) (none))) (none)) (none))) (none)) (none))) (none)) (none)))) (none)) (none)) (none)) (none)) (none)) (none)) (none))) (none))) (none):=by kernel_rfl
theorem Q0bl (ks : List Kind) (ps : List Point) (es : List Entry) (ks2 : List Kind) (ps2 : List Point) (es2 : List Entry) (hg : (Q72n ks ps es && Q72n ks2 ps2 es2) = true) : Qewq Tryz.prog CP Qj9a [.agg [.sl .lkind ks,.sl .lpoint ps,.sl .lentry es],.agg [.sl .lkind ks2,.sl .lpoint ps2,.sl .lentry es2]] [] (.bool true) []:=by
 refine Qewq.of Q0jk (by kernel_rfl) (Q8s1 ks ps es ks2 ps2 es2) ?_
 have yes : Sat Qpi9 Qj9a (.bool true) [] (some (.ret (.bool true) [])):=Sat.ret rfl rfl
 simp only [Bool.and_eq_true] at hg
 obtain ⟨hg,hg2⟩:=hg
 rw [show (Q72n ks ps es && Q09a 1048576) = true by rw [hg]; rfl]
 simp only [Qd8q]
 by_cases c : (1048576 : Int) - ((Qqpg ks ps es : Nat) : Int) < 0
 ·rw [Q5hg c]; exact yes
 have hl:=Qwiu (left:=1048576) rfl c
 have hw : Qqpg ks ps es ≤ 1048576:=by omega
 rw [Qwi4 c,decide_eq_false c,hg2,hl]
 simp only [Qk7y,Bool.and_self,Qd8q]
 by_cases c2 : (1048576 : Int) - ((Qqpg ks ps es : Nat) : Int) - ((Qqpg ks2 ps2 es2 : Nat) : Int) < 0
 ·rw [Q5hg c2]; exact yes
 rw [Qwi4 c2,decide_eq_false c2]
 have hw2 : Qqpg ks2 ps2 es2 ≤ 1048576:=by omega
 obtain ⟨s1,s2,s3,s4,s5⟩:=Qhko hw
 obtain ⟨u1,u2,u3,u4,u5⟩:=Qhko hw2
 have hgb : goodB ks ps es = true:=by rw [goodB,s1,s2]; rfl
 have hgb2 : goodB ks2 ps2 es2 = true:=by rw [goodB,u1,u2]; rfl
 have hmk : mgK ks ps es ks2 ps2 es2 = true:=by rw [mgK,hgb,hgb2]; rfl
 obtain ⟨k1,k2,k3⟩:=Qjtt hw
 obtain ⟨m1,m2,m3⟩:=Qjtt hw2
 obtain ⟨_,k4⟩:=Qjms k1 k2 k3
 have k5:=Qi40 k1 k2 k3
 have k6:=Qbh9 k4 k5 m1 m2 m3
 obtain ⟨hr,j1,j2,j3⟩:=Q186 hgb hgb2
 generalize Qjop ks ps es ks2 ps2 es2 = r at hr j1 j2 j3 ⊢
 simp only [goodB,Bool.and_eq_true] at hr
 obtain ⟨q1,q2⟩:=Qjms j1 j2 j3
 have t2:=mk_t hr.2 1 (Qkja r.ks 1).2 (Qf7t r.ps (Qkja r.ks 1).2).2
 have d1:=decide_eq_false (Int.not_lt.2 k6)
 have d2 : decide ((Qcns r.es (Qf7t r.ps (Qkja r.ks 1).2).2).2 < 0) = false:=decide_eq_false (by omega)
 simp only [Qk7y,s1,u1,hmk,hr.2,t2,d1,d2,q1,Option.getD_some,Bool.and_self,Bool.and_true,Qd8q,bne_self_eq_false,decide_true,Bool.not_true]
 exact yes
end Lx
