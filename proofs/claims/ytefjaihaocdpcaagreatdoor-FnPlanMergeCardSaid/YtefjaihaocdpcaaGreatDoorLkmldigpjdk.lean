/- Meanings: draws. -/
import Derived.Test.YtefjaihaocdpcaaGreatDoorLnjkjjjdplh
import Derived.Test.YtefjaihaocdpcaaGreatDoorLgdgoajfkgb
set_option linter.unusedVariables false
set_option linter.unusedSimpArgs false
namespace Lx
open Go Go.Proofs
def rdK (bs : List Int) (p : Int) : Bool:=Qf9o bs && (decide (0 ≤ p) && decide (p ≤ 900000))
theorem Qosd {bs : List Int} {p q : Int} (h : rdK bs p = true) (h1 : p ≤ q) (h2 : q ≤ p + 90000) : rdOk bs q = true:=by
 simp only [rdK,rdOk,posOk,qaT,qdT] at h ⊢
 exact ⟨h.1,by omega,by omega⟩
theorem Q8s4 {q : Int} (h1 : 0 ≤ q) (h2 : q < 1000000) : posOk q = true:=by
 simp only [posOk,qaT,qdT]; exact ⟨h1,h2⟩
noncomputable def dDec (k : Nat) (n : Int) : Str:=drawn (fun x=>Qewq Tryz.prog CP Qstj [.int .i64 n] [] (.str x) [] ∧ x.length ≤ k + 1)
noncomputable def E_dec (k : Nat) : Ent Ty El:=⟨[.ro],0,fun a h=>match a,h with
 | [.int .i64 n],[]=>some (decide (0 ≤ n) && decide (n < 10 ^ (k + 1)),.str (dDec k n),[])
 | _,_=>none⟩
noncomputable def Qjla : Ent Ty El:=E_dec 0
noncomputable def Qgge : Ent Ty El:=E_dec 1
noncomputable def Qggn : Ent Ty El:=E_dec 2
noncomputable def Qcmq : Ent Ty El:=E_dec 3
noncomputable def Qmce : Ent Ty El:=E_dec 4
noncomputable def dMany (s : Str) (n : Int) : Str:=drawn (fun x=>Qewq Tryz.prog CP Q1eg [.str s,.int .i64 n] [] (.str x) [] ∧ x.length ≤ 4096)
noncomputable def Qvc4 : Ent Ty El:=⟨[.ro,.ro],0,fun a h=>match a,h with
 | [.str s,.int .i64 n],[]=>some (decide (s.length ≤ 1) && decide (n < 64),.str (dMany s n),[])
 | _,_=>none⟩
def bad12 : List Str:=[[],[110,111,110,101],[53,32,52],[48,32,49,48,48,48,49],[49,48,48,48,48,32,49,48,48,48,48],[48,49],[48],[55],[97,108,102,97],[97,108,102,97,32,97,108,102,97],[97,108,102,97,32,98,114,97,118,32],[111,112,101,110,32],[97,108,102,97,32,98,114,97,118,32,97,108,102,97,32,98,114,97,118,32,97,108,102,97,32,98,114,97,118,32,97,108,102,97,32,98,114,97,118,32,97,108,102,97],[97,49,32],[10],[53,32,53,32,53]]
def Qwn9 : Ent Ty El:=⟨[.io],0,fun a h=>match a,h with
 | [.ptr 0 0],[.box [.sl .u8 bs,.int .i64 p]]=>some (rdOk bs p,.str (ofV bs p bad12),[.box [.sl .u8 bs,.int .i64 (p + 1)]])
 | _,_=>none⟩
structure BaseP where
 ks : List Kind
 ps : List Point
 p : Int
 deriving Inhabited
def Qn40 (p : Int) (x : BaseP) : Prop:=Qib4 x.ks x.ps = true ∧ 1 ≤ x.ks.length ∧ 1 ≤ x.ps.length ∧ p ≤ x.p ∧ x.p ≤ p + 20
noncomputable def dBase (bs : List Int) (p : Int) : BaseP:=drawn (fun x=>Qewq Tryz.prog CP Qwua [.ptr 0 0] [.box [.sl .u8 bs,.int .i64 p]] (.agg [.sl .kind x.ks,.sl .point x.ps]) [.box [.sl .u8 bs,.int .i64 x.p]] ∧ Qn40 p x)
noncomputable def Qu46 : Ent Ty El:=⟨[.io],0,fun a h=>match a,h with
 | [.ptr 0 0],[.box [.sl .u8 bs,.int .i64 p]]=>some (rdK bs p,.agg [.sl .kind (dBase bs p).ks,.sl .point (dBase bs p).ps],[.box [.sl .u8 bs,.int .i64 (dBase bs p).p]])
 | _,_=>none⟩
def Qf10 : List Str:=[[97,108,102,97],[98,114,97,118],[99,104,97,114],[100,45,52],[101,99,104,111],[120]]
def lastN (prev : Option Str) (ps : List Point) : Option Str:=match ps.getLast? with
 | some p=>some p.name
 | none=>prev
theorem Q9y8 (x : Point) : ∀ (ps seen : List Point) (prev : Option Str),Qaym seen prev (ps ++ [x]) = (Qaym seen prev ps && (x.ok && (Qe7t (lastN prev ps) x.name && Q343 (seen ++ ps) x)))
 | [],seen,prev=>by simp [Qaym,lastN]
 | p :: ps,seen,prev=>by
  have e : lastN prev (p :: ps) = lastN (some p.name) ps:=by
   cases ps with
   | nil=>rfl
   | cons q r =>
    obtain ⟨y,hy⟩ : ∃ y,(q :: r).getLast? = some y:=Option.isSome_iff_exists.1 (by simp)
    simp [lastN,List.getLast?_cons_cons,hy]
  simp only [List.cons_append,Qaym,Q9y8 x ps,e,Bool.and_assoc,List.append_assoc,List.cons_append,List.nil_append]
def PI (ps : List Point) (i : Nat) : Prop:=Qaym [] none ps = true ∧ ps.length ≤ i ∧ ∀ j n,i ≤ j → Qf10[j]? = some n → Qe7t (lastN none ps) n = true
theorem PI.next {ps : List Point} {i : Nat} (h : PI ps i) : PI ps (i + 1):=⟨h.1,by have:=h.2.1; omega,fun j n hj=>h.2.2 j n (by omega)⟩
theorem Ql7z : ∀ i,i < 6 → ∀ j,j < 6 → i < j → Q7zj (Qf10.getD i []) (Qf10.getD j []) = true:=by decide
theorem Qlz1 : ∀ i,i < 6 → Q2rq (Qf10.getD i []) = true:=by decide
theorem PI.add {ps : List Point} {i : Nat} {x y : Int} (h : PI ps i) (hi : i < 6) (hx : 0 ≤ x ∧ x < 16) (hy : 0 ≤ y ∧ y < 16) (hf : Q343 ps ⟨Qf10.getD i [],x,y⟩ = true) : PI (ps ++ [⟨Qf10.getD i [],x,y⟩]) (i + 1):=by
 refine ⟨?_,by simp; exact h.2.1,fun j n hj hn=>?_⟩
 ·rw [Q9y8,h.1,List.nil_append,hf,h.2.2 i (Qf10.getD i []) (Nat.le_refl _) (by rw [qgD,qeG (by exact hi)]; rfl)]
  simp only [Point.ok,Qlz1 i hi,inR,Bool.true_and,Bool.and_true,qaT,qdT]
  omega
 ·have hj6 : j < 6:=(qeS.1 hn).1
  have e : Qf10.getD j [] = n:=by rw [qgD,hn]; rfl
  simp only [lastN,qlC,Qe7t]
  rw [← e]
  exact Ql7z i hi j hj6 (by omega)
end Lx
set_option maxRecDepth 4000
namespace Lx
open Go Go.Proofs
noncomputable def Qopx : RE Ty El:=⟨Tryz.prog,CP,[],Tryz.f109,0,[],[]⟩
theorem Q58o : REOK Qopx Qstj:=⟨CP_ok,Qye1,by kernel_rfl,by kernel_rfl⟩
theorem Qwjr (n : Int) : aRun Qopx 600 false (body0 Qopx.fn) (Q4gm Qopx.fn [.int .i64 n] []) =
 ifb (decide (n < 10)) (some (.ret (.str (List.map (fun n=>UInt8.ofNat n.toNat) (List.map (fun n=>n) [IntKind.u8.wrap (IntKind.i64.wrap ((48 : Int) + n))]))) [])) (none):=by kernel_rfl
theorem Qhwu (n : Int) (hg : (decide (0 ≤ n) && decide (n < 10 ^ (0 + 1))) = true) : Qewq Tryz.prog CP Qstj [.int .i64 n] [] (.str (dDec 0 n)) [] ∧ (dDec 0 n).length ≤ 0 + 1:=by
 simp only [qaT,qdT] at hg
 obtain ⟨g0,g1⟩:=hg
 have hE : CallE Qopx.P Qopx.C Qstj [.int .i64 n] [] (fun v h=>∃ x : Str,v = .str x ∧ h = [] ∧ x.length ≤ 0 + 1):=CallE.of Q58o (by kernel_rfl) (Qwjr n) (SatE.ifb (fun _=>SatE.ret ⟨_,rfl,rfl,by simp⟩) (fun e=>by
  have:=of_decide_eq_false e; omega))
 obtain ⟨v,H',h,x,rfl,rfl,hx⟩:=hE
 exact Qk78 (p:=fun x=>Qewq Tryz.prog CP Qstj [.int .i64 n] [] (.str x) [] ∧ x.length ≤ 0 + 1) ⟨x,h,hx⟩
theorem Qb4o (n : Int) (hg : (decide (0 ≤ n) && decide (n < 10 ^ (0 + 1))) = true) : Qewq Tryz.prog CP Qstj [.int .i64 n] [] (.str (dDec 0 n)) []:=by
 exact (Qhwu n hg).1
theorem Qu02 : EntOK Tryz.prog CP Qstj Qjla:=by
 refine ⟨eob (by kernel_rfl),fun _ _ _ _ h=>?_⟩
 simp only [Qjla,E_dec] at h
 split at h
 ·obtain ⟨hg,rfl,rfl⟩:=eoh h
  exact Qb4o _ hg
 ·cases h

noncomputable def Qq8c : RE Ty El:=⟨Tryz.prog,CP,[(Qstj,Qjla)],Tryz.f109,0,[],[]⟩
theorem Qikn : REOK Qq8c Qstj:=⟨CP_ok,(TabOK.cons Qu02 Qye1),by kernel_rfl,by kernel_rfl⟩
theorem Qjex (n : Int) : aRun Qq8c 600 false (body0 Qq8c.fn) (Q4gm Qq8c.fn [.int .i64 n] []) =
 ifb (decide (n < 10)) (some (.ret (.str (List.map (fun n=>UInt8.ofNat n.toNat) (List.map (fun n=>n) [IntKind.u8.wrap (IntKind.i64.wrap ((48 : Int) + n))]))) [])) (ifb (decide (0 ≤ IntKind.i64.wrap (n.tdiv (10 : Int))) && decide (IntKind.i64.wrap (n.tdiv (10 : Int)) < (10 : Int) ^ ((0 : Nat) + (1 : Nat)))) (ifb (decide (List.length (dDec (0 : Nat) (IntKind.i64.wrap (n.tdiv (10 : Int)))) + (List.map (fun n=>UInt8.ofNat n.toNat) (List.map (fun n=>n) [IntKind.u8.wrap (IntKind.i64.wrap ((48 : Int) + n.tmod (10 : Int)))])).length ≤ (9223372036854775807 : Nat))) (some (.ret (.str (dDec (0 : Nat) (IntKind.i64.wrap (n.tdiv (10 : Int))) ++ List.map (fun n=>UInt8.ofNat n.toNat) (List.map (fun n=>n) [IntKind.u8.wrap (IntKind.i64.wrap ((48 : Int) + n.tmod (10 : Int)))]))) [])) (none)) (none)):=by kernel_rfl
theorem Qgme (n : Int) (hg : (decide (0 ≤ n) && decide (n < 10 ^ (1 + 1))) = true) : Qewq Tryz.prog CP Qstj [.int .i64 n] [] (.str (dDec 1 n)) [] ∧ (dDec 1 n).length ≤ 1 + 1:=by
 simp only [qaT,qdT] at hg
 obtain ⟨g0,g1⟩:=hg
 have hE : CallE Qq8c.P Qq8c.C Qstj [.int .i64 n] [] (fun v h=>∃ x : Str,v = .str x ∧ h = [] ∧ x.length ≤ 1 + 1):=CallE.of Qikn (by kernel_rfl) (Qjex n) (SatE.ifb (fun _=>SatE.ret ⟨_,rfl,rfl,by simp⟩) (fun e=>by
  have he:=of_decide_eq_false e
  have h1 : 0 ≤ n.tdiv 10:=Int.tdiv_nonneg g0 (by omega)
  have h2 : n.tdiv 10 < 10 ^ 1:=by rw [Int.tdiv_eq_ediv_of_nonneg g0]; omega
  have hw : IntKind.i64.wrap (n.tdiv 10) = n.tdiv 10:=Qbrg (by omega) (by omega)
  have hl:=(Qhwu (n.tdiv 10) (by simp only [qaT,qdT]; exact ⟨h1,h2⟩)).2
  rw [hw]
  exact SatE.need (by simp only [qaT,qdT]; exact ⟨h1,h2⟩) (SatE.need (by simp; omega) (SatE.ret ⟨_,rfl,rfl,by simp; omega⟩))))
 obtain ⟨v,H',h,x,rfl,rfl,hx⟩:=hE
 exact Qk78 (p:=fun x=>Qewq Tryz.prog CP Qstj [.int .i64 n] [] (.str x) [] ∧ x.length ≤ 1 + 1) ⟨x,h,hx⟩
theorem Qvu3 (n : Int) (hg : (decide (0 ≤ n) && decide (n < 10 ^ (1 + 1))) = true) : Qewq Tryz.prog CP Qstj [.int .i64 n] [] (.str (dDec 1 n)) []:=by
 exact (Qgme n hg).1
theorem Qq8j : EntOK Tryz.prog CP Qstj Qgge:=by
 refine ⟨eob (by kernel_rfl),fun _ _ _ _ h=>?_⟩
 simp only [Qgge,E_dec] at h
 split at h
 ·obtain ⟨hg,rfl,rfl⟩:=eoh h
  exact Qvu3 _ hg
 ·cases h

noncomputable def Qr71 : RE Ty El:=⟨Tryz.prog,CP,[(Qstj,Qgge)],Tryz.f109,0,[],[]⟩
theorem Q1ar : REOK Qr71 Qstj:=⟨CP_ok,(TabOK.cons Qq8j Qye1),by kernel_rfl,by kernel_rfl⟩
theorem Q3yy (n : Int) : aRun Qr71 600 false (body0 Qr71.fn) (Q4gm Qr71.fn [.int .i64 n] []) =
 ifb (decide (n < 10)) (some (.ret (.str (List.map (fun n=>UInt8.ofNat n.toNat) (List.map (fun n=>n) [IntKind.u8.wrap (IntKind.i64.wrap ((48 : Int) + n))]))) [])) (ifb (decide (0 ≤ IntKind.i64.wrap (n.tdiv (10 : Int))) && decide (IntKind.i64.wrap (n.tdiv (10 : Int)) < (10 : Int) ^ ((1 : Nat) + (1 : Nat)))) (ifb (decide (List.length (dDec (1 : Nat) (IntKind.i64.wrap (n.tdiv (10 : Int)))) + (List.map (fun n=>UInt8.ofNat n.toNat) (List.map (fun n=>n) [IntKind.u8.wrap (IntKind.i64.wrap ((48 : Int) + n.tmod (10 : Int)))])).length ≤ (9223372036854775807 : Nat))) (some (.ret (.str (dDec (1 : Nat) (IntKind.i64.wrap (n.tdiv (10 : Int))) ++ List.map (fun n=>UInt8.ofNat n.toNat) (List.map (fun n=>n) [IntKind.u8.wrap (IntKind.i64.wrap ((48 : Int) + n.tmod (10 : Int)))]))) [])) (none)) (none)):=by kernel_rfl
theorem Q0hm (n : Int) (hg : (decide (0 ≤ n) && decide (n < 10 ^ (2 + 1))) = true) : Qewq Tryz.prog CP Qstj [.int .i64 n] [] (.str (dDec 2 n)) [] ∧ (dDec 2 n).length ≤ 2 + 1:=by
 simp only [qaT,qdT] at hg
 obtain ⟨g0,g1⟩:=hg
 have hE : CallE Qr71.P Qr71.C Qstj [.int .i64 n] [] (fun v h=>∃ x : Str,v = .str x ∧ h = [] ∧ x.length ≤ 2 + 1):=CallE.of Q1ar (by kernel_rfl) (Q3yy n) (SatE.ifb (fun _=>SatE.ret ⟨_,rfl,rfl,by simp⟩) (fun e=>by
  have he:=of_decide_eq_false e
  have h1 : 0 ≤ n.tdiv 10:=Int.tdiv_nonneg g0 (by omega)
  have h2 : n.tdiv 10 < 10 ^ 2:=by rw [Int.tdiv_eq_ediv_of_nonneg g0]; omega
  have hw : IntKind.i64.wrap (n.tdiv 10) = n.tdiv 10:=Qbrg (by omega) (by omega)
  have hl:=(Qgme (n.tdiv 10) (by simp only [qaT,qdT]; exact ⟨h1,h2⟩)).2
  rw [hw]
  exact SatE.need (by simp only [qaT,qdT]; exact ⟨h1,h2⟩) (SatE.need (by simp; omega) (SatE.ret ⟨_,rfl,rfl,by simp; omega⟩))))
 obtain ⟨v,H',h,x,rfl,rfl,hx⟩:=hE
 exact Qk78 (p:=fun x=>Qewq Tryz.prog CP Qstj [.int .i64 n] [] (.str x) [] ∧ x.length ≤ 2 + 1) ⟨x,h,hx⟩
theorem Qy0z (n : Int) (hg : (decide (0 ≤ n) && decide (n < 10 ^ (2 + 1))) = true) : Qewq Tryz.prog CP Qstj [.int .i64 n] [] (.str (dDec 2 n)) []:=by
 exact (Q0hm n hg).1
theorem Qfjp : EntOK Tryz.prog CP Qstj Qggn:=by
 refine ⟨eob (by kernel_rfl),fun _ _ _ _ h=>?_⟩
 simp only [Qggn,E_dec] at h
 split at h
 ·obtain ⟨hg,rfl,rfl⟩:=eoh h
  exact Qy0z _ hg
 ·cases h

noncomputable def Qhz0 : RE Ty El:=⟨Tryz.prog,CP,[(Qstj,Qggn)],Tryz.f109,0,[],[]⟩
theorem Q0st : REOK Qhz0 Qstj:=⟨CP_ok,(TabOK.cons Qfjp Qye1),by kernel_rfl,by kernel_rfl⟩
theorem Qehh (n : Int) : aRun Qhz0 600 false (body0 Qhz0.fn) (Q4gm Qhz0.fn [.int .i64 n] []) =
 ifb (decide (n < 10)) (some (.ret (.str (List.map (fun n=>UInt8.ofNat n.toNat) (List.map (fun n=>n) [IntKind.u8.wrap (IntKind.i64.wrap ((48 : Int) + n))]))) [])) (ifb (decide (0 ≤ IntKind.i64.wrap (n.tdiv (10 : Int))) && decide (IntKind.i64.wrap (n.tdiv (10 : Int)) < (10 : Int) ^ ((2 : Nat) + (1 : Nat)))) (ifb (decide (List.length (dDec (2 : Nat) (IntKind.i64.wrap (n.tdiv (10 : Int)))) + (List.map (fun n=>UInt8.ofNat n.toNat) (List.map (fun n=>n) [IntKind.u8.wrap (IntKind.i64.wrap ((48 : Int) + n.tmod (10 : Int)))])).length ≤ (9223372036854775807 : Nat))) (some (.ret (.str (dDec (2 : Nat) (IntKind.i64.wrap (n.tdiv (10 : Int))) ++ List.map (fun n=>UInt8.ofNat n.toNat) (List.map (fun n=>n) [IntKind.u8.wrap (IntKind.i64.wrap ((48 : Int) + n.tmod (10 : Int)))]))) [])) (none)) (none)):=by kernel_rfl
theorem Qn6d (n : Int) (hg : (decide (0 ≤ n) && decide (n < 10 ^ (3 + 1))) = true) : Qewq Tryz.prog CP Qstj [.int .i64 n] [] (.str (dDec 3 n)) [] ∧ (dDec 3 n).length ≤ 3 + 1:=by
 simp only [qaT,qdT] at hg
 obtain ⟨g0,g1⟩:=hg
 have hE : CallE Qhz0.P Qhz0.C Qstj [.int .i64 n] [] (fun v h=>∃ x : Str,v = .str x ∧ h = [] ∧ x.length ≤ 3 + 1):=CallE.of Q0st (by kernel_rfl) (Qehh n) (SatE.ifb (fun _=>SatE.ret ⟨_,rfl,rfl,by simp⟩) (fun e=>by
  have he:=of_decide_eq_false e
  have h1 : 0 ≤ n.tdiv 10:=Int.tdiv_nonneg g0 (by omega)
  have h2 : n.tdiv 10 < 10 ^ 3:=by rw [Int.tdiv_eq_ediv_of_nonneg g0]; omega
  have hw : IntKind.i64.wrap (n.tdiv 10) = n.tdiv 10:=Qbrg (by omega) (by omega)
  have hl:=(Q0hm (n.tdiv 10) (by simp only [qaT,qdT]; exact ⟨h1,h2⟩)).2
  rw [hw]
  exact SatE.need (by simp only [qaT,qdT]; exact ⟨h1,h2⟩) (SatE.need (by simp; omega) (SatE.ret ⟨_,rfl,rfl,by simp; omega⟩))))
 obtain ⟨v,H',h,x,rfl,rfl,hx⟩:=hE
 exact Qk78 (p:=fun x=>Qewq Tryz.prog CP Qstj [.int .i64 n] [] (.str x) [] ∧ x.length ≤ 3 + 1) ⟨x,h,hx⟩
theorem Qero (n : Int) (hg : (decide (0 ≤ n) && decide (n < 10 ^ (3 + 1))) = true) : Qewq Tryz.prog CP Qstj [.int .i64 n] [] (.str (dDec 3 n)) []:=by
 exact (Qn6d n hg).1
theorem Q0nj : EntOK Tryz.prog CP Qstj Qcmq:=by
 refine ⟨eob (by kernel_rfl),fun _ _ _ _ h=>?_⟩
 simp only [Qcmq,E_dec] at h
 split at h
 ·obtain ⟨hg,rfl,rfl⟩:=eoh h
  exact Qero _ hg
 ·cases h

noncomputable def Qrxb : RE Ty El:=⟨Tryz.prog,CP,[(Qstj,Qcmq)],Tryz.f109,0,[],[]⟩
theorem Qe66 : REOK Qrxb Qstj:=⟨CP_ok,(TabOK.cons Q0nj Qye1),by kernel_rfl,by kernel_rfl⟩
theorem Qsny (n : Int) : aRun Qrxb 600 false (body0 Qrxb.fn) (Q4gm Qrxb.fn [.int .i64 n] []) =
 ifb (decide (n < 10)) (some (.ret (.str (List.map (fun n=>UInt8.ofNat n.toNat) (List.map (fun n=>n) [IntKind.u8.wrap (IntKind.i64.wrap ((48 : Int) + n))]))) [])) (ifb (decide (0 ≤ IntKind.i64.wrap (n.tdiv (10 : Int))) && decide (IntKind.i64.wrap (n.tdiv (10 : Int)) < (10 : Int) ^ ((3 : Nat) + (1 : Nat)))) (ifb (decide (List.length (dDec (3 : Nat) (IntKind.i64.wrap (n.tdiv (10 : Int)))) + (List.map (fun n=>UInt8.ofNat n.toNat) (List.map (fun n=>n) [IntKind.u8.wrap (IntKind.i64.wrap ((48 : Int) + n.tmod (10 : Int)))])).length ≤ (9223372036854775807 : Nat))) (some (.ret (.str (dDec (3 : Nat) (IntKind.i64.wrap (n.tdiv (10 : Int))) ++ List.map (fun n=>UInt8.ofNat n.toNat) (List.map (fun n=>n) [IntKind.u8.wrap (IntKind.i64.wrap ((48 : Int) + n.tmod (10 : Int)))]))) [])) (none)) (none)):=by kernel_rfl
theorem Qbt7 (n : Int) (hg : (decide (0 ≤ n) && decide (n < 10 ^ (4 + 1))) = true) : Qewq Tryz.prog CP Qstj [.int .i64 n] [] (.str (dDec 4 n)) [] ∧ (dDec 4 n).length ≤ 4 + 1:=by
 simp only [qaT,qdT] at hg
 obtain ⟨g0,g1⟩:=hg
 have hE : CallE Qrxb.P Qrxb.C Qstj [.int .i64 n] [] (fun v h=>∃ x : Str,v = .str x ∧ h = [] ∧ x.length ≤ 4 + 1):=CallE.of Qe66 (by kernel_rfl) (Qsny n) (SatE.ifb (fun _=>SatE.ret ⟨_,rfl,rfl,by simp⟩) (fun e=>by
  have he:=of_decide_eq_false e
  have h1 : 0 ≤ n.tdiv 10:=Int.tdiv_nonneg g0 (by omega)
  have h2 : n.tdiv 10 < 10 ^ 4:=by rw [Int.tdiv_eq_ediv_of_nonneg g0]; omega
  have hw : IntKind.i64.wrap (n.tdiv 10) = n.tdiv 10:=Qbrg (by omega) (by omega)
  have hl:=(Qn6d (n.tdiv 10) (by simp only [qaT,qdT]; exact ⟨h1,h2⟩)).2
  rw [hw]
  exact SatE.need (by simp only [qaT,qdT]; exact ⟨h1,h2⟩) (SatE.need (by simp; omega) (SatE.ret ⟨_,rfl,rfl,by simp; omega⟩))))
 obtain ⟨v,H',h,x,rfl,rfl,hx⟩:=hE
 exact Qk78 (p:=fun x=>Qewq Tryz.prog CP Qstj [.int .i64 n] [] (.str x) [] ∧ x.length ≤ 4 + 1) ⟨x,h,hx⟩
theorem Qxm3 (n : Int) (hg : (decide (0 ≤ n) && decide (n < 10 ^ (4 + 1))) = true) : Qewq Tryz.prog CP Qstj [.int .i64 n] [] (.str (dDec 4 n)) []:=by
 exact (Qbt7 n hg).1
theorem Qqii : EntOK Tryz.prog CP Qstj Qmce:=by
 refine ⟨eob (by kernel_rfl),fun _ _ _ _ h=>?_⟩
 simp only [Qmce,E_dec] at h
 split at h
 ·obtain ⟨hg,rfl,rfl⟩:=eoh h
  exact Qxm3 _ hg
 ·cases h

noncomputable def Q91e : RE Ty El:=⟨Tryz.prog,CP,[],Tryz.f161,0,[],[(2,[(0,.any),(1,.any),(5,.any)])]⟩
theorem Qk3z : REOK Q91e Q1eg:=⟨CP_ok,Qye1,by kernel_rfl,by kernel_rfl⟩
theorem Qhfw (s : Str) (n : Int) : aRun Q91e 600 false (body0 Q91e.fn) (Q4gm Q91e.fn [.str s,.int .i64 n] []) =
 some (.go (Qu6t Q91e.fn 2) [.str s,.int .i64 n,.str #[].toList] []):=by kernel_rfl
theorem Qolg (x0 : Str) (x1 : Int) (x2 : Str) : aRun Q91e 600 true (Qu6t Q91e.fn 2) (cutSt Q91e.fn (Q1m4 Q91e (Qu6t Q91e.fn 2)) [.str x0,.int .i64 x1,.str x2] []) =
 ifb (decide (x1 > 0)) (ifb (x1.tmod (2 : Int) == (1 : Int)) (ifb (decide (List.length x2 + List.length x0 ≤ (9223372036854775807 : Nat))) (ifb (decide (List.length x0 + List.length x0 ≤ (9223372036854775807 : Nat))) (some (.go (Qu6t Q91e.fn 2) [.str (x0 ++ x0),.int .i64 (IntKind.i64.wrap (x1.tdiv (2 : Int))),.str (x2 ++ x0)] [])) (none)) (none)) (ifb (decide (List.length x0 + List.length x0 ≤ (9223372036854775807 : Nat))) (some (.go (Qu6t Q91e.fn 2) [.str (x0 ++ x0),.int .i64 (IntKind.i64.wrap (x1.tdiv (2 : Int))),.str x2] [])) (none))) (some (.ret (.str x2) [])):=by kernel_rfl
theorem Qor1 : ∀ (d : Nat) (x : Str) (n : Int) (o : Str),n < 2 ^ d → d ≤ 6 → x.length * 2 ^ d ≤ 64 → o.length * 2 ^ d ≤ 64 →
  CutE Q91e Q1eg 2 [.str x,.int .i64 n,.str o] [] (fun v h=>∃ y : Str,v = .str y ∧ h = [] ∧ y.length ≤ 4096):=by
 intro d
 induction d with
 | zero =>
  intro x n o hn hd hx ho
  refine CutE.of Qk3z rfl (Qolg x n o) ?_
  rw [show decide (n > (0 : Int)) = false from decide_eq_false (by simp at hn; omega)]
  exact SatE.ret ⟨_,rfl,rfl,by simp at ho; omega⟩
 | succ d ih =>
  intro x n o hn hd hx ho
  have hp : 2 ^ (d + 1) = 2 * 2 ^ d:=by rw [Nat.pow_succ,Nat.mul_comm]
  have hp1 : 1 ≤ 2 ^ d:=Nat.one_le_two_pow
  have hx' : x.length * 2 ^ d ≤ 32:=by
   have : x.length * 2 ^ (d + 1) = 2 * (x.length * 2 ^ d):=by rw [hp,← Nat.mul_assoc,Nat.mul_comm x.length 2,Nat.mul_assoc]
   omega
  have ho' : o.length * 2 ^ d ≤ 32:=by
   have : o.length * 2 ^ (d + 1) = 2 * (o.length * 2 ^ d):=by rw [hp,← Nat.mul_assoc,Nat.mul_comm o.length 2,Nat.mul_assoc]
   omega
  have hxl : x.length ≤ 32:=Nat.le_trans (Nat.le_mul_of_pos_right _ hp1) hx'
  have hol : o.length ≤ 32:=Nat.le_trans (Nat.le_mul_of_pos_right _ hp1) ho'
  have hxx : (x ++ x).length * 2 ^ d ≤ 64:=by rw [List.length_append,Nat.add_mul]; omega
  have hox : (o ++ x).length * 2 ^ d ≤ 64:=by rw [List.length_append,Nat.add_mul]; omega
  refine CutE.of Qk3z rfl (Qolg x n o) ?_
  refine SatE.ifb (fun h0=>?_) (fun _=>SatE.ret ⟨_,rfl,rfl,by omega⟩)
  have h0:=of_decide_eq_true h0
  have hn' : n < 2 * 2 ^ d:=by have e : (2 : Int) ^ (d + 1) = 2 * 2 ^ d:=(by rw [Int.pow_succ,Int.mul_comm]); rw [e] at hn; exact hn
  have hq : n.tdiv 2 < 2 ^ d:=by rw [Int.tdiv_eq_ediv_of_nonneg (by omega)]; exact Int.ediv_lt_of_lt_mul (by omega) (by rw [Int.mul_comm]; exact hn')
  have hlim : (2 : Int) ^ (d + 1) ≤ 64:=by
   have : d + 1 ≤ 6:=hd
   have:=Nat.pow_le_pow_right (n:=2) (by omega) this
   exact_mod_cast this
  have hw : IntKind.i64.wrap (n.tdiv 2) = n.tdiv 2:=Qbrg (by rw [Int.tdiv_eq_ediv_of_nonneg (by omega)]; omega) (by rw [Int.tdiv_eq_ediv_of_nonneg (by omega)]; omega)
  rw [hw]
  refine SatE.ifb (fun _=>?_) (fun _=>?_)
  ·exact SatE.need (decide_eq_true (by omega)) (SatE.need (decide_eq_true (by omega)) (SatE.cut (ih _ _ _ hq (by omega) hxx hox)))
  ·exact SatE.need (decide_eq_true (by omega)) (SatE.cut (ih _ _ _ hq (by omega) hxx (by omega)))
theorem Q8h3 (s : Str) (n : Int) (hg : (decide (s.length ≤ 1) && decide (n < 64)) = true) : Qewq Tryz.prog CP Q1eg [.str s,.int .i64 n] [] (.str (dMany s n)) []:=by
 simp only [qaT,qdT] at hg
 obtain ⟨g0,g1⟩:=hg
 have hE : CallE Q91e.P Q91e.C Q1eg [.str s,.int .i64 n] [] (fun v h=>∃ y : Str,v = .str y ∧ h = [] ∧ y.length ≤ 4096):=CallE.of Qk3z (by kernel_rfl) (Qhfw s n) (SatE.cut (Qor1 6 s n [] (by omega) (by omega) (by omega) (by simp)))
 obtain ⟨v,H',h,x,rfl,rfl,hx⟩:=hE
 exact (Qk78 (p:=fun x=>Qewq Tryz.prog CP Q1eg [.str s,.int .i64 n] [] (.str x) [] ∧ x.length ≤ 4096) ⟨x,h,hx⟩).1
theorem Q8hv : EntOK Tryz.prog CP Q1eg Qvc4:=by
 refine ⟨eob (by kernel_rfl),fun _ _ _ _ h=>?_⟩
 simp only [Qvc4] at h
 split at h
 ·obtain ⟨hg,rfl,rfl⟩:=eoh h
  exact Q8h3 _ _ hg
 ·cases h

noncomputable def Qxcu : RE Ty El:=⟨Tryz.prog,CP,[(Qchm,Q2vb)],Tryz.f120,1,[],[]⟩
theorem Qa1g : REOK Qxcu Q0nv:=⟨CP_ok,(TabOK.cons Qyvd Qye1),by kernel_rfl,by kernel_rfl⟩
theorem Qamv (bs : List Int) (p : Int) : aRun Qxcu 600 false (body0 Qxcu.fn) (Q4gm Qxcu.fn [.ptr 0 0] [.box [.sl .u8 bs,.int .i64 p]]) =
 ifb (rdOk bs p && decide ((0 : Nat) < [#[].toList, #[(110 : UInt8),(111 : UInt8),(110 : UInt8),(101 : UInt8)].toList, #[(53 : UInt8),(32 : UInt8),(52 : UInt8)].toList, #[(48 : UInt8),(32 : UInt8),(49 : UInt8),(48 : UInt8),(48 : UInt8),(48 : UInt8),(49 : UInt8)].toList, #[(49 : UInt8),(48 : UInt8),(48 : UInt8),(48 : UInt8),(48 : UInt8),(32 : UInt8),(49 : UInt8),(48 : UInt8),(48 : UInt8),(48 : UInt8),(48 : UInt8)].toList, #[(48 : UInt8),(49 : UInt8)].toList, #[(48 : UInt8)].toList, #[(55 : UInt8)].toList, #[(97 : UInt8),(108 : UInt8),(102 : UInt8),(97 : UInt8)].toList, #[(97 : UInt8),(108 : UInt8),(102 : UInt8),(97 : UInt8),(32 : UInt8),(97 : UInt8),(108 : UInt8),(102 : UInt8),(97 : UInt8)].toList, #[(97 : UInt8),(108 : UInt8),(102 : UInt8),(97 : UInt8),(32 : UInt8),(98 : UInt8),(114 : UInt8),(97 : UInt8),(118 : UInt8),(32 : UInt8)].toList, #[(111 : UInt8),(112 : UInt8),(101 : UInt8),(110 : UInt8),(32 : UInt8)].toList, #[(97 : UInt8),(108 : UInt8),(102 : UInt8),(97 : UInt8),(32 : UInt8),(98 : UInt8),(114 : UInt8),(97 : UInt8),(118 : UInt8),(32 : UInt8),(97 : UInt8),(108 : UInt8),(102 : UInt8),(97 : UInt8),(32 : UInt8),(98 : UInt8),(114 : UInt8),(97 : UInt8),(118 : UInt8),(32 : UInt8),(97 : UInt8),(108 : UInt8),(102 : UInt8),(97 : UInt8),(32 : UInt8),(98 : UInt8),(114 : UInt8),(97 : UInt8),(118 : UInt8),(32 : UInt8),(97 : UInt8),(108 : UInt8),(102 : UInt8),(97 : UInt8),(32 : UInt8),(98 : UInt8),(114 : UInt8),(97 : UInt8),(118 : UInt8),(32 : UInt8),(97 : UInt8),(108 : UInt8),(102 : UInt8),(97 : UInt8)].toList, #[(97 : UInt8),(49 : UInt8),(32 : UInt8)].toList, #[(10 : UInt8)].toList, #[(53 : UInt8),(32 : UInt8),(53 : UInt8),(32 : UInt8),(53 : UInt8)].toList].length)) (some (.ret (.str (ofV bs p [#[].toList, #[(110 : UInt8),(111 : UInt8),(110 : UInt8),(101 : UInt8)].toList, #[(53 : UInt8),(32 : UInt8),(52 : UInt8)].toList, #[(48 : UInt8),(32 : UInt8),(49 : UInt8),(48 : UInt8),(48 : UInt8),(48 : UInt8),(49 : UInt8)].toList, #[(49 : UInt8),(48 : UInt8),(48 : UInt8),(48 : UInt8),(48 : UInt8),(32 : UInt8),(49 : UInt8),(48 : UInt8),(48 : UInt8),(48 : UInt8),(48 : UInt8)].toList, #[(48 : UInt8),(49 : UInt8)].toList, #[(48 : UInt8)].toList, #[(55 : UInt8)].toList, #[(97 : UInt8),(108 : UInt8),(102 : UInt8),(97 : UInt8)].toList, #[(97 : UInt8),(108 : UInt8),(102 : UInt8),(97 : UInt8),(32 : UInt8),(97 : UInt8),(108 : UInt8),(102 : UInt8),(97 : UInt8)].toList, #[(97 : UInt8),(108 : UInt8),(102 : UInt8),(97 : UInt8),(32 : UInt8),(98 : UInt8),(114 : UInt8),(97 : UInt8),(118 : UInt8),(32 : UInt8)].toList, #[(111 : UInt8),(112 : UInt8),(101 : UInt8),(110 : UInt8),(32 : UInt8)].toList, #[(97 : UInt8),(108 : UInt8),(102 : UInt8),(97 : UInt8),(32 : UInt8),(98 : UInt8),(114 : UInt8),(97 : UInt8),(118 : UInt8),(32 : UInt8),(97 : UInt8),(108 : UInt8),(102 : UInt8),(97 : UInt8),(32 : UInt8),(98 : UInt8),(114 : UInt8),(97 : UInt8),(118 : UInt8),(32 : UInt8),(97 : UInt8),(108 : UInt8),(102 : UInt8),(97 : UInt8),(32 : UInt8),(98 : UInt8),(114 : UInt8),(97 : UInt8),(118 : UInt8),(32 : UInt8),(97 : UInt8),(108 : UInt8),(102 : UInt8),(97 : UInt8),(32 : UInt8),(98 : UInt8),(114 : UInt8),(97 : UInt8),(118 : UInt8),(32 : UInt8),(97 : UInt8),(108 : UInt8),(102 : UInt8),(97 : UInt8)].toList, #[(97 : UInt8),(49 : UInt8),(32 : UInt8)].toList, #[(10 : UInt8)].toList, #[(53 : UInt8),(32 : UInt8),(53 : UInt8),(32 : UInt8),(53 : UInt8)].toList])) [.box [.sl .u8 bs,.int .i64 (p + 1)]])) (none):=by kernel_rfl
theorem Qb3p (bs : List Int) (p : Int) (hg : rdOk bs p = true) : Qewq Tryz.prog CP Q0nv [.ptr 0 0] [.box [.sl .u8 bs,.int .i64 p]] (.str (ofV bs p bad12)) [.box [.sl .u8 bs,.int .i64 (p + 1)]]:=by
 refine Qewq.of Qa1g (by kernel_rfl) (Qamv bs p) ?_
 rw [hg]
 exact Sat.ret rfl rfl
theorem Q83y : EntOK Tryz.prog CP Q0nv Qwn9:=by
 refine ⟨eob (by kernel_rfl),fun _ _ _ _ h=>?_⟩
 simp only [Qwn9] at h
 split at h
 ·obtain ⟨hg,rfl,rfl⟩:=eoh h
  exact Qb3p _ _ hg
 ·cases h
end Lx
namespace Lx
open Go Go.Proofs
noncomputable def Qw6i : RE Ty El:=⟨Tryz.prog,CP,[(Qpxs,Q7v2)],Tryz.f89,1,[.agg [.ro .kind,.ro .point]],[(7,[(0,.any),(2,.any),(3,.any),(4,.any),(5,.any),(6,.any)]),(12,[(0,.any),(2,.any),(3,.any),(4,.any),(5,.any),(6,.any),(7,.any),(8,.any),(9,.any)])]⟩
theorem Qo8w : REOK Qw6i Qwua:=⟨CP_ok,(TabOK.cons Q0e7 Qye1),by kernel_rfl,by kernel_rfl⟩
theorem Qaoa (bs : List Int) (p : Int) : aRun Qw6i 600 false (body0 Qw6i.fn) (Q4gm Qw6i.fn [.ptr 0 0] [.box [.sl .u8 bs,.int .i64 p]]) =
 ifb (posOk p) (ifb (posOk (p + 1)) (ifb (posOk (p + 1 + 1)) (ifb (pickV bs (p + 1 + 1) (4 : Int) == (0 : Int)) (ifb (posOk (p + 1 + 1 + 1)) (ifb (posOk (p + 1 + 1 + 1 + 1)) (ifb (inb (pickV bs (p + 1 + 1 + 1 + 1) (3 : Int)) [(6 : Int),(6 : Int),(16 : Int)].length) (some (.go (Qu6t Qw6i.fn 7) [.ptr 0 0,.ptr 1 0,.ptr 2 0,.sl .str [#[(97 : UInt8),(108 : UInt8),(102 : UInt8),(97 : UInt8)].toList, #[(98 : UInt8),(114 : UInt8),(97 : UInt8),(118 : UInt8)].toList, #[(99 : UInt8),(104 : UInt8),(97 : UInt8),(114 : UInt8)].toList, #[(100 : UInt8),(45 : UInt8),(52 : UInt8)].toList, #[(101 : UInt8),(99 : UInt8),(104 : UInt8),(111 : UInt8)].toList, #[(120 : UInt8)].toList],.int .i64 ([(6 : Int),(6 : Int),(16 : Int)].getD (pickV bs (p + 1 + 1 + 1 + 1) (3 : Int)).toNat (Qw6i.C.dflt Ty.int)),.int .i64 0] [.box [.sl .u8 bs,.int .i64 (p + 1 + 1 + 1 + 1 + 1)],.box [.nils,.nils],.box [.own 3 [] 0,.nils],.row .kind ([Kind.mk #[(97 : UInt8),(49 : UInt8)].toList (1 : Int) (IntKind.i64.wrap ((1 : Int) + pickV bs p (3 : Int))),Kind.mk #[(104 : UInt8),(101 : UInt8),(97 : UInt8),(118 : UInt8),(121 : UInt8)].toList (IntKind.i64.wrap ((2 : Int) + pickV bs (p + 1) (2 : Int))) (5 : Int)] ++ [Kind.mk #[(115 : UInt8),(108 : UInt8),(111 : UInt8),(119 : UInt8)].toList (IntKind.i64.wrap ((1 : Int) + pickV bs (p + 1 + 1 + 1) (50 : Int))) (50 : Int)]) 0 0 0 .no])) (none)) (none)) (none)) (ifb (posOk (p + 1 + 1 + 1)) (ifb (inb (pickV bs (p + 1 + 1 + 1) (3 : Int)) [(6 : Int),(6 : Int),(16 : Int)].length) (some (.go (Qu6t Qw6i.fn 7) [.ptr 0 0,.ptr 1 0,.ptr 2 0,.sl .str [#[(97 : UInt8),(108 : UInt8),(102 : UInt8),(97 : UInt8)].toList, #[(98 : UInt8),(114 : UInt8),(97 : UInt8),(118 : UInt8)].toList, #[(99 : UInt8),(104 : UInt8),(97 : UInt8),(114 : UInt8)].toList, #[(100 : UInt8),(45 : UInt8),(52 : UInt8)].toList, #[(101 : UInt8),(99 : UInt8),(104 : UInt8),(111 : UInt8)].toList, #[(120 : UInt8)].toList],.int .i64 ([(6 : Int),(6 : Int),(16 : Int)].getD (pickV bs (p + 1 + 1 + 1) (3 : Int)).toNat (Qw6i.C.dflt Ty.int)),.int .i64 0] [.box [.sl .u8 bs,.int .i64 (p + 1 + 1 + 1 + 1)],.box [.nils,.nils],.box [.own 3 [] 0,.nils],.row .kind [Kind.mk #[(97 : UInt8),(49 : UInt8)].toList (1 : Int) (IntKind.i64.wrap ((1 : Int) + pickV bs p (3 : Int))),Kind.mk #[(104 : UInt8),(101 : UInt8),(97 : UInt8),(118 : UInt8),(121 : UInt8)].toList (IntKind.i64.wrap ((2 : Int) + pickV bs (p + 1) (2 : Int))) (5 : Int)] 0 0 0 .no])) (none)) (none))) (none)) (none)) (none):=by kernel_rfl
theorem Qmss (x0 : List (El .str)) (x1 : Int) (x2 : Int) (x3 : List (El .u8)) (x4 : Int) (x5 : List (El .kind)) : aRun Qw6i 600 true (Qu6t Qw6i.fn 7) (cutSt Qw6i.fn (Q1m4 Qw6i (Qu6t Qw6i.fn 7)) [.ptr 0 0,.ptr 1 0,.ptr 2 0,.sl .str x0,.int .i64 x1,.int .i64 x2] [.box [.sl .u8 x3,.int .i64 x4],.box [.nils,.nils],.box [.own 3 [] 0,.nils],.row .kind x5 0 0 0 .no]) =
 ifb (decide (x2 < (↑x0.length : Int))) (ifb (inb x2 x0.length) (ifb (posOk x4) (ifb (posOk (x4 + 1)) (some (.go (Qu6t Qw6i.fn 12) [.ptr 0 0,.ptr 1 0,.ptr 2 0,.sl .str x0,.int .i64 x1,.int .i64 x2,.ptr 4 0,.bool true,.int .i64 0] [.box [.sl .u8 x3,.int .i64 (x4 + 1 + 1)],.box [.nils,.nils],.box [.own 3 [] 0,.nils],.row .kind x5 0 0 0 .no,.box [.str (x0.getD x2.toNat (Qw6i.C.dflt Ty.str)),.int .i64 (pickV x3 x4 x1),.int .i64 (pickV x3 (x4 + 1) x1)]])) (none)) (none)) (none)) (some (.ret (.agg [.sl .kind x5,.sl .point []]) [.box [.sl .u8 x3,.int .i64 x4]])):=by kernel_rfl
theorem Qu0y (x0 : List (El .str)) (x1 : Int) (x2 : Int) (x3 : Bool) (x4 : Int) (x5 : List (El .u8)) (x6 : Int) (x7 : List (El .kind)) (x8 : Str) (x9 : Int) (x10 : Int) : aRun Qw6i 600 true (Qu6t Qw6i.fn 12) (cutSt Qw6i.fn (Q1m4 Qw6i (Qu6t Qw6i.fn 12)) [.ptr 0 0,.ptr 1 0,.ptr 2 0,.sl .str x0,.int .i64 x1,.int .i64 x2,.ptr 4 0,.bool x3,.int .i64 x4] [.box [.sl .u8 x5,.int .i64 x6],.box [.nils,.nils],.box [.own 3 [] 0,.nils],.row .kind x7 0 0 0 .no,.box [.str x8,.int .i64 x9,.int .i64 x10]]) =
 ifb (decide (x4 < 0)) (ifb x3 (none) (some (.go (Qu6t Qw6i.fn 12) [.ptr 0 0,.ptr 1 0,.ptr 2 0,.sl .str x0,.int .i64 x1,.int .i64 x2,.ptr 4 0,.bool false,.int .i64 (IntKind.i64.wrap (x4 + 1))] [.box [.sl .u8 x5,.int .i64 x6],.box [.nils,.nils],.box [.own 3 [] 0,.nils],.row .kind x7 0 0 0 .no,.box [.str x8,.int .i64 x9,.int .i64 x10]]))) (ifb x3 (some (.go (Qu6t Qw6i.fn 7) [.ptr 0 0,.ptr 1 0,.ptr 2 0,.sl .str x0,.int .i64 x1,.int .i64 (IntKind.i64.wrap (x2 + 1))] [.box [.sl .u8 x5,.int .i64 x6],.box [.nils,.nils],.box [.own 3 [] 0,.own 4 [] 0],.row .kind x7 0 0 0 .no,.row .point [Point.mk x8 x9 x10] 0 0 0 .no])) (some (.go (Qu6t Qw6i.fn 7) [.ptr 0 0,.ptr 1 0,.ptr 2 0,.sl .str x0,.int .i64 x1,.int .i64 (IntKind.i64.wrap (x2 + 1))] [.box [.sl .u8 x5,.int .i64 x6],.box [.nils,.nils],.box [.own 3 [] 0,.nils],.row .kind x7 0 0 0 .no]))):=by kernel_rfl
theorem Qtpe (x0 : List (El .str)) (x1 : Int) (x2 : Int) (x3 : List (El .u8)) (x4 : Int) (x5 : List (El .kind)) (x6 : List (El .point)) : aRun Qw6i 600 true (Qu6t Qw6i.fn 7) (cutSt Qw6i.fn (Q1m4 Qw6i (Qu6t Qw6i.fn 7)) [.ptr 0 0,.ptr 1 0,.ptr 2 0,.sl .str x0,.int .i64 x1,.int .i64 x2] [.box [.sl .u8 x3,.int .i64 x4],.box [.nils,.nils],.box [.own 3 [] 0,.own 4 [] 0],.row .kind x5 0 0 0 .no,.row .point x6 0 0 0 .no]) =
 ifb (decide (x2 < (↑x0.length : Int))) (ifb (inb x2 x0.length) (ifb (posOk x4) (ifb (posOk (x4 + 1)) (some (.go (Qu6t Qw6i.fn 12) [.ptr 0 0,.ptr 1 0,.ptr 2 0,.sl .str x0,.int .i64 x1,.int .i64 x2,.ptr 5 0,.bool true,.int .i64 0] [.box [.sl .u8 x3,.int .i64 (x4 + 1 + 1)],.box [.nils,.nils],.box [.own 3 [] 0,.own 4 [] 0],.row .kind x5 0 0 0 .no,.row .point x6 0 0 0 .no,.box [.str (x0.getD x2.toNat (Qw6i.C.dflt Ty.str)),.int .i64 (pickV x3 x4 x1),.int .i64 (pickV x3 (x4 + 1) x1)]])) (none)) (none)) (none)) (some (.ret (.agg [.sl .kind x5,.sl .point x6]) [.box [.sl .u8 x3,.int .i64 x4]])):=by kernel_rfl
theorem Qod9 (x0 : List (El .str)) (x1 : Int) (x2 : Int) (x3 : Bool) (x4 : Int) (x5 : List (El .u8)) (x6 : Int) (x7 : List (El .kind)) (x8 : List (El .point)) (x9 : Str) (x10 : Int) (x11 : Int) : aRun Qw6i 600 true (Qu6t Qw6i.fn 12) (cutSt Qw6i.fn (Q1m4 Qw6i (Qu6t Qw6i.fn 12)) [.ptr 0 0,.ptr 1 0,.ptr 2 0,.sl .str x0,.int .i64 x1,.int .i64 x2,.ptr 5 0,.bool x3,.int .i64 x4] [.box [.sl .u8 x5,.int .i64 x6],.box [.nils,.nils],.box [.own 3 [] 0,.own 4 [] 0],.row .kind x7 0 0 0 .no,.row .point x8 0 0 0 .no,.box [.str x9,.int .i64 x10,.int .i64 x11]]) =
 ifb (decide (x4 < (↑x8.length : Int))) (ifb x3 (ifb (inb x4 x8.length) (ifb ((x8.getD x4.toNat (Qw6i.C.dflt Ty.point)).x != x10) (some (.go (Qu6t Qw6i.fn 12) [.ptr 0 0,.ptr 1 0,.ptr 2 0,.sl .str x0,.int .i64 x1,.int .i64 x2,.ptr 5 0,.bool true,.int .i64 (IntKind.i64.wrap (x4 + 1))] [.box [.sl .u8 x5,.int .i64 x6],.box [.nils,.nils],.box [.own 3 [] 0,.own 4 [] 0],.row .kind x7 0 0 0 .no,.row .point x8 0 0 0 .no,.box [.str x9,.int .i64 x10,.int .i64 x11]])) (ifb (inb x4 x8.length) (some (.go (Qu6t Qw6i.fn 12) [.ptr 0 0,.ptr 1 0,.ptr 2 0,.sl .str x0,.int .i64 x1,.int .i64 x2,.ptr 5 0,.bool ((x8.getD x4.toNat (Qw6i.C.dflt Ty.point)).y != x11),.int .i64 (IntKind.i64.wrap (x4 + 1))] [.box [.sl .u8 x5,.int .i64 x6],.box [.nils,.nils],.box [.own 3 [] 0,.own 4 [] 0],.row .kind x7 0 0 0 .no,.row .point x8 0 0 0 .no,.box [.str x9,.int .i64 x10,.int .i64 x11]])) (none))) (none)) (some (.go (Qu6t Qw6i.fn 12) [.ptr 0 0,.ptr 1 0,.ptr 2 0,.sl .str x0,.int .i64 x1,.int .i64 x2,.ptr 5 0,.bool false,.int .i64 (IntKind.i64.wrap (x4 + 1))] [.box [.sl .u8 x5,.int .i64 x6],.box [.nils,.nils],.box [.own 3 [] 0,.own 4 [] 0],.row .kind x7 0 0 0 .no,.row .point x8 0 0 0 .no,.box [.str x9,.int .i64 x10,.int .i64 x11]]))) (ifb x3 (ifb (decide ((x8.length + [Point.mk x9 x10 x11].length) * Qbhn Qw6i.P (160 : Nat) ≤ (140737488355328 : Nat))) (some (.go (Qu6t Qw6i.fn 7) [.ptr 0 0,.ptr 1 0,.ptr 2 0,.sl .str x0,.int .i64 x1,.int .i64 (IntKind.i64.wrap (x2 + 1))] [.box [.sl .u8 x5,.int .i64 x6],.box [.nils,.nils],.box [.own 3 [] 0,.own 4 [] 0],.row .kind x7 0 0 0 .no,.row .point (x8 ++ [Point.mk x9 x10 x11]) 0 0 0 .no])) (none)) (some (.go (Qu6t Qw6i.fn 7) [.ptr 0 0,.ptr 1 0,.ptr 2 0,.sl .str x0,.int .i64 x1,.int .i64 (IntKind.i64.wrap (x2 + 1))] [.box [.sl .u8 x5,.int .i64 x6],.box [.nils,.nils],.box [.own 3 [] 0,.own 4 [] 0],.row .kind x7 0 0 0 .no,.row .point x8 0 0 0 .no]))):=by kernel_rfl
theorem Q1qw (bs : List Int) (ks : List Kind) (ps : List Point) (side X Y q q0 : Int) (i : Nat) (hi : i < 6) (hl : ps.length ≤ 6)
  (K0 : CutE Qw6i Qwua 7 [.ptr 0 0,.ptr 1 0,.ptr 2 0,.sl .str Qf10,.int .i64 side,.int .i64 ((i + 1 : Nat) : Int)] [.box [.sl .u8 bs,.int .i64 q],.box [.nils,.nils],.box [.own 3 [] 0,.own 4 [] 0],.row .kind ks 0 0 0 .no,.row .point ps 0 0 0 .no] (fun v h=>∃ (z : List Point) (r : Int),v = .agg [.sl .kind ks,.sl .point z] ∧ h = [.box [.sl .u8 bs,.int .i64 r]] ∧ PI z 6 ∧ 1 ≤ z.length ∧ q0 ≤ r ∧ r ≤ q0 + 12))
  (K1 : Q343 ps ⟨Qf10.getD i [],X,Y⟩ = true → CutE Qw6i Qwua 7 [.ptr 0 0,.ptr 1 0,.ptr 2 0,.sl .str Qf10,.int .i64 side,.int .i64 ((i + 1 : Nat) : Int)] [.box [.sl .u8 bs,.int .i64 q],.box [.nils,.nils],.box [.own 3 [] 0,.own 4 [] 0],.row .kind ks 0 0 0 .no,.row .point (ps ++ [⟨Qf10.getD i [],X,Y⟩]) 0 0 0 .no] (fun v h=>∃ (z : List Point) (r : Int),v = .agg [.sl .kind ks,.sl .point z] ∧ h = [.box [.sl .u8 bs,.int .i64 r]] ∧ PI z 6 ∧ 1 ≤ z.length ∧ q0 ≤ r ∧ r ≤ q0 + 12)) :
  ∀ (d k : Nat),k + d = ps.length → CutE Qw6i Qwua 12 [.ptr 0 0,.ptr 1 0,.ptr 2 0,.sl .str Qf10,.int .i64 side,.int .i64 (i : Int),.ptr 5 0,.bool (Q343 (ps.take k) ⟨Qf10.getD i [],X,Y⟩),.int .i64 (k : Int)] ([.box [.sl .u8 bs,.int .i64 q],.box [.nils,.nils],.box [.own 3 [] 0,.own 4 [] 0],.row .kind ks 0 0 0 .no,.row .point ps 0 0 0 .no,.box [.str (Qf10.getD i []),.int .i64 X,.int .i64 Y]]) (fun v h=>∃ (z : List Point) (r : Int),v = .agg [.sl .kind ks,.sl .point z] ∧ h = [.box [.sl .u8 bs,.int .i64 r]] ∧ PI z 6 ∧ 1 ≤ z.length ∧ q0 ≤ r ∧ r ≤ q0 + 12):=by
 have hb : Qbhn Qw6i.P 160 ≤ 256:=of_decide_eq_true (by kernel_rfl)
 have hwi : IntKind.wrap .i64 ((i : Int) + 1) = ((i + 1 : Nat) : Int):=by rw [Qbrg] <;> omega
 intro d
 induction d with
 | zero =>
  intro k hk
  refine CutE.of Qo8w rfl (Qod9 Qf10 side i _ k bs q ks ps _ X Y) ?_
  rw [show decide ((k : Int) < (ps.length : Int)) = false from decide_eq_false (by omega),List.take_of_length_le (by omega),hwi]
  simp only [Qk7y]
  cases hf : Q343 ps ⟨Qf10.getD i [],X,Y⟩ with
  | true=>exact SatE.need (Q1mk hb (by simp; omega)) (SatE.cut (K1 hf))
  | false=>exact SatE.cut K0
 | succ d ih =>
  intro k hk
  refine CutE.of Qo8w rfl (Qod9 Qf10 side i _ k bs q ks ps _ X Y) ?_
  have hlt : k < ps.length:=by omega
  have hw : IntKind.wrap .i64 ((k : Int) + 1) = ((k + 1 : Nat) : Int):=by rw [Qbrg] <;> omega
  have hx : ps.getD (k : Int).toNat (Qw6i.C.dflt .point) = ps[k]:=by simp [hlt]
  have hin : inb (k : Int) ps.length = true:=by simp only [inb,qaT,qdT]; omega
  have hlo : decide ((k : Int) < (ps.length : Int)) = true:=decide_eq_true (by omega)
  have htk:=qtS hlt
  have hl : (ps.take (k + 1)).getLast? = some ps[k]:=by rw [qtS hlt,qlC]
  have hn:=ih (k + 1) (by omega)
  rw [htk] at hn
  have ha : Q343 (ps.take k ++ [ps[k]]) ⟨Qf10.getD i [],X,Y⟩ = (Q343 (ps.take k) ⟨Qf10.getD i [],X,Y⟩ && (ps[k].x != X || ps[k].y != Y)):=by
   simp only [Q343,List.all_append,List.all_cons,List.all_nil,Bool.and_true]
   congr 1
   cases h1 : ps[k].x == X <;> cases h2 : ps[k].y == Y <;> simp [bne,h1,h2]
  rw [ha] at hn
  rw [hlo,hin,hx,hw]
  simp only [Qd8q]
  cases hf : Q343 (ps.take k) ⟨Qf10.getD i [],X,Y⟩ with
  | false =>
   rw [hf,Bool.false_and] at hn
   exact SatE.cut hn
  | true =>
   rw [hf,Bool.true_and] at hn
   simp only [Qd8q]
   cases h1 : ps[k].x != X with
   | true =>
    rw [h1,Bool.true_or] at hn
    exact SatE.cut hn
   | false =>
    rw [h1,Bool.false_or] at hn
    exact SatE.cut hn
theorem Qvv4 (bs : List Int) (ks : List Kind) (side q0 : Int) (hbs : Qf9o bs = true) (hs : 1 ≤ side ∧ side ≤ 16) (h0 : 0 ≤ q0) (h1 : q0 ≤ 950000) : ∀ (d i : Nat) (ps : List Point) (q : Int),i + d = 6 → PI ps i → 1 ≤ ps.length → q0 ≤ q → q + 2 * d ≤ q0 + 12 →
  CutE Qw6i Qwua 7 [.ptr 0 0,.ptr 1 0,.ptr 2 0,.sl .str Qf10,.int .i64 side,.int .i64 (i : Int)] [.box [.sl .u8 bs,.int .i64 q],.box [.nils,.nils],.box [.own 3 [] 0,.own 4 [] 0],.row .kind ks 0 0 0 .no,.row .point ps 0 0 0 .no] (fun v h=>∃ (z : List Point) (r : Int),v = .agg [.sl .kind ks,.sl .point z] ∧ h = [.box [.sl .u8 bs,.int .i64 r]] ∧ PI z 6 ∧ 1 ≤ z.length ∧ q0 ≤ r ∧ r ≤ q0 + 12):=by
 intro d
 induction d with
 | zero =>
  intro i ps q hi hp hps hq hq2
  refine CutE.of Qo8w rfl (Qtpe Qf10 side i bs q ks ps) ?_
  have : i = 6:=by omega
  subst this
  exact SatE.ret ⟨ps,q,rfl,rfl,hp,hps,hq,by omega⟩
 | succ d ih =>
  intro i ps q hi hp hps hq hq2
  refine CutE.of Qo8w rfl (Qtpe Qf10 side i bs q ks ps) ?_
  have hn6 : Qf10.length = 6:=rfl
  have hlt : i < Qf10.length:=by omega
  have hx : Qf10.getD (i : Int).toNat (Qw6i.C.dflt .str) = Qf10[i]:=by simp [hlt]
  have hin : inb (i : Int) Qf10.length = true:=by simp only [inb,qaT,qdT]; omega
  have hlo : decide ((i : Int) < (Qf10.length : Int)) = true:=decide_eq_true (by omega)
  have hg : Qf10.getD i [] = Qf10[i]:=by simp [hlt]
  obtain ⟨x1,x2⟩:=Q5va (n:=side) hbs (Q8s4 (q:=q) (by omega) (by omega)) hs.1
  obtain ⟨y1,y2⟩:=Q5va (n:=side) hbs (Q8s4 (q:=q + 1) (by omega) (by omega)) hs.1
  rw [hlo,hin,hx]
  simp only [Qd8q]
  have hl6 : ps.length ≤ 6:=by have:=hp.2.1; omega
  have hin:=Q1qw bs ks ps side (pickV bs q side) (pickV bs (q + 1) side) (q + 1 + 1) q0 i (by omega) hl6 (ih (i + 1) ps (q + 1 + 1) (by omega) hp.next hps (by omega) (by omega))
   (fun hf=>ih (i + 1) _ (q + 1 + 1) (by omega) (hp.add (by omega) ⟨x1,by omega⟩ ⟨y1,by omega⟩ hf) (by simp) (by omega) (by omega)) ps.length 0 (by omega)
  rw [hg] at hin
  exact SatE.need (Q8s4 (by omega) (by omega)) (SatE.need (Q8s4 (by omega) (by omega)) (SatE.cut hin))
theorem Qo3a (bs : List Int) (ks : List Kind) (side q0 : Int) (hbs : Qf9o bs = true) (hs : 1 ≤ side ∧ side ≤ 16) (h0 : 0 ≤ q0) (h1 : q0 ≤ 950000) :
  CutE Qw6i Qwua 7 [.ptr 0 0,.ptr 1 0,.ptr 2 0,.sl .str Qf10,.int .i64 side,.int .i64 0] [.box [.sl .u8 bs,.int .i64 q0],.box [.nils,.nils],.box [.own 3 [] 0,.nils],.row .kind ks 0 0 0 .no] (fun v h=>∃ (z : List Point) (r : Int),v = .agg [.sl .kind ks,.sl .point z] ∧ h = [.box [.sl .u8 bs,.int .i64 r]] ∧ PI z 6 ∧ 1 ≤ z.length ∧ q0 ≤ r ∧ r ≤ q0 + 12):=by
 obtain ⟨x1,x2⟩:=Q5va (n:=side) hbs (Q8s4 (q:=q0) (by omega) (by omega)) hs.1
 obtain ⟨y1,y2⟩:=Q5va (n:=side) hbs (Q8s4 (q:=q0 + 1) (by omega) (by omega)) hs.1
 have hp0 : PI [] 0:=⟨rfl,Nat.le_refl _,fun _ _ _ _=>rfl⟩
 have hk:=Qvv4 bs ks side q0 hbs hs h0 h1 5 1 [⟨Qf10.getD 0 [],pickV bs q0 side,pickV bs (q0 + 1) side⟩] (q0 + 1 + 1) (by omega) (hp0.add (by omega) ⟨x1,by omega⟩ ⟨y1,by omega⟩ rfl) (by simp) (by omega) (by omega)
 refine CutE.of Qo8w rfl (Qmss Qf10 side 0 bs q0 ks) ?_
 rw [show decide ((0 : Int) < (Qf10.length : Int)) = true from rfl,show inb (0 : Int) Qf10.length = true from rfl,Q8s4 (q:=q0) (by omega) (by omega),Q8s4 (q:=q0 + 1) (by omega) (by omega)]
 simp only [Qd8q]
 refine SatE.cut ?_
 exact CutE.of Qo8w rfl (Qu0y Qf10 side 0 true 0 bs (q0 + 1 + 1) ks (Qf10.getD 0 []) _ _) (SatE.cut hk)
theorem Qf5l {n : Int} (h : 0 ≤ n ∧ n < 3) : inb n [(6 : Int),6,16].length = true ∧ 1 ≤ [(6 : Int),6,16].getD n.toNat 0 ∧ [(6 : Int),6,16].getD n.toNat 0 ≤ 16:=by
 have : n = 0 ∨ n = 1 ∨ n = 2:=by omega
 rcases this with rfl | rfl | rfl <;> decide
theorem Qis8 {a b : Int} (ha : 0 ≤ a ∧ a < 3) (hb : 0 ≤ b ∧ b < 2) : Qh9e none [⟨[97,49],1,IntKind.i64.wrap (1 + a)⟩,⟨[104,101,97,118,121],IntKind.i64.wrap (2 + b),5⟩] = true:=by
 rw [Qbrg (by omega) (by omega),Qbrg (by omega) (by omega)]
 simp only [Qh9e,Kind.ok,qaT,qdT,Qe7t]
 refine ⟨⟨by decide,by omega,by omega,by omega⟩,trivial,⟨by decide,by omega,by omega,by omega⟩,by decide,trivial⟩
theorem Qodo {a b c : Int} (ha : 0 ≤ a ∧ a < 3) (hb : 0 ≤ b ∧ b < 2) (hc : 0 ≤ c ∧ c < 50) : Qh9e none [⟨[97,49],1,IntKind.i64.wrap (1 + a)⟩,⟨[104,101,97,118,121],IntKind.i64.wrap (2 + b),5⟩,⟨[115,108,111,119],IntKind.i64.wrap (1 + c),50⟩] = true:=by
 rw [Qbrg (by omega) (by omega),Qbrg (by omega) (by omega),Qbrg (by omega) (by omega)]
 simp only [Qh9e,Kind.ok,qaT,qdT,Qe7t]
 refine ⟨⟨by decide,by omega,by omega,by omega⟩,trivial,⟨by decide,by omega,by omega,by omega⟩,by decide,⟨by decide,by omega,by omega,by omega⟩,by decide,trivial⟩
theorem Q46n (bs : List Int) (p : Int) (hg : rdK bs p = true) : Qewq Tryz.prog CP Qwua [.ptr 0 0] [.box [.sl .u8 bs,.int .i64 p]] (.agg [.sl .kind (dBase bs p).ks,.sl .point (dBase bs p).ps]) [.box [.sl .u8 bs,.int .i64 (dBase bs p).p]] ∧ Qn40 p (dBase bs p):=by
 have hg0:=hg
 simp only [rdK,qaT,qdT] at hg
 obtain ⟨hbs,h0,h1⟩:=hg
 have pk : ∀ (q n : Int),p ≤ q → q ≤ p + 10 → 1 ≤ n → 0 ≤ pickV bs q n ∧ pickV bs q n < n:=fun q n h2 h3 h4=>Q5va hbs (Q8s4 (by omega) (by omega)) h4
 have fin : ∀ (ks : List Kind) (q : Int) (n : Int),Qh9e none ks = true → 1 ≤ ks.length → ks.length ≤ 6 → p ≤ q → q ≤ p + 8 → 0 ≤ n ∧ n < 3 → SatE Qw6i Qwua (fun v h=>∃ x : BaseP,v = .agg [.sl .kind x.ks,.sl .point x.ps] ∧ h = [.box [.sl .u8 bs,.int .i64 x.p]] ∧ Qn40 p x)
   (some (.go (Qu6t Qw6i.fn 7) [.ptr 0 0,.ptr 1 0,.ptr 2 0,.sl .str Qf10,.int .i64 ([(6 : Int),6,16].getD n.toNat 0),.int .i64 0] [.box [.sl .u8 bs,.int .i64 q],.box [.nils,.nils],.box [.own 3 [] 0,.nils],.row .kind ks 0 0 0 .no])):=fun ks q n hk hk1 hk2 hq1 hq2 hn=>by
  refine SatE.mono (SatE.cut (Qo3a bs ks _ q hbs (Qf5l hn).2 (by omega) (by omega))) ?_
  rintro v h ⟨z,r,rfl,rfl,hz,hz1,hr1,hr2⟩
  refine ⟨⟨ks,z,r⟩,rfl,rfl, ?_,hk1,hz1, ?_, ?_⟩
  ·simp only [Qib4,hk,hz.1,Bool.and_true,qaT,qdT]
   exact ⟨hk2,by have:=hz.2.1; omega⟩
  ·show p ≤ r; omega
  ·show r ≤ p + 20; omega
 have hE : CallE Qw6i.P Qw6i.C Qwua [.ptr 0 0] [.box [.sl .u8 bs,.int .i64 p]] (fun v h=>∃ x : BaseP,v = .agg [.sl .kind x.ks,.sl .point x.ps] ∧ h = [.box [.sl .u8 bs,.int .i64 x.p]] ∧ Qn40 p x):=by
  refine CallE.of Qo8w (by kernel_rfl) (Qaoa bs p) ?_
  refine SatE.need (Q8s4 (by omega) (by omega)) (SatE.need (Q8s4 (by omega) (by omega)) (SatE.need (Q8s4 (by omega) (by omega)) (SatE.ifb (fun _=>?_) (fun _=>?_))))
  ·have hn:=pk (p + 1 + 1 + 1 + 1) 3 (by omega) (by omega) (by omega)
   refine SatE.need (Q8s4 (by omega) (by omega)) (SatE.need (Q8s4 (by omega) (by omega)) (SatE.need (Qf5l hn).1 ?_))
   exact fin _ _ _ (Qodo (pk p 3 (by omega) (by omega) (by omega)) (pk (p + 1) 2 (by omega) (by omega) (by omega)) (pk (p + 1 + 1 + 1) 50 (by omega) (by omega) (by omega))) (by simp) (by simp) (by omega) (by omega) hn
  ·have hn:=pk (p + 1 + 1 + 1) 3 (by omega) (by omega) (by omega)
   refine SatE.need (Q8s4 (by omega) (by omega)) (SatE.need (Qf5l hn).1 ?_)
   exact fin _ _ _ (Qis8 (pk p 3 (by omega) (by omega) (by omega)) (pk (p + 1) 2 (by omega) (by omega) (by omega))) (by simp) (by simp) (by omega) (by omega) hn
 obtain ⟨v,H',h,x,rfl,rfl,hx⟩:=hE
 exact Qk78 (p:=fun x : BaseP=>Qewq Tryz.prog CP Qwua [.ptr 0 0] [.box [.sl .u8 bs,.int .i64 p]] (.agg [.sl .kind x.ks,.sl .point x.ps]) [.box [.sl .u8 bs,.int .i64 x.p]] ∧ Qn40 p x) ⟨x,h,hx⟩
theorem Qupo (bs : List Int) (p : Int) (hg : rdK bs p = true) : Qewq Tryz.prog CP Qwua [.ptr 0 0] [.box [.sl .u8 bs,.int .i64 p]] (.agg [.sl .kind (dBase bs p).ks,.sl .point (dBase bs p).ps]) [.box [.sl .u8 bs,.int .i64 (dBase bs p).p]]:=by
 exact (Q46n bs p hg).1
theorem Ql5k : EntOK Tryz.prog CP Qwua Qu46:=by
 refine ⟨eob (by kernel_rfl),fun _ _ _ _ h=>?_⟩
 simp only [Qu46] at h
 split at h
 ·obtain ⟨hg,rfl,rfl⟩:=eoh h
  exact Qupo _ _ hg
 ·cases h
end Lx
namespace Lx
open Go Go.Proofs
theorem Qf80 {es : List Entry} {n : Str} (h0 : ¬ 0 ≤ entIx es n) (w : Int) : fldF es n w = none:=by
 rcases Qur7 (fun e : Entry=>e.name == n) (dfltP .entry) es with ⟨_,h2⟩ | ⟨h1,_⟩
 ·rw [fldF,h2]; rfl
 ·exact absurd h1 h0
end Lx
namespace Lx
open Go Go.Proofs
end Lx
namespace Lx
open Go Go.Proofs
end Lx
namespace Lx
open Go Go.Proofs
end Lx
namespace Lx
open Go Go.Proofs
end Lx
namespace Lx
open Go Go.Proofs
end Lx
namespace Lx
open Go Go.Proofs
end Lx
namespace Lx
open Go Go.Proofs
theorem Q1nj : ∀ {ps seen : List Point} {prev : Option Str},Qaym seen prev ps = true → ∀ p ∈ ps,p.ok = true
 | [],_,_,_,p,hp=>by simp at hp
 | a :: ps,seen,prev,h,p,hp=>by
  rw [Qaym] at h
  simp only [qaT] at h
  simp only [List.mem_cons] at hp
  rcases hp with rfl | hp
  ·exact h.1
  ·exact Q1nj h.2.2.2 p hp
end Lx
namespace Lx
open Go Go.Proofs
structure TxP where
 s : Str
 p : Int
 deriving Inhabited
def Qr3b (p : Int) (x : TxP) : Prop:=x.s.length ≤ 200 ∧ p ≤ x.p ∧ x.p ≤ p + 20
noncomputable def dVal (bs : List Int) (p : Int) (ks : List Kind) (ps : List Point) (w : Int) : TxP:=drawn (fun x=>Qewq Tryz.prog CP Qwqy [.ptr 0 0,.agg [.sl .kind ks,.sl .point ps],.int .i64 w] [.box [.sl .u8 bs,.int .i64 p]] (.str x.s) [.box [.sl .u8 bs,.int .i64 x.p]] ∧ Qr3b p x)
def Qeqt (ps : List Point) : Bool:=ps.all fun z=>decide (z.name.length ≤ 8)
def valK (bs : List Int) (p : Int) (ks : List Kind) (ps : List Point) : Bool:=rdK bs p && (decide (ps.length ≤ 100) && (Qeqt ps && decide (1 ≤ ps.length)))
noncomputable def Q0t5 : Ent Ty El:=⟨[.io,.ro,.ro],0,fun a h=>match a,h with
 | [.ptr 0 0,.agg [.sl .kind ks,.sl .point ps],.int .i64 w],[.box [.sl .u8 bs,.int .i64 p]]=>some (valK bs p ks ps,.str (dVal bs p ks ps w).s,[.box [.sl .u8 bs,.int .i64 (dVal bs p ks ps w).p]])
 | _,_=>none⟩
theorem Qgo3 {bs : List Int} {p : Int} {l : List Str} {M : Nat} (h : l.all (fun s=>decide (s.length ≤ M)) = true) : (ofV bs p l).length ≤ M:=by
 unfold ofV
 rw [qgD]
 cases hi : l[(pickV bs p (l.length : Int)).toNat]? with
 | none=>simp
 | some s=>simpa using qlA.1 h s (qmG hi)
theorem decs {n : Int} (h : 0 ≤ n) (h1 : n ≤ 99999) : (decide (0 ≤ n) && decide (n < 10 ^ (4 + 1))) = true ∧ (dDec 4 n).length ≤ 5:=by
 have hg : (decide (0 ≤ n) && decide (n < 10 ^ (4 + 1))) = true:=by simp only [qaT,qdT]; omega
 exact ⟨hg,(Qbt7 n hg).2⟩
theorem Q5k5 {ks : List Kind} {ps : List Point} (h : Qib4 ks ps = true) : ps.length ≤ 16 ∧ ∀ z ∈ ps,z.name.length ≤ 8:=by
 simp only [Qib4,qaT,qdT] at h
 refine ⟨h.2.1,fun z hz=>?_⟩
 have:=Q1nj h.2.2.2 z hz
 simp only [Point.ok,Q2rq,qaT,qdT] at this
 exact this.1.2.1
theorem Qd1y {ks : List Kind} {ps : List Point} (h : Qib4 ks ps = true) : ps.length ≤ 100 ∧ Qeqt ps = true:=by
 obtain ⟨h1,h2⟩:=Q5k5 h
 exact ⟨by omega,qlA.2 fun z hz=>decide_eq_true (h2 z hz)⟩
theorem named {ps : List Point} (h : Qeqt ps = true) : ∀ z ∈ ps,z.name.length ≤ 8:=fun z hz=>of_decide_eq_true (qlA.1 h z hz)
theorem Qosi {ps : List Point} (h : Qeqt ps = true) (i : Nat) {z : Point} (hz : z.name.length ≤ 8) : Qeqt (ps.set i z) = true:=qlA.2 fun x hx=>by
 rcases List.mem_or_eq_of_mem_set hx with hx | rfl
 ·exact qlA.1 h x hx
 ·exact decide_eq_true hz
theorem Qv4q {ps : List Point} (h : Qeqt ps = true) {z : Point} (hz : z.name.length ≤ 8) : Qeqt (ps ++ [z]) = true:=by
 unfold Qeqt at *
 rw [List.all_append,h]; simpa using hz
theorem Qwum {ps : List Point} (h : Qeqt ps = true) (i : Nat) (d : Point) (hd : d.name.length ≤ 8) : (ps.getD i d).name.length ≤ 8:=by
 rw [qgD]
 cases hi : ps[i]? with
 | none=>simpa using hd
 | some x=>exact named h x (qmG hi)
end Lx
namespace Lx
open Go Go.Proofs
noncomputable def Qttc : RE Ty El:=⟨Tryz.prog,CP,[(Qpxs,Q7v2),(Qchm,Q2vb),(Qstj,Qmce)],Tryz.f118,1,[],[(20,[(0,.any),(4,.any),(9,.any),(10,.any),(11,.any)])]⟩
theorem Qyl0 : REOK Qttc Qwqy:=⟨CP_ok,(TabOK.cons Q0e7 (TabOK.cons Qyvd (TabOK.cons Qqii Qye1))),by kernel_rfl,by kernel_rfl⟩
theorem Q12p (bs : List Int) (p : Int) (ks : List Kind) (ps : List Point) (w : Int) : aRun Qttc 600 false (body0 Qttc.fn) (Q4gm Qttc.fn [.ptr 0 0,.agg [.sl .kind ks,.sl .point ps],.int .i64 w] [.box [.sl .u8 bs,.int .i64 p]]) =
 ifb (w == 1) (ifb (rdOk bs p && decide ((0 : Nat) < [#[(97 : UInt8),(49 : UInt8)].toList, #[(104 : UInt8),(101 : UInt8),(97 : UInt8),(118 : UInt8),(121 : UInt8)].toList, #[(97 : UInt8),(49 : UInt8)].toList, #[(104 : UInt8),(101 : UInt8),(97 : UInt8),(118 : UInt8),(121 : UInt8)].toList, #[(115 : UInt8),(108 : UInt8),(111 : UInt8),(119 : UInt8)].toList].length)) (some (.ret (.str (ofV bs p [#[(97 : UInt8),(49 : UInt8)].toList, #[(104 : UInt8),(101 : UInt8),(97 : UInt8),(118 : UInt8),(121 : UInt8)].toList, #[(97 : UInt8),(49 : UInt8)].toList, #[(104 : UInt8),(101 : UInt8),(97 : UInt8),(118 : UInt8),(121 : UInt8)].toList, #[(115 : UInt8),(108 : UInt8),(111 : UInt8),(119 : UInt8)].toList])) [.box [.sl .u8 bs,.int .i64 (p + 1)]])) (none)) (ifb (w == 2) (ifb (posOk p) (ifb (posOk (p + 1)) (ifb (pickV bs (p + 1) (16 : Int) == (0 : Int)) (ifb (posOk (p + 1 + 1)) (ifb (posOk (p + 1 + 1 + 1)) (ifb (decide (IntKind.i64.wrap (IntKind.i64.wrap ((10000 : Int) - pickV bs (p + 1 + 1) (80 : Int)) + pickV bs (p + 1 + 1 + 1) (20 : Int)) > (10000 : Int))) (ifb (decide (0 ≤ IntKind.i64.wrap ((10000 : Int) - pickV bs (p + 1 + 1) (80 : Int))) && decide (IntKind.i64.wrap ((10000 : Int) - pickV bs (p + 1 + 1) (80 : Int)) < (10 : Int) ^ ((4 : Nat) + (1 : Nat)))) (ifb (decide (List.length (dDec (4 : Nat) (IntKind.i64.wrap ((10000 : Int) - pickV bs (p + 1 + 1) (80 : Int)))) + #[(32 : UInt8)].toList.length ≤ (9223372036854775807 : Nat))) (ifb (decide ((dDec (4 : Nat) (IntKind.i64.wrap ((10000 : Int) - pickV bs (p + 1 + 1) (80 : Int))) ++ #[(32 : UInt8)].toList).length + List.length (dDec (4 : Nat) (10000 : Int)) ≤ (9223372036854775807 : Nat))) (some (.ret (.str (dDec (4 : Nat) (IntKind.i64.wrap ((10000 : Int) - pickV bs (p + 1 + 1) (80 : Int))) ++ #[(32 : UInt8)].toList ++ dDec (4 : Nat) (10000 : Int))) [.box [.sl .u8 bs,.int .i64 (p + 1 + 1 + 1 + 1)]])) (none)) (none)) (none)) (ifb (decide (0 ≤ IntKind.i64.wrap ((10000 : Int) - pickV bs (p + 1 + 1) (80 : Int))) && decide (IntKind.i64.wrap ((10000 : Int) - pickV bs (p + 1 + 1) (80 : Int)) < (10 : Int) ^ ((4 : Nat) + (1 : Nat)))) (ifb (decide (List.length (dDec (4 : Nat) (IntKind.i64.wrap ((10000 : Int) - pickV bs (p + 1 + 1) (80 : Int)))) + #[(32 : UInt8)].toList.length ≤ (9223372036854775807 : Nat))) (ifb (decide (0 ≤ IntKind.i64.wrap (IntKind.i64.wrap ((10000 : Int) - pickV bs (p + 1 + 1) (80 : Int)) + pickV bs (p + 1 + 1 + 1) (20 : Int))) && decide (IntKind.i64.wrap (IntKind.i64.wrap ((10000 : Int) - pickV bs (p + 1 + 1) (80 : Int)) + pickV bs (p + 1 + 1 + 1) (20 : Int)) < (10 : Int) ^ ((4 : Nat) + (1 : Nat)))) (ifb (decide ((dDec (4 : Nat) (IntKind.i64.wrap ((10000 : Int) - pickV bs (p + 1 + 1) (80 : Int))) ++ #[(32 : UInt8)].toList).length + List.length (dDec (4 : Nat) (IntKind.i64.wrap (IntKind.i64.wrap ((10000 : Int) - pickV bs (p + 1 + 1) (80 : Int)) + pickV bs (p + 1 + 1 + 1) (20 : Int)))) ≤ (9223372036854775807 : Nat))) (some (.ret (.str (dDec (4 : Nat) (IntKind.i64.wrap ((10000 : Int) - pickV bs (p + 1 + 1) (80 : Int))) ++ #[(32 : UInt8)].toList ++ dDec (4 : Nat) (IntKind.i64.wrap (IntKind.i64.wrap ((10000 : Int) - pickV bs (p + 1 + 1) (80 : Int)) + pickV bs (p + 1 + 1 + 1) (20 : Int))))) [.box [.sl .u8 bs,.int .i64 (p + 1 + 1 + 1 + 1)]])) (none)) (none)) (none)) (none))) (none)) (none)) (ifb (posOk (p + 1 + 1)) (ifb (decide (IntKind.i64.wrap (pickV bs p (200 : Int) + pickV bs (p + 1 + 1) (20 : Int)) > (10000 : Int))) (ifb (decide (0 ≤ pickV bs p (200 : Int)) && decide (pickV bs p (200 : Int) < (10 : Int) ^ ((4 : Nat) + (1 : Nat)))) (ifb (decide (List.length (dDec (4 : Nat) (pickV bs p (200 : Int))) + #[(32 : UInt8)].toList.length ≤ (9223372036854775807 : Nat))) (ifb (decide ((dDec (4 : Nat) (pickV bs p (200 : Int)) ++ #[(32 : UInt8)].toList).length + List.length (dDec (4 : Nat) (10000 : Int)) ≤ (9223372036854775807 : Nat))) (some (.ret (.str (dDec (4 : Nat) (pickV bs p (200 : Int)) ++ #[(32 : UInt8)].toList ++ dDec (4 : Nat) (10000 : Int))) [.box [.sl .u8 bs,.int .i64 (p + 1 + 1 + 1)]])) (none)) (none)) (none)) (ifb (decide (0 ≤ pickV bs p (200 : Int)) && decide (pickV bs p (200 : Int) < (10 : Int) ^ ((4 : Nat) + (1 : Nat)))) (ifb (decide (List.length (dDec (4 : Nat) (pickV bs p (200 : Int))) + #[(32 : UInt8)].toList.length ≤ (9223372036854775807 : Nat))) (ifb (decide (0 ≤ IntKind.i64.wrap (pickV bs p (200 : Int) + pickV bs (p + 1 + 1) (20 : Int))) && decide (IntKind.i64.wrap (pickV bs p (200 : Int) + pickV bs (p + 1 + 1) (20 : Int)) < (10 : Int) ^ ((4 : Nat) + (1 : Nat)))) (ifb (decide ((dDec (4 : Nat) (pickV bs p (200 : Int)) ++ #[(32 : UInt8)].toList).length + List.length (dDec (4 : Nat) (IntKind.i64.wrap (pickV bs p (200 : Int) + pickV bs (p + 1 + 1) (20 : Int)))) ≤ (9223372036854775807 : Nat))) (some (.ret (.str (dDec (4 : Nat) (pickV bs p (200 : Int)) ++ #[(32 : UInt8)].toList ++ dDec (4 : Nat) (IntKind.i64.wrap (pickV bs p (200 : Int) + pickV bs (p + 1 + 1) (20 : Int))))) [.box [.sl .u8 bs,.int .i64 (p + 1 + 1 + 1)]])) (none)) (none)) (none)) (none))) (none))) (none)) (none)) (ifb (w == 3) (ifb (posOk p) (ifb (decide (0 ≤ IntKind.i64.wrap ((1 : Int) + pickV bs p (6 : Int))) && decide (IntKind.i64.wrap ((1 : Int) + pickV bs p (6 : Int)) < (10 : Int) ^ ((4 : Nat) + (1 : Nat)))) (some (.ret (.str (dDec (4 : Nat) (IntKind.i64.wrap ((1 : Int) + pickV bs p (6 : Int))))) [.box [.sl .u8 bs,.int .i64 (p + 1)]])) (none)) (none)) (ifb (w == 4) (ifb (posOk p) (ifb (inb (pickV bs p (↑ps.length : Int)) ps.length) (ifb (posOk (p + 1)) (ifb (posOk (p + 1 + 1)) (ifb (pickV bs (p + 1 + 1) (8 : Int) == (0 : Int)) (some (.go (Qu6t Qttc.fn 20) [.ptr 0 0,.ptr 1 0,.str ((ps.getD (pickV bs p (↑ps.length : Int)).toNat (Qttc.C.dflt Ty.point)).name),.str ((ps.getD (pickV bs p (↑ps.length : Int)).toNat (Qttc.C.dflt Ty.point)).name),.int .i64 7] [.box [.sl .u8 bs,.int .i64 (p + 1 + 1 + 1)],.box [.sl .kind ks,.sl .point ps]])) (some (.go (Qu6t Qttc.fn 20) [.ptr 0 0,.ptr 1 0,.str ((ps.getD (pickV bs p (↑ps.length : Int)).toNat (Qttc.C.dflt Ty.point)).name),.str ((ps.getD (pickV bs p (↑ps.length : Int)).toNat (Qttc.C.dflt Ty.point)).name),.int .i64 (IntKind.i64.wrap ((1 : Int) + pickV bs (p + 1) (4 : Int)))] [.box [.sl .u8 bs,.int .i64 (p + 1 + 1 + 1)],.box [.sl .kind ks,.sl .point ps]]))) (none)) (none)) (none)) (none)) (ifb (rdOk bs p && decide ((0 : Nat) < [#[(111 : UInt8),(112 : UInt8),(101 : UInt8),(110 : UInt8)].toList, #[(99 : UInt8),(108 : UInt8),(111 : UInt8),(115 : UInt8),(101 : UInt8),(100 : UInt8)].toList].length)) (some (.ret (.str (ofV bs p [#[(111 : UInt8),(112 : UInt8),(101 : UInt8),(110 : UInt8)].toList, #[(99 : UInt8),(108 : UInt8),(111 : UInt8),(115 : UInt8),(101 : UInt8),(100 : UInt8)].toList])) [.box [.sl .u8 bs,.int .i64 (p + 1)]])) (none))))):=by kernel_rfl
theorem Q0ny (x0 : Str) (x1 : Str) (x2 : Int) (x3 : List (El .u8)) (x4 : Int) (x5 : List (El .kind)) (x6 : List (El .point)) : aRun Qttc 600 true (Qu6t Qttc.fn 20) (cutSt Qttc.fn (Q1m4 Qttc (Qu6t Qttc.fn 20)) [.ptr 0 0,.ptr 1 0,.str x0,.str x1,.int .i64 x2] [.box [.sl .u8 x3,.int .i64 x4],.box [.sl .kind x5,.sl .point x6]]) =
 ifb (decide (x2 > 0)) (ifb (posOk x4) (ifb (inb (pickV x3 x4 (↑x6.length : Int)) x6.length) (ifb (!(x6.getD (pickV x3 x4 (↑x6.length : Int)).toNat (Qttc.C.dflt Ty.point)).name == x1) (ifb (decide (List.length x0 + #[(32 : UInt8)].toList.length ≤ (9223372036854775807 : Nat))) (ifb (decide ((x0 ++ #[(32 : UInt8)].toList).length + List.length (x6.getD (pickV x3 x4 (↑x6.length : Int)).toNat (Qttc.C.dflt Ty.point)).name ≤ (9223372036854775807 : Nat))) (some (.go (Qu6t Qttc.fn 20) [.ptr 0 0,.ptr 1 0,.str (x0 ++ #[(32 : UInt8)].toList ++ (x6.getD (pickV x3 x4 (↑x6.length : Int)).toNat (Qttc.C.dflt Ty.point)).name),.str ((x6.getD (pickV x3 x4 (↑x6.length : Int)).toNat (Qttc.C.dflt Ty.point)).name),.int .i64 (IntKind.i64.wrap (x2 - 1))] [.box [.sl .u8 x3,.int .i64 (x4 + 1)],.box [.sl .kind x5,.sl .point x6]])) (none)) (none)) (some (.go (Qu6t Qttc.fn 20) [.ptr 0 0,.ptr 1 0,.str x0,.str x1,.int .i64 (IntKind.i64.wrap (x2 - 1))] [.box [.sl .u8 x3,.int .i64 (x4 + 1)],.box [.sl .kind x5,.sl .point x6]]))) (none)) (none)) (some (.ret (.str x0) [.box [.sl .u8 x3,.int .i64 x4]])):=by kernel_rfl
theorem Qb5x {bs : List Int} {p q : Int} {s : Str} (h1 : s.length ≤ 200) (h2 : p ≤ q) (h3 : q ≤ p + 20) : ∃ x : TxP,(AV.str s : AV Ty El) = .str x.s ∧ ([.box [.sl .u8 bs,.int .i64 q]] : List (AObj Ty El)) = [.box [.sl .u8 bs,.int .i64 x.p]] ∧ Qr3b p x:=⟨⟨s,q⟩,rfl,rfl,h1,h2,h3⟩
theorem Q3yw (bs : List Int) (ks : List Kind) (ps : List Point) (hbs : Qf9o bs = true) (hps : ∀ z ∈ ps,z.name.length ≤ 8) (h1 : 1 ≤ ps.length) (h16 : ps.length ≤ 100) : ∀ (d : Nat) (x0 x1 : Str) (q : Int),0 ≤ q → q + d ≤ 950000 → d ≤ 10 → x0.length + 9 * d ≤ 1000 →
  CutE Qttc Qwqy 20 [.ptr 0 0,.ptr 1 0,.str x0,.str x1,.int .i64 (d : Int)] [.box [.sl .u8 bs,.int .i64 q],.box [.sl .kind ks,.sl .point ps]] (fun v h=>∃ x : TxP,v = .str x.s ∧ h = [.box [.sl .u8 bs,.int .i64 x.p]] ∧ x.s.length ≤ x0.length + 9 * d ∧ q ≤ x.p ∧ x.p ≤ q + d):=by
 intro d
 induction d with
 | zero =>
  intro x0 x1 q h0 hq hd hx
  refine CutE.of Qyl0 rfl (Q0ny x0 x1 (0 : Nat) bs q ks ps) ?_
  exact SatE.ret ⟨⟨x0,q⟩,rfl,rfl,by simp,by simp,by simp⟩
 | succ d ih =>
  intro x0 x1 q h0 hq hd hx
  refine CutE.of Qyl0 rfl (Q0ny x0 x1 ((d + 1 : Nat) : Int) bs q ks ps) ?_
  obtain ⟨a1,a2⟩:=Q5va (p:=q) (n:=(ps.length : Int)) hbs (Q8s4 (by omega) (by omega)) (by omega)
  have hi : inb (pickV bs q (ps.length : Int)) ps.length = true:=by simp only [inb,qaT,qdT]; exact ⟨a1,a2⟩
  have hw : IntKind.i64.wrap (((d + 1 : Nat) : Int) - 1) = (d : Int):=by rw [Qbrg] <;> omega
  have hn : (ps.getD (pickV bs q (ps.length : Int)).toNat (Qttc.C.dflt Ty.point)).name.length ≤ 8:=by
   rw [qgD,qeG (by omega)]
   exact hps _ (List.getElem_mem _)
  rw [show decide (((d + 1 : Nat) : Int) > 0) = true from decide_eq_true (by omega),Q8s4 (q:=q) (by omega) (by omega),hi,hw]
  simp only [Qd8q]
  generalize (ps.getD (pickV bs q (ps.length : Int)).toNat (Qttc.C.dflt Ty.point)).name = nm at hn ⊢
  refine SatE.ifb (fun _=>?_) (fun _=>?_)
  ·refine SatE.need (decide_eq_true (by simp; omega)) (SatE.need (decide_eq_true (by simp; omega)) (SatE.mono (SatE.cut (ih _ _ (q + 1) (by omega) (by omega) (by omega) (by simp; omega))) ?_))
   rintro v h ⟨x,rfl,rfl,b1,b2,b3⟩
   exact ⟨x,rfl,rfl,by simp at b1; omega,by omega,by omega⟩
  ·refine SatE.mono (SatE.cut (ih _ _ (q + 1) (by omega) (by omega) (by omega) (by omega))) ?_
   rintro v h ⟨x,rfl,rfl,b1,b2,b3⟩
   exact ⟨x,rfl,rfl,by omega,by omega,by omega⟩
theorem Qpyo (bs : List Int) (p : Int) (ks : List Kind) (ps : List Point) (w : Int) (hg : valK bs p ks ps = true) : Qewq Tryz.prog CP Qwqy [.ptr 0 0,.agg [.sl .kind ks,.sl .point ps],.int .i64 w] [.box [.sl .u8 bs,.int .i64 p]] (.str (dVal bs p ks ps w).s) [.box [.sl .u8 bs,.int .i64 (dVal bs p ks ps w).p]] ∧ Qr3b p (dVal bs p ks ps w):=by
 simp only [valK,qaT,qdT] at hg
 obtain ⟨hr,h16,hn,h1⟩:=hg
 have hps:=named hn
 have hrd:=Qosd (q:=p) hr (by omega) (by omega)
 simp only [rdK,qaT,qdT] at hr
 obtain ⟨hbs,h0,h9⟩:=hr
 have ps0 : ∀ (q : Int),p ≤ q → q ≤ p + 10 → posOk q = true:=fun q h2 h3=>Q8s4 (by omega) (by omega)
 have pk : ∀ (q n : Int),p ≤ q → q ≤ p + 10 → 1 ≤ n → 0 ≤ pickV bs q n ∧ pickV bs q n < n:=fun q n h2 h3 h4=>Q5va hbs (ps0 q h2 h3) h4
 have rt : ∀ (q : Int) (x0 x1 : Str) (m : Int),p ≤ q → q ≤ p + 10 → 0 ≤ m → m ≤ 7 → x0.length ≤ 8 → SatE Qttc Qwqy (fun v h=>∃ x : TxP,v = .str x.s ∧ h = [.box [.sl .u8 bs,.int .i64 x.p]] ∧ Qr3b p x) (some (.go (Qu6t Qttc.fn 20) [.ptr 0 0,.ptr 1 0,.str x0,.str x1,.int .i64 m] [.box [.sl .u8 bs,.int .i64 q],.box [.sl .kind ks,.sl .point ps]])):=fun q x0 x1 m h2 h3 h4 h5 h6=>by
  obtain ⟨d,rfl⟩:=Int.eq_ofNat_of_zero_le h4
  refine SatE.mono (SatE.cut (Q3yw bs ks ps hbs hps h1 h16 d x0 x1 q (by omega) (by omega) (by omega) (by omega))) ?_
  rintro v h ⟨x,rfl,rfl,b1,b2,b3⟩
  exact ⟨x,rfl,rfl,by omega,by omega,by omega⟩
 have hE : CallE Qttc.P Qttc.C Qwqy [.ptr 0 0,.agg [.sl .kind ks,.sl .point ps],.int .i64 w] [.box [.sl .u8 bs,.int .i64 p]] (fun v h=>∃ x : TxP,v = .str x.s ∧ h = [.box [.sl .u8 bs,.int .i64 x.p]] ∧ Qr3b p x):=by
  refine CallE.of Qyl0 (by kernel_rfl) (Q12p bs p ks ps w) ?_
  refine SatE.ifb (fun _=>SatE.need (by rw [hrd]; rfl) (SatE.ret (Qb5x (Nat.le_trans (Qgo3 (M:=5) (by rfl)) (by omega)) (by omega) (by omega)))) (fun _=>SatE.ifb (fun _=>?_) (fun _=>SatE.ifb (fun _=>?_) (fun _=>SatE.ifb (fun _=>?_) (fun _=>SatE.need (by rw [hrd]; rfl) (SatE.ret (Qb5x (Nat.le_trans (Qgo3 (M:=6) (by rfl)) (by omega)) (by omega) (by omega)))))))
  ·obtain ⟨a1,a2⟩:=pk p 200 (by omega) (by omega) (by omega)
   obtain ⟨c1,c2⟩:=pk (p + 1 + 1) 80 (by omega) (by omega) (by omega)
   obtain ⟨e1,e2⟩:=pk (p + 1 + 1 + 1) 20 (by omega) (by omega) (by omega)
   obtain ⟨f1,f2⟩:=pk (p + 1 + 1) 20 (by omega) (by omega) (by omega)
   have w1 : IntKind.i64.wrap (10000 - pickV bs (p + 1 + 1) 80) = 10000 - pickV bs (p + 1 + 1) 80:=Qbrg (by omega) (by omega)
   have w2 : IntKind.i64.wrap (10000 - pickV bs (p + 1 + 1) 80 + pickV bs (p + 1 + 1 + 1) 20) = 10000 - pickV bs (p + 1 + 1) 80 + pickV bs (p + 1 + 1 + 1) 20:=Qbrg (by omega) (by omega)
   have w3 : IntKind.i64.wrap (pickV bs p 200 + pickV bs (p + 1 + 1) 20) = pickV bs p 200 + pickV bs (p + 1 + 1) 20:=Qbrg (by omega) (by omega)
   rw [w1,w2,w3]
   obtain ⟨g1,l1⟩:=decs (n:=10000) (by omega) (by omega)
   obtain ⟨g2,l2⟩:=decs (n:=10000 - pickV bs (p + 1 + 1) 80) (by omega) (by omega)
   obtain ⟨g3,l3⟩:=decs (n:=10000 - pickV bs (p + 1 + 1) 80 + pickV bs (p + 1 + 1 + 1) 20) (by omega) (by omega)
   obtain ⟨g4,l4⟩:=decs (n:=pickV bs p 200) (by omega) (by omega)
   obtain ⟨g5,l5⟩:=decs (n:=pickV bs p 200 + pickV bs (p + 1 + 1) 20) (by omega) (by omega)
   refine SatE.need (ps0 _ (by omega) (by omega)) (SatE.need (ps0 _ (by omega) (by omega)) (SatE.ifb (fun _=>?_) (fun _=>?_)))
   ·refine SatE.need (ps0 _ (by omega) (by omega)) (SatE.need (ps0 _ (by omega) (by omega)) (SatE.ifb (fun _=>?_) (fun _=>?_)))
    ·exact SatE.need g2 (SatE.need (decide_eq_true (by simp; omega)) (SatE.need (decide_eq_true (by simp; omega)) (SatE.ret (Qb5x (by simp; omega) (by omega) (by omega)))))
    ·exact SatE.need g2 (SatE.need (decide_eq_true (by simp; omega)) (SatE.need g3 (SatE.need (decide_eq_true (by simp; omega)) (SatE.ret (Qb5x (by simp; omega) (by omega) (by omega))))))
   ·refine SatE.need (ps0 _ (by omega) (by omega)) (SatE.ifb (fun _=>?_) (fun _=>?_))
    ·exact SatE.need g4 (SatE.need (decide_eq_true (by simp; omega)) (SatE.need (decide_eq_true (by simp; omega)) (SatE.ret (Qb5x (by simp; omega) (by omega) (by omega)))))
    ·exact SatE.need g4 (SatE.need (decide_eq_true (by simp; omega)) (SatE.need g5 (SatE.need (decide_eq_true (by simp; omega)) (SatE.ret (Qb5x (by simp; omega) (by omega) (by omega))))))
  ·obtain ⟨a1,a2⟩:=pk p 6 (by omega) (by omega) (by omega)
   have w1 : IntKind.i64.wrap (1 + pickV bs p 6) = 1 + pickV bs p 6:=Qbrg (by omega) (by omega)
   rw [w1]
   obtain ⟨g1,l1⟩:=decs (n:=1 + pickV bs p 6) (by omega) (by omega)
   exact SatE.need (ps0 _ (by omega) (by omega)) (SatE.need g1 (SatE.ret (Qb5x (by omega) (by omega) (by omega))))
  ·obtain ⟨a1,a2⟩:=pk p (ps.length : Int) (by omega) (by omega) (by omega)
   obtain ⟨b1,b2⟩:=pk (p + 1) 4 (by omega) (by omega) (by omega)
   have hi : inb (pickV bs p (ps.length : Int)) ps.length = true:=by simp only [inb,qaT,qdT]; exact ⟨a1,a2⟩
   have w1 : IntKind.i64.wrap (1 + pickV bs (p + 1) 4) = 1 + pickV bs (p + 1) 4:=Qbrg (by omega) (by omega)
   rw [w1]
   have hn : (ps.getD (pickV bs p (ps.length : Int)).toNat (Qttc.C.dflt Ty.point)).name.length ≤ 8:=by
    rw [qgD,qeG (by omega)]
    exact hps _ (List.getElem_mem _)
   refine SatE.need (ps0 _ (by omega) (by omega)) (SatE.need hi (SatE.need (ps0 _ (by omega) (by omega)) (SatE.need (ps0 _ (by omega) (by omega)) (SatE.ifb (fun _=>?_) (fun _=>?_)))))
   ·exact rt _ _ _ _ (by omega) (by omega) (by omega) (by omega) hn
   ·exact rt _ _ _ _ (by omega) (by omega) (by omega) (by omega) hn
 obtain ⟨v,H',h,x,rfl,rfl,hx⟩:=hE
 exact Qk78 (p:=fun x : TxP=>Qewq Tryz.prog CP Qwqy [.ptr 0 0,.agg [.sl .kind ks,.sl .point ps],.int .i64 w] [.box [.sl .u8 bs,.int .i64 p]] (.str x.s) [.box [.sl .u8 bs,.int .i64 x.p]] ∧ Qr3b p x) ⟨x,h,hx⟩
theorem Q95u (bs : List Int) (p : Int) (ks : List Kind) (ps : List Point) (w : Int) (hg : valK bs p ks ps = true) : Qewq Tryz.prog CP Qwqy [.ptr 0 0,.agg [.sl .kind ks,.sl .point ps],.int .i64 w] [.box [.sl .u8 bs,.int .i64 p]] (.str (dVal bs p ks ps w).s) [.box [.sl .u8 bs,.int .i64 (dVal bs p ks ps w).p]]:=by
 exact (Qpyo bs p ks ps w hg).1
theorem Qnck : EntOK Tryz.prog CP Qwqy Q0t5:=by
 refine ⟨eob (by kernel_rfl),fun _ _ _ _ h=>?_⟩
 simp only [Q0t5] at h
 split at h
 ·obtain ⟨hg,rfl,rfl⟩:=eoh h
  exact Q95u _ _ _ _ _ hg
 ·cases h
end Lx
namespace Lx
open Go Go.Proofs
structure ChgP where
 c : Chg
 p : Int
 deriving Inhabited
def Qi1t (p : Int) (x : ChgP) : Prop:=szV x.c.value = true ∧ p ≤ x.p ∧ x.p ≤ p + 30
noncomputable def dChg (bs : List Int) (p : Int) (ks : List Kind) (ps : List Point) : ChgP:=drawn (fun x=>Qewq Tryz.prog CP Qhy2 [.ptr 0 0,.agg [.sl .kind ks,.sl .point ps]] [.box [.sl .u8 bs,.int .i64 p]] (.agg [.str x.c.flight,.int .i64 x.c.what,.int .i64 x.c.number,.str x.c.value]) [.box [.sl .u8 bs,.int .i64 x.p]] ∧ Qi1t p x)
def chgK (bs : List Int) (p : Int) (ks : List Kind) (ps : List Point) : Bool:=Qf9o bs && (decide (0 ≤ p) && (decide (p ≤ 890000) && (decide (ps.length ≤ 100) && (Qeqt ps && decide (1 ≤ ps.length)))))
noncomputable def Qiyn : Ent Ty El:=⟨[.io,.ro],0,fun a h=>match a,h with
 | [.ptr 0 0,.agg [.sl .kind ks,.sl .point ps]],[.box [.sl .u8 bs,.int .i64 p]]=>some (chgK bs p ks ps,.agg [.str (dChg bs p ks ps).c.flight,.int .i64 (dChg bs p ks ps).c.what,.int .i64 (dChg bs p ks ps).c.number,.str (dChg bs p ks ps).c.value],[.box [.sl .u8 bs,.int .i64 (dChg bs p ks ps).p]])
 | _,_=>none⟩
structure ChgsP where
 l : List Chg
 p : Int
 deriving Inhabited
def Q4tv (p : Int) (x : ChgsP) : Prop:=x.l.length ≤ 24 ∧ x.l.all (fun c=>szV c.value) = true ∧ p ≤ x.p ∧ x.p ≤ p + 800
noncomputable def dChgs (bs : List Int) (p : Int) (ks : List Kind) (ps : List Point) (m : Int) : ChgsP:=drawn (fun x=>Qewq Tryz.prog CP Q43w [.ptr 0 0,.agg [.sl .kind ks,.sl .point ps],.int .i64 m] [.box [.sl .u8 bs,.int .i64 p]] (.sl .chg x.l) [.box [.sl .u8 bs,.int .i64 x.p]] ∧ Q4tv p x)
def chgsK (bs : List Int) (p : Int) (ks : List Kind) (ps : List Point) (m : Int) : Bool:=Qf9o bs && (decide (0 ≤ p) && (decide (p ≤ 880000) && (Qib4 ks ps && (decide (1 ≤ ps.length) && (decide (1 ≤ m) && decide (m ≤ 24))))))
noncomputable def Qfl5 : Ent Ty El:=⟨[.io,.ro,.ro],0,fun a h=>match a,h with
 | [.ptr 0 0,.agg [.sl .kind ks,.sl .point ps],.int .i64 m],[.box [.sl .u8 bs,.int .i64 p]]=>some (chgsK bs p ks ps m,.sl .chg (dChgs bs p ks ps m).l,[.box [.sl .u8 bs,.int .i64 (dChgs bs p ks ps m).p]])
 | _,_=>none⟩
end Lx
namespace Lx
open Go Go.Proofs
noncomputable def Qgih : RE Ty El:=⟨Tryz.prog,CP,[(Qpxs,Q7v2),(Qchm,Q2vb),(Qwqy,Q0t5)],Tryz.f90,1,[],[(4,[(0,.any),(3,.any),(4,.any),(5,.any)])]⟩
theorem Qe50 : REOK Qgih Qhy2:=⟨CP_ok,(TabOK.cons Q0e7 (TabOK.cons Qyvd (TabOK.cons Qnck Qye1))),by kernel_rfl,by kernel_rfl⟩
theorem Qhjm (bs : List Int) (p : Int) (ks : List Kind) (ps : List Point) : aRun Qgih 600 false (body0 Qgih.fn) (Q4gm Qgih.fn [.ptr 0 0,.agg [.sl .kind ks,.sl .point ps]] [.box [.sl .u8 bs,.int .i64 p]]) =
 ifb (posOk p) (ifb (IntKind.i64.wrap ((1 : Int) + pickV bs p (5 : Int)) == (5 : Int)) (ifb (posOk (p + 1)) (ifb (pickV bs (p + 1) (2 : Int) == (0 : Int)) (some (.go (Qu6t Qgih.fn 4) [.ptr 0 0,.ptr 1 0,.ptr 2 0,.int .i64 4] [.box [.sl .u8 bs,.int .i64 (p + 1 + 1)],.box [.sl .kind ks,.sl .point ps],.box [.str #[].toList,.int .i64 0,.int .i64 0,.str #[].toList]])) (some (.go (Qu6t Qgih.fn 4) [.ptr 0 0,.ptr 1 0,.ptr 2 0,.int .i64 (IntKind.i64.wrap ((1 : Int) + pickV bs p (5 : Int)))] [.box [.sl .u8 bs,.int .i64 (p + 1 + 1)],.box [.sl .kind ks,.sl .point ps],.box [.str #[].toList,.int .i64 0,.int .i64 0,.str #[].toList]]))) (none)) (some (.go (Qu6t Qgih.fn 4) [.ptr 0 0,.ptr 1 0,.ptr 2 0,.int .i64 (IntKind.i64.wrap ((1 : Int) + pickV bs p (5 : Int)))] [.box [.sl .u8 bs,.int .i64 (p + 1)],.box [.sl .kind ks,.sl .point ps],.box [.str #[].toList,.int .i64 0,.int .i64 0,.str #[].toList]]))) (none):=by kernel_rfl
theorem Qczd (x0 : Int) (x1 : List (El .u8)) (x2 : Int) (x3 : List (El .kind)) (x4 : List (El .point)) (x5 : Str) (x6 : Int) (x7 : Int) (x8 : Str) : aRun Qgih 600 true (Qu6t Qgih.fn 4) (cutSt Qgih.fn (Q1m4 Qgih (Qu6t Qgih.fn 4)) [.ptr 0 0,.ptr 1 0,.ptr 2 0,.int .i64 x0] [.box [.sl .u8 x1,.int .i64 x2],.box [.sl .kind x3,.sl .point x4],.box [.str x5,.int .i64 x6,.int .i64 x7,.str x8]]) =
 ifb (rdOk x1 x2 && decide ((0 : Nat) < [#[(107 : UInt8),(108 : UInt8),(49 : UInt8)].toList, #[(107 : UInt8),(108 : UInt8),(49 : UInt8)].toList, #[(107 : UInt8),(108 : UInt8),(49 : UInt8)].toList, #[(98 : UInt8),(97 : UInt8),(45 : UInt8),(50 : UInt8)].toList, #[(98 : UInt8),(97 : UInt8),(45 : UInt8),(50 : UInt8)].toList, #[(108 : UInt8),(104 : UInt8),(51 : UInt8)].toList, #[(120 : UInt8)].toList].length)) (ifb (posOk (x2 + 1)) (ifb (valK x1 (x2 + 1 + 1) x3 x4) (some (.ret (.agg [.str (ofV x1 x2 [#[(107 : UInt8),(108 : UInt8),(49 : UInt8)].toList, #[(107 : UInt8),(108 : UInt8),(49 : UInt8)].toList, #[(107 : UInt8),(108 : UInt8),(49 : UInt8)].toList, #[(98 : UInt8),(97 : UInt8),(45 : UInt8),(50 : UInt8)].toList, #[(98 : UInt8),(97 : UInt8),(45 : UInt8),(50 : UInt8)].toList, #[(108 : UInt8),(104 : UInt8),(51 : UInt8)].toList, #[(120 : UInt8)].toList]),.int .i64 x0,.int .i64 (IntKind.i64.wrap ((1 : Int) + pickV x1 (x2 + 1) (12 : Int))),.str ((dVal x1 (x2 + 1 + 1) x3 x4 x0).s)]) [.box [.sl .u8 x1,.int .i64 ((dVal x1 (x2 + 1 + 1) x3 x4 x0).p)]])) (none)) (none)) (none):=by kernel_rfl
theorem Q7ox {bs : List Int} {p q w n : Int} {f v : Str} (h1 : szV v = true) (h2 : p ≤ q) (h3 : q ≤ p + 30) : ∃ x : ChgP,(AV.agg [.str f,.int .i64 w,.int .i64 n,.str v] : AV Ty El) = .agg [.str x.c.flight,.int .i64 x.c.what,.int .i64 x.c.number,.str x.c.value] ∧ ([.box [.sl .u8 bs,.int .i64 q]] : List (AObj Ty El)) = [.box [.sl .u8 bs,.int .i64 x.p]] ∧ Qi1t p x:=⟨⟨⟨f,w,n,v⟩,q⟩,rfl,rfl,h1,h2,h3⟩
theorem Qnhc (bs : List Int) (p : Int) (ks : List Kind) (ps : List Point) (hg : chgK bs p ks ps = true) : Qewq Tryz.prog CP Qhy2 [.ptr 0 0,.agg [.sl .kind ks,.sl .point ps]] [.box [.sl .u8 bs,.int .i64 p]] (.agg [.str (dChg bs p ks ps).c.flight,.int .i64 (dChg bs p ks ps).c.what,.int .i64 (dChg bs p ks ps).c.number,.str (dChg bs p ks ps).c.value]) [.box [.sl .u8 bs,.int .i64 (dChg bs p ks ps).p]] ∧ Qi1t p (dChg bs p ks ps):=by
 simp only [chgK,qaT,qdT] at hg
 obtain ⟨hbs,h0,h9,h16,hn,h1⟩:=hg
 have ps0 : ∀ (q : Int),p ≤ q → q ≤ p + 10 → posOk q = true:=fun q h2 h3=>Q8s4 (by omega) (by omega)
 have rd : ∀ (q : Int) (l : List Str),p ≤ q → q ≤ p + 10 → 0 < l.length → (rdOk bs q && decide (0 < l.length)) = true:=fun q l h2 h3 hl=>by rw [rdOk,hbs,ps0 q h2 h3,decide_eq_true hl]; rfl
 have vl : ∀ (q w : Int),p ≤ q → q ≤ p + 10 → valK bs q ks ps = true ∧ szV (dVal bs q ks ps w).s = true ∧ p ≤ (dVal bs q ks ps w).p ∧ (dVal bs q ks ps w).p ≤ p + 30:=fun q w h2 h3=>by
  have hv : valK bs q ks ps = true:=by simp only [valK,rdK,qaT,qdT]; exact ⟨⟨hbs,by omega,by omega⟩,h16,hn,h1⟩
  obtain ⟨a1,a2,a3⟩:=(Qpyo bs q ks ps w hv).2
  exact ⟨hv,decide_eq_true (by omega),by omega,by omega⟩
 have hE : CallE Qgih.P Qgih.C Qhy2 [.ptr 0 0,.agg [.sl .kind ks,.sl .point ps]] [.box [.sl .u8 bs,.int .i64 p]] (fun v h=>∃ x : ChgP,v = .agg [.str x.c.flight,.int .i64 x.c.what,.int .i64 x.c.number,.str x.c.value] ∧ h = [.box [.sl .u8 bs,.int .i64 x.p]] ∧ Qi1t p x):=by
  refine CallE.of Qe50 (by kernel_rfl) (Qhjm bs p ks ps) ?_
  have hc : ∀ (q w : Int),p ≤ q → q ≤ p + 5 → CutE Qgih Qhy2 4 [.ptr 0 0,.ptr 1 0,.ptr 2 0,.int .i64 w] [.box [.sl .u8 bs,.int .i64 q],.box [.sl .kind ks,.sl .point ps],.box [.str [],.int .i64 0,.int .i64 0,.str []]] (fun v h=>∃ x : ChgP,v = .agg [.str x.c.flight,.int .i64 x.c.what,.int .i64 x.c.number,.str x.c.value] ∧ h = [.box [.sl .u8 bs,.int .i64 x.p]] ∧ Qi1t p x):=fun q w h2 h3=>by
   refine CutE.of Qe50 rfl (Qczd w bs q ks ps [] 0 0 []) ?_
   obtain ⟨v1,v2,v3,v4⟩:=vl (q + 1 + 1) w (by omega) (by omega)
   exact SatE.need (rd _ _ (by omega) (by omega) (Nat.zero_lt_succ _)) (SatE.need (ps0 _ (by omega) (by omega)) (SatE.need v1 (SatE.ret (Q7ox v2 v3 v4))))
  refine SatE.need (ps0 _ (by omega) (by omega)) (SatE.ifb (fun _=>SatE.need (ps0 _ (by omega) (by omega)) (SatE.ifb (fun _=>?_) (fun _=>?_))) (fun _=>?_))
  ·exact SatE.cut (hc _ _ (by omega) (by omega))
  ·exact SatE.cut (hc _ _ (by omega) (by omega))
  ·exact SatE.cut (hc _ _ (by omega) (by omega))
 obtain ⟨v,H',h,x,rfl,rfl,hx⟩:=hE
 unfold dChg
 exact Qk78 (p:=fun x : ChgP=>Qewq Tryz.prog CP Qhy2 [.ptr 0 0,.agg [.sl .kind ks,.sl .point ps]] [.box [.sl .u8 bs,.int .i64 p]] (.agg [.str x.c.flight,.int .i64 x.c.what,.int .i64 x.c.number,.str x.c.value]) [.box [.sl .u8 bs,.int .i64 x.p]] ∧ Qi1t p x) ⟨x,h,hx⟩
theorem Q20h (bs : List Int) (p : Int) (ks : List Kind) (ps : List Point) (hg : chgK bs p ks ps = true) : Qewq Tryz.prog CP Qhy2 [.ptr 0 0,.agg [.sl .kind ks,.sl .point ps]] [.box [.sl .u8 bs,.int .i64 p]] (.agg [.str (dChg bs p ks ps).c.flight,.int .i64 (dChg bs p ks ps).c.what,.int .i64 (dChg bs p ks ps).c.number,.str (dChg bs p ks ps).c.value]) [.box [.sl .u8 bs,.int .i64 (dChg bs p ks ps).p]]:=by
 exact (Qnhc bs p ks ps hg).1
theorem Q3dh : EntOK Tryz.prog CP Qhy2 Qiyn:=by
 refine ⟨eob (by kernel_rfl),fun _ _ _ _ h=>?_⟩
 simp only [Qiyn] at h
 split at h
 ·obtain ⟨hg,rfl,rfl⟩:=eoh h
  exact Q20h _ _ _ _ hg
 ·cases h

noncomputable def Q9ws : RE Ty El:=⟨Tryz.prog,CP,[(Qpxs,Q7v2),(Qhy2,Qiyn)],Tryz.f150,1,[.ro .chg],[(3,[(0,.any),(4,.any),(7,.any),(8,.any)])]⟩
theorem Qtkw : REOK Q9ws Q43w:=⟨CP_ok,(TabOK.cons Q0e7 (TabOK.cons Q3dh Qye1)),by kernel_rfl,by kernel_rfl⟩
theorem Qr5u (bs : List Int) (p : Int) (ks : List Kind) (ps : List Point) (m : Int) : aRun Q9ws 600 false (body0 Q9ws.fn) (Q4gm Q9ws.fn [.ptr 0 0,.agg [.sl .kind ks,.sl .point ps],.int .i64 m] [.box [.sl .u8 bs,.int .i64 p]]) =
 ifb (posOk p) (some (.go (Qu6t Q9ws.fn 3) [.ptr 0 0,.ptr 1 0,.own 2 [] 0,.int .i64 (pickV bs p m)] [.box [.sl .u8 bs,.int .i64 (p + 1)],.box [.sl .kind ks,.sl .point ps],.row .chg [] 0 0 0 .no])) (none):=by kernel_rfl
theorem Qv2y (x0 : Int) (x1 : List (El .u8)) (x2 : Int) (x3 : List (El .kind)) (x4 : List (El .point)) (x5 : List (El .chg)) : aRun Q9ws 600 true (Qu6t Q9ws.fn 3) (cutSt Q9ws.fn (Q1m4 Q9ws (Qu6t Q9ws.fn 3)) [.ptr 0 0,.ptr 1 0,.own 2 [] 0,.int .i64 x0] [.box [.sl .u8 x1,.int .i64 x2],.box [.sl .kind x3,.sl .point x4],.row .chg x5 0 0 0 .no]) =
 ifb (decide (x0 > 0)) (ifb (chgK x1 x2 x3 x4) (ifb (decide ((x5.length + [(dChg x1 x2 x3 x4).c].length) * Qbhn Q9ws.P (51 : Nat) ≤ (140737488355328 : Nat))) (some (.go (Qu6t Q9ws.fn 3) [.ptr 0 0,.ptr 1 0,.own 2 [] 0,.int .i64 (IntKind.i64.wrap (x0 - 1))] [.box [.sl .u8 x1,.int .i64 ((dChg x1 x2 x3 x4).p)],.box [.sl .kind x3,.sl .point x4],.row .chg (x5 ++ [(dChg x1 x2 x3 x4).c]) 0 0 0 .no])) (none)) (none)) (some (.ret (.sl .chg x5) [.box [.sl .u8 x1,.int .i64 x2]])):=by kernel_rfl
theorem Qpkk (bs : List Int) (ks : List Kind) (ps : List Point) (hbs : Qf9o bs = true) (hb : Qib4 ks ps = true) (h1 : 1 ≤ ps.length) : ∀ (d : Nat) (l : List Chg) (q : Int),0 ≤ q → q + 30 * d ≤ 890000 → l.length + d ≤ 24 → l.all (fun c=>szV c.value) = true →
  CutE Q9ws Q43w 3 [.ptr 0 0,.ptr 1 0,.own 2 [] 0,.int .i64 (d : Int)] [.box [.sl .u8 bs,.int .i64 q],.box [.sl .kind ks,.sl .point ps],.row .chg l 0 0 0 .no] (fun v h=>∃ x : ChgsP,v = .sl .chg x.l ∧ h = [.box [.sl .u8 bs,.int .i64 x.p]] ∧ x.l.length ≤ 24 ∧ x.l.all (fun c=>szV c.value) = true ∧ q ≤ x.p ∧ x.p ≤ q + 30 * d):=by
 have hbb : Qbhn Q9ws.P 51 ≤ 256:=of_decide_eq_true (by kernel_rfl)
 intro d
 induction d with
 | zero =>
  intro l q h0 hq hl hz
  refine CutE.of Qtkw rfl (Qv2y (0 : Nat) bs q ks ps l) ?_
  exact SatE.ret ⟨⟨l,q⟩,rfl,rfl,by simpa using hl,hz,by simp,by simp⟩
 | succ d ih =>
  intro l q h0 hq hl hz
  refine CutE.of Qtkw rfl (Qv2y ((d + 1 : Nat) : Int) bs q ks ps l) ?_
  have hw : IntKind.i64.wrap (((d + 1 : Nat) : Int) - 1) = (d : Int):=by rw [Qbrg] <;> omega
  have hc : chgK bs q ks ps = true:=by simp only [chgK,qaT,qdT]; exact ⟨hbs,h0,by omega,(Qd1y hb).1,(Qd1y hb).2,h1⟩
  obtain ⟨c1,c2,c3⟩:=(Qnhc bs q ks ps hc).2
  rw [show decide (((d + 1 : Nat) : Int) > 0) = true from decide_eq_true (by omega),hc,hw]
  simp only [Qd8q]
  refine SatE.need (Q1mk hbb (by simp; omega)) (SatE.mono (SatE.cut (ih (l ++ [(dChg bs q ks ps).c]) (dChg bs q ks ps).p (by omega) (by omega) (by simp; omega) (by rw [List.all_append,hz]; simpa using c1))) ?_)
  rintro v h ⟨x,rfl,rfl,a1,a2,a3,a4⟩
  exact ⟨x,rfl,rfl,a1,a2,by omega,by omega⟩
theorem Qbm6 (bs : List Int) (p : Int) (ks : List Kind) (ps : List Point) (m : Int) (hg : chgsK bs p ks ps m = true) : Qewq Tryz.prog CP Q43w [.ptr 0 0,.agg [.sl .kind ks,.sl .point ps],.int .i64 m] [.box [.sl .u8 bs,.int .i64 p]] (.sl .chg (dChgs bs p ks ps m).l) [.box [.sl .u8 bs,.int .i64 (dChgs bs p ks ps m).p]] ∧ Q4tv p (dChgs bs p ks ps m):=by
 simp only [chgsK,qaT,qdT] at hg
 obtain ⟨hbs,h0,h9,hb,h1,hm,hm2⟩:=hg
 have hE : CallE Q9ws.P Q9ws.C Q43w [.ptr 0 0,.agg [.sl .kind ks,.sl .point ps],.int .i64 m] [.box [.sl .u8 bs,.int .i64 p]] (fun v h=>∃ x : ChgsP,v = .sl .chg x.l ∧ h = [.box [.sl .u8 bs,.int .i64 x.p]] ∧ Q4tv p x):=by
  refine CallE.of Qtkw (by kernel_rfl) (Qr5u bs p ks ps m) ?_
  obtain ⟨a1,a2⟩:=Q5va (n:=m) hbs (Q8s4 (q:=p) (by omega) (by omega)) hm
  refine SatE.need (Q8s4 (by omega) (by omega)) ?_
  obtain ⟨d,hd⟩:=Int.eq_ofNat_of_zero_le a1
  rw [hd]
  refine SatE.mono (SatE.cut (Qpkk bs ks ps hbs hb h1 d [] (p + 1) (by omega) (by omega) (by simp; omega) rfl)) ?_
  rintro v h ⟨x,rfl,rfl,b1,b2,b3,b4⟩
  exact ⟨x,rfl,rfl,b1,b2,by omega,by omega⟩
 obtain ⟨v,H',h,x,rfl,rfl,hx⟩:=hE
 unfold dChgs
 exact Qk78 (p:=fun x : ChgsP=>Qewq Tryz.prog CP Q43w [.ptr 0 0,.agg [.sl .kind ks,.sl .point ps],.int .i64 m] [.box [.sl .u8 bs,.int .i64 p]] (.sl .chg x.l) [.box [.sl .u8 bs,.int .i64 x.p]] ∧ Q4tv p x) ⟨x,h,hx⟩
theorem Q3xm (bs : List Int) (p : Int) (ks : List Kind) (ps : List Point) (m : Int) (hg : chgsK bs p ks ps m = true) : Qewq Tryz.prog CP Q43w [.ptr 0 0,.agg [.sl .kind ks,.sl .point ps],.int .i64 m] [.box [.sl .u8 bs,.int .i64 p]] (.sl .chg (dChgs bs p ks ps m).l) [.box [.sl .u8 bs,.int .i64 (dChgs bs p ks ps m).p]]:=by
 exact (Qbm6 bs p ks ps m hg).1
theorem Qel0 : EntOK Tryz.prog CP Q43w Qfl5:=by
 refine ⟨eob (by kernel_rfl),fun _ _ _ _ h=>?_⟩
 simp only [Qfl5] at h
 split at h
 ·obtain ⟨hg,rfl,rfl⟩:=eoh h
  exact Q3xm _ _ _ _ _ hg
 ·cases h
end Lx
namespace Lx
open Go Go.Proofs
structure TkP where
 es : List Entry
 cs : List Int
 deriving Inhabited
noncomputable def dTk (ks : List Kind) (ps : List Point) (es : List Entry) (l : List Chg) : TkP:=drawn (fun x=>Qewq Tryz.prog CP Qlb4 [.agg [.sl .kind ks,.sl .point ps,.sl .entry es],.sl .chg l] [] (.tup [.agg [.sl .kind ks,.sl .point ps,.sl .entry x.es],.sl .int x.cs]) [] ∧ goodE ks ps x.es = true)
def tkK (ks : List Kind) (ps : List Point) (es : List Entry) (l : List Chg) : Bool:=goodE ks ps es && (decide (l.length ≤ 1000) && l.all (fun c=>szV c.value))
noncomputable def Q2m7 : Ent Ty El:=⟨[.ro,.ro],0,fun a h=>match a,h with
 | [.agg [.sl .kind ks,.sl .point ps,.sl .entry es],.sl .chg l],[]=>some (tkK ks ps es l,.tup [.agg [.sl .kind ks,.sl .point ps,.sl .entry (dTk ks ps es l).es],.sl .int (dTk ks ps es l).cs],[])
 | _,_=>none⟩
end Lx
namespace Lx
open Go Go.Proofs
noncomputable def Qkxy : RE Ty El:=⟨Tryz.prog,CP,[(Qdfk,Q124),(Qfx9,Qc1o),(Qbeb,Q8t5)],Tryz.f63,0,[.agg [.ro .kind,.ro .point,.ro .entry],.ro .int],[(6,[(1,.any),(4,.any),(6,.any),(7,.box [.ro .kind,.ro .point,.ro .entry]),(8,.any)])]⟩
theorem Qdq1 : REOK Qkxy Qlb4:=⟨CP_ok,(TabOK.cons Q8cq (TabOK.cons Qaka (TabOK.cons Q2a7 Qye1))),by kernel_rfl,by kernel_rfl⟩
theorem Qw5w (ks : List Kind) (ps : List Point) (es : List Entry) (l : List Chg) : aRun Qkxy 600 false (body0 Qkxy.fn) (Q4gm Qkxy.fn [.agg [.sl .kind ks,.sl .point ps,.sl .entry es],.sl .chg l] []) =
 ifb (szB es) (ifb (!Qn0o ks ps es) (some (.ret (.tup [.agg [.sl .kind [],.sl .point [],.sl .entry []],.sl .int []]) [])) (ifb (Q8cx ks ps es) (some (.go (Qu6t Qkxy.fn 6) [.sl .chg l,.ptr 0 0,.own 1 [] 0,.ptr 2 0,.int .i64 0] [.box [.nils,.nils,.nils],.row .int [] 0 0 0 .no,.box [.sl .kind ks,.sl .point ps,.sl .entry es]])) (none))) (none):=by kernel_rfl
theorem Qmr7 (x0 : List (El .chg)) (x1 : Int) (x2 : List (El .int)) (x3 : List (El .kind)) (x4 : List (El .point)) (x5 : List (El .entry)) : aRun Qkxy 600 true (Qu6t Qkxy.fn 6) (cutSt Qkxy.fn (Q1m4 Qkxy (Qu6t Qkxy.fn 6)) [.sl .chg x0,.ptr 0 0,.own 1 [] 0,.ptr 2 0,.int .i64 x1] [.box [.nils,.nils,.nils],.row .int x2 0 0 0 .no,.box [.sl .kind x3,.sl .point x4,.sl .entry x5]]) =
 ifb (decide (x1 < (↑x0.length : Int))) (ifb (inb x1 x0.length) (ifb (goodB x3 x4 x5 && szV (x0.getD x1.toNat (Qkxy.C.dflt Ty.chg)).value) (ifb (decide ((x2.length + [(takeF x3 x4 x5 (x0.getD x1.toNat (Qkxy.C.dflt Ty.chg))).code].length) * Qbhn Qkxy.P (3 : Nat) ≤ (140737488355328 : Nat))) (some (.go (Qu6t Qkxy.fn 6) [.sl .chg x0,.ptr 0 0,.own 1 [] 0,.ptr 2 0,.int .i64 (IntKind.i64.wrap (x1 + 1))] [.box [.nils,.nils,.nils],.row .int (x2 ++ [(takeF x3 x4 x5 (x0.getD x1.toNat (Qkxy.C.dflt Ty.chg))).code]) 0 0 0 .no,.box [.sl .kind ((takeF x3 x4 x5 (x0.getD x1.toNat (Qkxy.C.dflt Ty.chg))).ks),.sl .point ((takeF x3 x4 x5 (x0.getD x1.toNat (Qkxy.C.dflt Ty.chg))).ps),.sl .entry ((takeF x3 x4 x5 (x0.getD x1.toNat (Qkxy.C.dflt Ty.chg))).es)]])) (none)) (none)) (none)) (some (.ret (.tup [.agg [.sl .kind x3,.sl .point x4,.sl .entry x5],.sl .int x2]) [])):=by kernel_rfl
theorem Qq9y (ks : List Kind) (ps : List Point) (l : List Chg) (g0 : l.length ≤ 1000) (g1 : l.all (fun c=>szV c.value) = true) : ∀ (d i : Nat) (es : List Entry) (cs : List Int),i + d = l.length → cs.length = i → goodE ks ps es = true →
  CutE Qkxy Qlb4 6 [.sl .chg l,.ptr 0 0,.own 1 [] 0,.ptr 2 0,.int .i64 (i : Int)] [.box [.nils,.nils,.nils],.row .int cs 0 0 0 .no,.box [.sl .kind ks,.sl .point ps,.sl .entry es]] (fun v h=>∃ x : TkP,v = (.tup [.agg [.sl .kind ks,.sl .point ps,.sl .entry x.es],.sl .int x.cs]) ∧ h = [] ∧ goodE ks ps x.es = true):=by
 have hbb : Qbhn Qkxy.P 3 ≤ 256:=of_decide_eq_true (by kernel_rfl)
 intro d
 induction d with
 | zero =>
  intro i es cs hi hc hg
  refine CutE.of Qdq1 rfl (Qmr7 l i cs ks ps es) ?_
  rw [show decide ((i : Int) < (l.length : Int)) = false from decide_eq_false (by omega),Qk7y]
  exact SatE.ret ⟨⟨es,cs⟩,rfl,rfl,hg⟩
 | succ d ih =>
  intro i es cs hi hc hg
  refine CutE.of Qdq1 rfl (Qmr7 l i cs ks ps es) ?_
  have hlt : i < l.length:=by omega
  have hw : IntKind.wrap .i64 ((i : Int) + 1) = ((i + 1 : Nat) : Int):=by rw [Qbrg] <;> omega
  have hx : l.getD (i : Int).toNat (Qkxy.C.dflt .chg) = l[i]:=by simp [hlt]
  have hin : inb (i : Int) l.length = true:=by simp only [inb,qaT,qdT]; omega
  have hlo : decide ((i : Int) < (l.length : Int)) = true:=decide_eq_true (by omega)
  have hv:=qlA.1 g1 _ (List.getElem_mem hlt)
  obtain ⟨t1,t2,t3⟩:=Qy7k (c:=l[i]) hg hv
  have hgb:=hg
  simp only [goodE,qaT] at hgb
  rw [hlo,hin,hx,hw,hgb.2,hv,t1,t2]
  simp only [Qd8q,Bool.and_true]
  exact SatE.need (Q1mk hbb (by simp; omega)) (SatE.cut (ih (i + 1) _ _ (by omega) (by simp; omega) t3))
theorem Qhv6 (ks : List Kind) (ps : List Point) (es : List Entry) (l : List Chg) (hg : tkK ks ps es l = true) : Qewq Tryz.prog CP Qlb4 [.agg [.sl .kind ks,.sl .point ps,.sl .entry es],.sl .chg l] [] (.tup [.agg [.sl .kind ks,.sl .point ps,.sl .entry (dTk ks ps es l).es],.sl .int (dTk ks ps es l).cs]) [] ∧ goodE ks ps (dTk ks ps es l).es = true:=by
 simp only [tkK,qaT,qdT] at hg
 obtain ⟨h0,h1,h2⟩:=hg
 have h3:=h0
 simp only [goodE,goodB,qaT] at h3
 obtain ⟨b1,b2,b3⟩:=h3
 have hE : CallE Qkxy.P Qkxy.C Qlb4 [.agg [.sl .kind ks,.sl .point ps,.sl .entry es],.sl .chg l] [] (fun v h=>∃ x : TkP,v = (.tup [.agg [.sl .kind ks,.sl .point ps,.sl .entry x.es],.sl .int x.cs]) ∧ h = [] ∧ goodE ks ps x.es = true):=by
  refine CallE.of Qdq1 (by kernel_rfl) (Qw5w ks ps es l) ?_
  rw [b1,b2,b3]
  exact SatE.cut (Qq9y ks ps l h1 h2 l.length 0 es [] (by omega) rfl h0)
 obtain ⟨v,H',h,x,rfl,rfl,hx⟩:=hE
 exact Qk78 (p:=fun x : TkP=>Qewq Tryz.prog CP Qlb4 [.agg [.sl .kind ks,.sl .point ps,.sl .entry es],.sl .chg l] [] (.tup [.agg [.sl .kind ks,.sl .point ps,.sl .entry x.es],.sl .int x.cs]) [] ∧ goodE ks ps x.es = true) ⟨x,h,hx⟩
theorem Qqvt (ks : List Kind) (ps : List Point) (es : List Entry) (l : List Chg) (hg : tkK ks ps es l = true) : Qewq Tryz.prog CP Qlb4 [.agg [.sl .kind ks,.sl .point ps,.sl .entry es],.sl .chg l] [] (.tup [.agg [.sl .kind ks,.sl .point ps,.sl .entry (dTk ks ps es l).es],.sl .int (dTk ks ps es l).cs]) []:=by
 exact (Qhv6 ks ps es l hg).1
theorem Qyvn : EntOK Tryz.prog CP Qlb4 Q2m7:=by
 refine ⟨eob (by kernel_rfl),fun _ _ _ _ h=>?_⟩
 simp only [Q2m7] at h
 split at h
 ·obtain ⟨hg,rfl,rfl⟩:=eoh h
  exact Qqvt _ _ _ _ hg
 ·cases h
end Lx
namespace Lx
open Go Go.Proofs
structure BkP where
 es : List Entry
 p : Int
 deriving Inhabited
def Qv5n (ks : List Kind) (ps : List Point) (p : Int) (x : BkP) : Prop:=goodE ks ps x.es = true ∧ p ≤ x.p ∧ x.p ≤ p + 1000
noncomputable def dBook (bs : List Int) (p : Int) (ks : List Kind) (ps : List Point) : BkP:=drawn (fun x=>Qewq Tryz.prog CP Q604 [.ptr 0 0,.agg [.sl .kind ks,.sl .point ps]] [.box [.sl .u8 bs,.int .i64 p]] (.agg [.sl .kind ks,.sl .point ps,.sl .entry x.es]) [.box [.sl .u8 bs,.int .i64 x.p]] ∧ Qv5n ks ps p x)
def bkK (bs : List Int) (p : Int) (ks : List Kind) (ps : List Point) : Bool:=Qf9o bs && (decide (0 ≤ p) && (decide (p ≤ 870000) && (Qib4 ks ps && decide (1 ≤ ps.length))))
noncomputable def Qnfe : Ent Ty El:=⟨[.io,.ro],0,fun a h=>match a,h with
 | [.ptr 0 0,.agg [.sl .kind ks,.sl .point ps]],[.box [.sl .u8 bs,.int .i64 p]]=>some (bkK bs p ks ps,.agg [.sl .kind ks,.sl .point ps,.sl .entry (dBook bs p ks ps).es],[.box [.sl .u8 bs,.int .i64 (dBook bs p ks ps).p]])
 | _,_=>none⟩
theorem Qkew {ks : List Kind} {ps : List Point} (h : Qib4 ks ps = true) : goodE ks ps [] = true:=by
 have h0:=h
 simp only [Qib4,qaT,qdT] at h
 have k1 : Q6lz ks = true:=by simp only [Q6lz,Bool.and_true,qdT]; omega
 have k2 : Qjyp ps = true:=by simp only [Qjyp,Bool.and_true,qdT]; omega
 have k3 : Qn0o ks ps [] = true:=by rw [Qn0o,h0]; rfl
 have k4 : Q8cx ks ps [] = true:=by rw [Q8cx,k1,k2]; rfl
 rw [goodE,goodB,k3,k4]; rfl
end Lx
namespace Lx
open Go Go.Proofs
noncomputable def Qoc9 : RE Ty El:=⟨Tryz.prog,CP,[(Qpxs,Q7v2),(Qbeb,Q8t5),(Qwqy,Q0t5),(Qlb4,Q2m7),(Q43w,Qfl5),(Qstj,Qmce)],Tryz.f142,1,[.agg [.ro .kind,.ro .point,.ro .entry]],[(4,[(0,.box [.ro .kind,.ro .point,.ro .entry]),(3,.box [.ro .kind,.ro .point,.ro .entry]),(4,.box [.ro .kind,.ro .point,.ro .entry]),(5,.box [.ro .kind,.ro .point,.ro .entry]),(6,.box [.ro .kind,.ro .point,.ro .entry])]),(10,[(4,.box [.ro .kind,.ro .point,.ro .entry]),(5,.box [.ro .kind,.ro .point,.ro .entry]),(7,.box [.ro .kind,.ro .point,.ro .entry])]),(7,[(0,.box [.ro .kind,.ro .point,.ro .entry]),(3,.box [.ro .kind,.ro .point,.ro .entry]),(4,.box [.ro .kind,.ro .point,.ro .entry]),(5,.box [.ro .kind,.ro .point,.ro .entry])])]⟩
theorem Q692 : REOK Qoc9 Q604:=⟨CP_ok,(TabOK.cons Q0e7 (TabOK.cons Q2a7 (TabOK.cons Qnck (TabOK.cons Qyvn (TabOK.cons Qel0 (TabOK.cons Qqii Qye1)))))),by kernel_rfl,by kernel_rfl⟩
theorem Qh82 (bs : List Int) (p : Int) (ks : List Kind) (ps : List Point) : aRun Qoc9 600 false (body0 Qoc9.fn) (Q4gm Qoc9.fn [.ptr 0 0,.agg [.sl .kind ks,.sl .point ps]] [.box [.sl .u8 bs,.int .i64 p]]) =
 ifb (posOk p) (ifb (decide (pickV bs p (3 : Int) > (0 : Int))) (some (.go (Qu6t Qoc9.fn 4) [.ptr 0 0,.ptr 1 0,.ptr 2 0,.ptr 3 0,.int .i64 1] [.box [.sl .u8 bs,.int .i64 (p + 1)],.box [.sl .kind ks,.sl .point ps],.box [.sl .kind [],.sl .point [],.sl .entry []],.box [.sl .kind ks,.sl .point ps,.sl .entry []]])) (some (.go (Qu6t Qoc9.fn 7) [.ptr 0 0,.ptr 1 0,.ptr 2 0,.ptr 3 0] [.box [.sl .u8 bs,.int .i64 (p + 1)],.box [.sl .kind ks,.sl .point ps],.box [.sl .kind [],.sl .point [],.sl .entry []],.box [.sl .kind ks,.sl .point ps,.sl .entry []]]))) (none):=by kernel_rfl
theorem Qbfw (x0 : Int) (x1 : List (El .u8)) (x2 : Int) (x3 : List (El .kind)) (x4 : List (El .point)) (x5 : List (El .kind)) (x6 : List (El .point)) (x7 : List (El .entry)) (x8 : List (El .kind)) (x9 : List (El .point)) (x10 : List (El .entry)) : aRun Qoc9 600 true (Qu6t Qoc9.fn 4) (cutSt Qoc9.fn (Q1m4 Qoc9 (Qu6t Qoc9.fn 4)) [.ptr 0 0,.ptr 1 0,.ptr 2 0,.ptr 3 0,.int .i64 x0] [.box [.sl .u8 x1,.int .i64 x2],.box [.sl .kind x3,.sl .point x4],.box [.sl .kind x5,.sl .point x6,.sl .entry x7],.box [.sl .kind x8,.sl .point x9,.sl .entry x10]]) =
 ifb (decide (x0 ≤ 4)) (ifb (valK x1 x2 x3 x4) (ifb (goodB x8 x9 x10 && szV (dVal x1 x2 x3 x4 x0).s) (some (.go (Qu6t Qoc9.fn 4) [.ptr 0 0,.ptr 1 0,.ptr 2 0,.ptr 3 0,.int .i64 (IntKind.i64.wrap (x0 + 1))] [.box [.sl .u8 x1,.int .i64 ((dVal x1 x2 x3 x4 x0).p)],.box [.sl .kind x3,.sl .point x4],.box [.sl .kind x5,.sl .point x6,.sl .entry x7],.box [.sl .kind ((takeF x8 x9 x10 (Chg.mk #[(107 : UInt8),(108 : UInt8),(49 : UInt8)].toList x0 (1 : Int) (dVal x1 x2 x3 x4 x0).s)).ks),.sl .point ((takeF x8 x9 x10 (Chg.mk #[(107 : UInt8),(108 : UInt8),(49 : UInt8)].toList x0 (1 : Int) (dVal x1 x2 x3 x4 x0).s)).ps),.sl .entry ((takeF x8 x9 x10 (Chg.mk #[(107 : UInt8),(108 : UInt8),(49 : UInt8)].toList x0 (1 : Int) (dVal x1 x2 x3 x4 x0).s)).es)]])) (none)) (none)) (some (.go (Qu6t Qoc9.fn 7) [.ptr 0 0,.ptr 1 0,.ptr 2 0,.ptr 3 0] [.box [.sl .u8 x1,.int .i64 x2],.box [.sl .kind x3,.sl .point x4],.box [.sl .kind x5,.sl .point x6,.sl .entry x7],.box [.sl .kind x8,.sl .point x9,.sl .entry x10]])):=by kernel_rfl
theorem Qui8 (x0 : List (El .u8)) (x1 : Int) (x2 : List (El .kind)) (x3 : List (El .point)) (x4 : List (El .kind)) (x5 : List (El .point)) (x6 : List (El .entry)) (x7 : List (El .kind)) (x8 : List (El .point)) (x9 : List (El .entry)) : aRun Qoc9 600 true (Qu6t Qoc9.fn 7) (cutSt Qoc9.fn (Q1m4 Qoc9 (Qu6t Qoc9.fn 7)) [.ptr 0 0,.ptr 1 0,.ptr 2 0,.ptr 3 0] [.box [.sl .u8 x0,.int .i64 x1],.box [.sl .kind x2,.sl .point x3],.box [.sl .kind x4,.sl .point x5,.sl .entry x6],.box [.sl .kind x7,.sl .point x8,.sl .entry x9]]) =
 ifb (chgsK x0 x1 x2 x3 (24 : Int)) (ifb (tkK x7 x8 x9 (dChgs x0 x1 x2 x3 (24 : Int)).l) (ifb (posOk (dChgs x0 x1 x2 x3 (24 : Int)).p) (ifb (pickV x0 (dChgs x0 x1 x2 x3 (24 : Int)).p (16 : Int) == (0 : Int)) (some (.go (Qu6t Qoc9.fn 10) [.ptr 1 0,.ptr 2 0,.int .i64 0] [.box [.sl .u8 x0,.int .i64 ((dChgs x0 x1 x2 x3 (24 : Int)).p + 1)],.box [.sl .kind x4,.sl .point x5,.sl .entry x6],.box [.sl .kind x7,.sl .point x8,.sl .entry ((dTk x7 x8 x9 (dChgs x0 x1 x2 x3 (24 : Int)).l).es)]])) (some (.ret (.agg [.sl .kind x7,.sl .point x8,.sl .entry ((dTk x7 x8 x9 (dChgs x0 x1 x2 x3 (24 : Int)).l).es)]) [.box [.sl .u8 x0,.int .i64 ((dChgs x0 x1 x2 x3 (24 : Int)).p + 1)]]))) (none)) (none)) (none):=by kernel_rfl
theorem Qvgp (x0 : Int) (x1 : List (El .u8)) (x2 : Int) (x3 : List (El .kind)) (x4 : List (El .point)) (x5 : List (El .entry)) (x6 : List (El .kind)) (x7 : List (El .point)) (x8 : List (El .entry)) : aRun Qoc9 600 true (Qu6t Qoc9.fn 10) (cutSt Qoc9.fn (Q1m4 Qoc9 (Qu6t Qoc9.fn 10)) [.ptr 1 0,.ptr 2 0,.int .i64 x0] [.box [.sl .u8 x1,.int .i64 x2],.box [.sl .kind x3,.sl .point x4,.sl .entry x5],.box [.sl .kind x6,.sl .point x7,.sl .entry x8]]) =
 ifb (decide (x0 < 12)) (ifb (decide (0 ≤ x0) && decide (x0 < 10 ^ ((4 : Nat) + (1 : Nat)))) (ifb (decide (#[(102 : UInt8)].toList.length + List.length (dDec (4 : Nat) x0) ≤ (9223372036854775807 : Nat))) (ifb (goodB x6 x7 x8 && szV #[(50 : UInt8)].toList) (some (.go (Qu6t Qoc9.fn 10) [.ptr 1 0,.ptr 2 0,.int .i64 (IntKind.i64.wrap (x0 + 1))] [.box [.sl .u8 x1,.int .i64 x2],.box [.sl .kind x3,.sl .point x4,.sl .entry x5],.box [.sl .kind ((takeF x6 x7 x8 (Chg.mk (#[(102 : UInt8)].toList ++ dDec (4 : Nat) x0) (3 : Int) (5 : Int) #[(50 : UInt8)].toList)).ks),.sl .point ((takeF x6 x7 x8 (Chg.mk (#[(102 : UInt8)].toList ++ dDec (4 : Nat) x0) (3 : Int) (5 : Int) #[(50 : UInt8)].toList)).ps),.sl .entry ((takeF x6 x7 x8 (Chg.mk (#[(102 : UInt8)].toList ++ dDec (4 : Nat) x0) (3 : Int) (5 : Int) #[(50 : UInt8)].toList)).es)]])) (none)) (none)) (none)) (some (.ret (.agg [.sl .kind x6,.sl .point x7,.sl .entry x8]) [.box [.sl .u8 x1,.int .i64 x2]])):=by kernel_rfl
theorem Q8ao (bs : List Int) (ks : List Kind) (ps : List Point) (q : Int) (r0 : List Kind) (r1 : List Point) (r2 : List Entry) : ∀ (d i : Nat) (es : List Entry),i + d = 12 → goodE ks ps es = true →
  CutE Qoc9 Q604 10 [.ptr 1 0,.ptr 2 0,.int .i64 (i : Int)] [.box [.sl .u8 bs,.int .i64 q],.box [.sl .kind r0,.sl .point r1,.sl .entry r2],.box [.sl .kind ks,.sl .point ps,.sl .entry es]] (fun v h=>∃ x : BkP,v = (.agg [.sl .kind ks,.sl .point ps,.sl .entry x.es]) ∧ h = [.box [.sl .u8 bs,.int .i64 x.p]] ∧ goodE ks ps x.es = true ∧ q ≤ x.p ∧ x.p ≤ q + 0):=by
 intro d
 induction d with
 | zero =>
  intro i es hi hg
  refine CutE.of Q692 rfl (Qvgp i bs q r0 r1 r2 ks ps es) ?_
  rw [show decide ((i : Int) < 12) = false from decide_eq_false (by omega),Qk7y]
  exact SatE.ret ⟨⟨es,q⟩,rfl,rfl,hg,by simp,by simp⟩
 | succ d ih =>
  intro i es hi hg
  refine CutE.of Q692 rfl (Qvgp i bs q r0 r1 r2 ks ps es) ?_
  have hw : IntKind.i64.wrap ((i : Int) + 1) = ((i + 1 : Nat) : Int):=by rw [Qbrg] <;> omega
  obtain ⟨g1,l1⟩:=decs (n:=(i : Int)) (by omega) (by omega)
  have hgb:=hg
  simp only [goodE,qaT] at hgb
  have hz : szV #[(50 : UInt8)].toList = true:=decide_eq_true (by simp)
  obtain ⟨t1,t2,t3⟩:=Qy7k (c:=(Chg.mk (#[(102 : UInt8)].toList ++ dDec (4 : Nat) (i : Int)) (3 : Int) (5 : Int) #[(50 : UInt8)].toList)) hg hz
  rw [show decide ((i : Int) < 12) = true from decide_eq_true (by omega),hw,t1,t2,Qd8q]
  exact SatE.need g1 (SatE.need (decide_eq_true (by simp; omega)) (SatE.need (by rw [qaT]; exact ⟨hgb.2,hz⟩) (SatE.cut (ih (i + 1) _ (by omega) t3))))
theorem Q8ui (bs : List Int) (ks : List Kind) (ps : List Point) (hbs : Qf9o bs = true) (hb : Qib4 ks ps = true) (h1 : 1 ≤ ps.length) (q : Int) (h0 : 0 ≤ q) (hq : q ≤ 880000) (r0 : List Kind) (r1 : List Point) (r2 : List Entry) (es : List Entry) (hg : goodE ks ps es = true) :
  CutE Qoc9 Q604 7 [.ptr 0 0,.ptr 1 0,.ptr 2 0,.ptr 3 0] [.box [.sl .u8 bs,.int .i64 q],.box [.sl .kind ks,.sl .point ps],.box [.sl .kind r0,.sl .point r1,.sl .entry r2],.box [.sl .kind ks,.sl .point ps,.sl .entry es]] (fun v h=>∃ x : BkP,v = (.agg [.sl .kind ks,.sl .point ps,.sl .entry x.es]) ∧ h = [.box [.sl .u8 bs,.int .i64 x.p]] ∧ goodE ks ps x.es = true ∧ q ≤ x.p ∧ x.p ≤ q + 801):=by
 refine CutE.of Q692 rfl (Qui8 bs q ks ps r0 r1 r2 ks ps es) ?_
 have hc : chgsK bs q ks ps 24 = true:=by simp only [chgsK,qaT,qdT]; exact ⟨hbs,h0,hq,hb,h1,by omega,by omega⟩
 obtain ⟨c1,c2,c3,c4⟩:=(Qbm6 bs q ks ps 24 hc).2
 have ht : tkK ks ps es (dChgs bs q ks ps 24).l = true:=by simp only [tkK,qaT,qdT]; exact ⟨hg,by omega,c2⟩
 have hd:=(Qhv6 ks ps es _ ht).2
 refine SatE.need hc (SatE.need ht (SatE.need (Q8s4 (by omega) (by omega)) (SatE.ifb (fun _=>?_) (fun _=>?_))))
 ·refine SatE.mono (SatE.cut (Q8ao bs ks ps _ r0 r1 r2 12 0 _ (by omega) hd)) ?_
  rintro v h ⟨x,rfl,rfl,a1,a2,a3⟩
  exact ⟨x,rfl,rfl,a1,by omega,by omega⟩
 ·exact SatE.ret ⟨⟨_,_⟩,rfl,rfl,hd,by show q ≤ (dChgs bs q ks ps 24).p + 1; omega,by show (dChgs bs q ks ps 24).p + 1 ≤ q + 801; omega⟩
theorem Qygj (bs : List Int) (ks : List Kind) (ps : List Point) (hbs : Qf9o bs = true) (hb : Qib4 ks ps = true) (h1 : 1 ≤ ps.length) (r0 : List Kind) (r1 : List Point) (r2 : List Entry) : ∀ (d i : Nat) (es : List Entry) (q : Int),i + d = 5 → 1 ≤ i → 0 ≤ q → q + 20 * d ≤ 880000 → goodE ks ps es = true →
  CutE Qoc9 Q604 4 [.ptr 0 0,.ptr 1 0,.ptr 2 0,.ptr 3 0,.int .i64 (i : Int)] [.box [.sl .u8 bs,.int .i64 q],.box [.sl .kind ks,.sl .point ps],.box [.sl .kind r0,.sl .point r1,.sl .entry r2],.box [.sl .kind ks,.sl .point ps,.sl .entry es]] (fun v h=>∃ x : BkP,v = (.agg [.sl .kind ks,.sl .point ps,.sl .entry x.es]) ∧ h = [.box [.sl .u8 bs,.int .i64 x.p]] ∧ goodE ks ps x.es = true ∧ q ≤ x.p ∧ x.p ≤ q + (801 + 20 * d)):=by
 intro d
 induction d with
 | zero =>
  intro i es q hi h1i h0 hq hg
  refine CutE.of Q692 rfl (Qbfw i bs q ks ps r0 r1 r2 ks ps es) ?_
  rw [show decide ((i : Int) ≤ 4) = false from decide_eq_false (by omega),Qk7y]
  exact SatE.mono (SatE.cut (Q8ui bs ks ps hbs hb h1 q h0 (by omega) r0 r1 r2 es hg)) (fun v h ⟨x,e1,e2,a1,a2,a3⟩=>⟨x,e1,e2,a1,a2,by omega⟩)
 | succ d ih =>
  intro i es q hi h1i h0 hq hg
  refine CutE.of Q692 rfl (Qbfw i bs q ks ps r0 r1 r2 ks ps es) ?_
  have hw : IntKind.i64.wrap ((i : Int) + 1) = ((i + 1 : Nat) : Int):=by rw [Qbrg] <;> omega
  have hv : valK bs q ks ps = true:=by simp only [valK,rdK,qaT,qdT]; exact ⟨⟨hbs,by omega,by omega⟩,(Qd1y hb).1,(Qd1y hb).2,h1⟩
  obtain ⟨v1,v2,v3⟩:=(Qpyo bs q ks ps (i : Int) hv).2
  have hz : szV (dVal bs q ks ps (i : Int)).s = true:=decide_eq_true (by omega)
  have hgb:=hg
  simp only [goodE,qaT] at hgb
  obtain ⟨t1,t2,t3⟩:=Qy7k (c:=(Chg.mk #[(107 : UInt8),(108 : UInt8),(49 : UInt8)].toList (i : Int) (1 : Int) (dVal bs q ks ps (i : Int)).s)) hg hz
  rw [show decide ((i : Int) ≤ 4) = true from decide_eq_true (by omega),hv,hw,hgb.2,hz,t1,t2]
  simp only [Qd8q,Bool.true_and]
  exact SatE.mono (SatE.cut (ih (i + 1) _ (dVal bs q ks ps (i : Int)).p (by omega) (by omega) (by omega) (by omega) t3)) (fun v h ⟨x,e1,e2,a1,a2,a3⟩=>⟨x,e1,e2,a1,by omega,by omega⟩)
theorem Q4mo (bs : List Int) (p : Int) (ks : List Kind) (ps : List Point) (hg : bkK bs p ks ps = true) : Qewq Tryz.prog CP Q604 [.ptr 0 0,.agg [.sl .kind ks,.sl .point ps]] [.box [.sl .u8 bs,.int .i64 p]] (.agg [.sl .kind ks,.sl .point ps,.sl .entry (dBook bs p ks ps).es]) [.box [.sl .u8 bs,.int .i64 (dBook bs p ks ps).p]] ∧ Qv5n ks ps p (dBook bs p ks ps):=by
 simp only [bkK,qaT,qdT] at hg
 obtain ⟨hbs,h0,h9,hb,h1⟩:=hg
 have hE : CallE Qoc9.P Qoc9.C Q604 [.ptr 0 0,.agg [.sl .kind ks,.sl .point ps]] [.box [.sl .u8 bs,.int .i64 p]] (fun v h=>∃ x : BkP,v = (.agg [.sl .kind ks,.sl .point ps,.sl .entry x.es]) ∧ h = [.box [.sl .u8 bs,.int .i64 x.p]] ∧ Qv5n ks ps p x):=by
  refine CallE.of Q692 (by kernel_rfl) (Qh82 bs p ks ps) ?_
  refine SatE.need (Q8s4 (by omega) (by omega)) (SatE.ifb (fun _=>?_) (fun _=>?_))
  ·exact SatE.mono (SatE.cut (Qygj bs ks ps hbs hb h1 [] [] [] 4 1 [] (p + 1) (by omega) (by omega) (by omega) (by omega) (Qkew hb))) (fun v h ⟨x,e1,e2,a1,a2,a3⟩=>⟨x,e1,e2,a1,by omega,by omega⟩)
  ·exact SatE.mono (SatE.cut (Q8ui bs ks ps hbs hb h1 (p + 1) (by omega) (by omega) [] [] [] [] (Qkew hb))) (fun v h ⟨x,e1,e2,a1,a2,a3⟩=>⟨x,e1,e2,a1,by omega,by omega⟩)
 obtain ⟨v,H',h,x,rfl,rfl,hx⟩:=hE
 exact Qk78 (p:=fun x : BkP=>Qewq Tryz.prog CP Q604 [.ptr 0 0,.agg [.sl .kind ks,.sl .point ps]] [.box [.sl .u8 bs,.int .i64 p]] (.agg [.sl .kind ks,.sl .point ps,.sl .entry x.es]) [.box [.sl .u8 bs,.int .i64 x.p]] ∧ Qv5n ks ps p x) ⟨x,h,hx⟩
theorem Qyzu (bs : List Int) (p : Int) (ks : List Kind) (ps : List Point) (hg : bkK bs p ks ps = true) : Qewq Tryz.prog CP Q604 [.ptr 0 0,.agg [.sl .kind ks,.sl .point ps]] [.box [.sl .u8 bs,.int .i64 p]] (.agg [.sl .kind ks,.sl .point ps,.sl .entry (dBook bs p ks ps).es]) [.box [.sl .u8 bs,.int .i64 (dBook bs p ks ps).p]]:=by
 exact (Q4mo bs p ks ps hg).1
theorem Qtpw : EntOK Tryz.prog CP Q604 Qnfe:=by
 refine ⟨eob (by kernel_rfl),fun _ _ _ _ h=>?_⟩
 simp only [Qnfe] at h
 split at h
 ·obtain ⟨hg,rfl,rfl⟩:=eoh h
  exact Qyzu _ _ _ _ hg
 ·cases h
end Lx
namespace Lx
open Go Go.Proofs
def Qp6t (p : Int) (x : BaseP) : Prop:=x.ks.length ≤ 20 ∧ x.ps.length ≤ 100 ∧ p ≤ x.p ∧ x.p ≤ p + 60 ∧ Qeqt x.ps = true
noncomputable def dSp (bs : List Int) (p : Int) (ks : List Kind) (ps : List Point) : BaseP:=drawn (fun x=>Qewq Tryz.prog CP Q963 [.ptr 0 0,.agg [.sl .kind ks,.sl .point ps]] [.box [.sl .u8 bs,.int .i64 p]] (.agg [.sl .kind x.ks,.sl .point x.ps]) [.box [.sl .u8 bs,.int .i64 x.p]] ∧ Qp6t p x)
def spK (bs : List Int) (p : Int) (ks : List Kind) (ps : List Point) : Bool:=Qf9o bs && (decide (0 ≤ p) && (decide (p ≤ 880000) && (decide (1 ≤ ks.length) && (decide (ks.length ≤ 10) && (decide (1 ≤ ps.length) && (decide (ps.length ≤ 40) && Qeqt ps))))))
noncomputable def Qx4k : Ent Ty El:=⟨[.io,.ro],0,fun a h=>match a,h with
 | [.ptr 0 0,.agg [.sl .kind ks,.sl .point ps]],[.box [.sl .u8 bs,.int .i64 p]]=>some (spK bs p ks ps,.agg [.sl .kind (dSp bs p ks ps).ks,.sl .point (dSp bs p ks ps).ps],[.box [.sl .u8 bs,.int .i64 (dSp bs p ks ps).p]])
 | _,_=>none⟩
theorem inb3 {n a b c : Int} (h : 0 ≤ n ∧ n < 3) : inb n [a,b,c].length = true:=by
 simp only [inb,List.length_cons,List.length_nil,qaT,qdT]; omega
theorem inbL {α : Type} {n : Int} {l : List α} (h : 0 ≤ n ∧ n < (l.length : Int)) : inb n l.length = true:=by
 simp only [inb,qaT,qdT]; exact h
end Lx
namespace Lx
open Go Go.Proofs
noncomputable def Qam6 : RE Ty El:=⟨Tryz.prog,CP,[(Qpxs,Q7v2),(Qchm,Q2vb),(Q373,Qf5p),(Q1eg,Qvc4),(Qstj,Qmce)],Tryz.f119,1,[.agg [.ro .kind,.ro .point]],[(23,[(0,.any),(4,.any),(5,.any),(8,.any)]),(6,[(0,.any),(4,.any),(5,.any),(9,.any)])]⟩
theorem Qj2r : REOK Qam6 Q963:=⟨CP_ok,(TabOK.cons Q0e7 (TabOK.cons Qyvd (TabOK.cons Qoq9 (TabOK.cons Q8hv (TabOK.cons Qqii Qye1))))),by kernel_rfl,by kernel_rfl⟩
theorem Qbvz (bs : List Int) (p : Int) (ks : List Kind) (ps : List Point) : aRun Qam6 600 false (body0 Qam6.fn) (Q4gm Qam6.fn [.ptr 0 0,.agg [.sl .kind ks,.sl .point ps]] [.box [.sl .u8 bs,.int .i64 p]]) =
 ifb (Qzta ks ps) (ifb (posOk p) (ifb (posOk (p + 1)) (ifb (posOk (p + 1 + 1)) (ifb (pickV bs (p + 1 + 1) (8 : Int) == (0 : Int)) (ifb (posOk (p + 1 + 1 + 1)) (ifb (decide (#[(107 : UInt8)].toList.length ≤ (1 : Nat)) && decide (IntKind.i64.wrap ((8 : Int) + pickV bs (p + 1 + 1 + 1) (2 : Int)) < (64 : Int))) (ifb (rdOk bs (p + 1 + 1 + 1 + 1) && decide ((0 : Nat) < [#[].toList, #[(65 : UInt8)].toList, #[(122 : UInt8),(122 : UInt8)].toList, #[(97 : UInt8),(49 : UInt8)].toList,dMany #[(107 : UInt8)].toList (IntKind.i64.wrap ((8 : Int) + pickV bs (p + 1 + 1 + 1) (2 : Int)))].length)) (ifb (inb (pickV bs p (↑ks.length : Int)) ks.length) (some (.ret (.agg [.sl .kind (ks.set (pickV bs p (↑ks.length : Int)).toNat (Kind.mk (ofV bs (p + 1 + 1 + 1 + 1) [#[].toList, #[(65 : UInt8)].toList, #[(122 : UInt8),(122 : UInt8)].toList, #[(97 : UInt8),(49 : UInt8)].toList,dMany #[(107 : UInt8)].toList (IntKind.i64.wrap ((8 : Int) + pickV bs (p + 1 + 1 + 1) (2 : Int)))]) (ks.getD (pickV bs p (↑ks.length : Int)).toNat (Qam6.C.dflt Ty.kind)).quick (ks.getD (pickV bs p (↑ks.length : Int)).toNat (Qam6.C.dflt Ty.kind)).slow)),.sl .point ps]) [.box [.sl .u8 bs,.int .i64 (p + 1 + 1 + 1 + 1 + 1)]])) (none)) (none)) (none)) (none)) (ifb (pickV bs (p + 1 + 1) (8 : Int) == (1 : Int)) (ifb (posOk (p + 1 + 1 + 1)) (ifb (inb (pickV bs p (↑ks.length : Int)) ks.length) (some (.ret (.agg [.sl .kind (ks.set (pickV bs p (↑ks.length : Int)).toNat (Kind.mk (ks.getD (pickV bs p (↑ks.length : Int)).toNat (Qam6.C.dflt Ty.kind)).name (IntKind.i64.wrap (pickV bs (p + 1 + 1 + 1) (9 : Int) - 1)) (ks.getD (pickV bs p (↑ks.length : Int)).toNat (Qam6.C.dflt Ty.kind)).slow)),.sl .point ps]) [.box [.sl .u8 bs,.int .i64 (p + 1 + 1 + 1 + 1)]])) (none)) (none)) (ifb (pickV bs (p + 1 + 1) (8 : Int) == (2 : Int)) (ifb (posOk (p + 1 + 1 + 1)) (ifb (inb (pickV bs (p + 1 + 1 + 1) (3 : Int)) [(0 : Int),(50 : Int),(51 : Int)].length) (ifb (inb (pickV bs p (↑ks.length : Int)) ks.length) (some (.ret (.agg [.sl .kind (ks.set (pickV bs p (↑ks.length : Int)).toNat (Kind.mk (ks.getD (pickV bs p (↑ks.length : Int)).toNat (Qam6.C.dflt Ty.kind)).name (ks.getD (pickV bs p (↑ks.length : Int)).toNat (Qam6.C.dflt Ty.kind)).quick ([(0 : Int),(50 : Int),(51 : Int)].getD (pickV bs (p + 1 + 1 + 1) (3 : Int)).toNat (Qam6.C.dflt Ty.int)))),.sl .point ps]) [.box [.sl .u8 bs,.int .i64 (p + 1 + 1 + 1 + 1)]])) (none)) (none)) (none)) (ifb (pickV bs (p + 1 + 1) (8 : Int) == (3 : Int)) (ifb (rdOk bs (p + 1 + 1 + 1) && decide ((0 : Nat) < [#[].toList, #[(80 : UInt8)].toList, #[(122 : UInt8),(122 : UInt8)].toList, #[(97 : UInt8),(108 : UInt8),(102 : UInt8),(97 : UInt8)].toList].length)) (ifb (inb (pickV bs (p + 1) (↑ps.length : Int)) ps.length) (some (.ret (.agg [.sl .kind ks,.sl .point (ps.set (pickV bs (p + 1) (↑ps.length : Int)).toNat (Point.mk (ofV bs (p + 1 + 1 + 1) [#[].toList, #[(80 : UInt8)].toList, #[(122 : UInt8),(122 : UInt8)].toList, #[(97 : UInt8),(108 : UInt8),(102 : UInt8),(97 : UInt8)].toList]) (ps.getD (pickV bs (p + 1) (↑ps.length : Int)).toNat (Qam6.C.dflt Ty.point)).x (ps.getD (pickV bs (p + 1) (↑ps.length : Int)).toNat (Qam6.C.dflt Ty.point)).y))]) [.box [.sl .u8 bs,.int .i64 (p + 1 + 1 + 1 + 1)]])) (none)) (none)) (ifb (pickV bs (p + 1 + 1) (8 : Int) == (4 : Int)) (ifb (posOk (p + 1 + 1 + 1)) (ifb (inb (pickV bs (p + 1 + 1 + 1) (3 : Int)) [(-1 : Int),(16 : Int),(0 : Int)].length) (ifb (inb (pickV bs (p + 1) (↑ps.length : Int)) ps.length) (some (.ret (.agg [.sl .kind ks,.sl .point (ps.set (pickV bs (p + 1) (↑ps.length : Int)).toNat (Point.mk (ps.getD (pickV bs (p + 1) (↑ps.length : Int)).toNat (Qam6.C.dflt Ty.point)).name ([(-1 : Int),(16 : Int),(0 : Int)].getD (pickV bs (p + 1 + 1 + 1) (3 : Int)).toNat (Qam6.C.dflt Ty.int)) (ps.getD (pickV bs (p + 1) (↑ps.length : Int)).toNat (Qam6.C.dflt Ty.point)).y))]) [.box [.sl .u8 bs,.int .i64 (p + 1 + 1 + 1 + 1)]])) (none)) (none)) (none)) (ifb (pickV bs (p + 1 + 1) (8 : Int) == (5 : Int)) (ifb (inb (pickV bs (p + 1) (↑ps.length : Int)) ps.length) (ifb (inb (pickV bs (p + 1) (↑ps.length : Int)) ps.length) (ifb (decide ((ps.length + [Point.mk #[(122 : UInt8),(122 : UInt8)].toList (ps.getD (pickV bs (p + 1) (↑ps.length : Int)).toNat (Qam6.C.dflt Ty.point)).x (ps.getD (pickV bs (p + 1) (↑ps.length : Int)).toNat (Qam6.C.dflt Ty.point)).y].length) * Qbhn Qam6.P (160 : Nat) ≤ (140737488355328 : Nat))) (some (.ret (.agg [.sl .kind ks,.sl .point (ps ++ [Point.mk #[(122 : UInt8),(122 : UInt8)].toList (ps.getD (pickV bs (p + 1) (↑ps.length : Int)).toNat (Qam6.C.dflt Ty.point)).x (ps.getD (pickV bs (p + 1) (↑ps.length : Int)).toNat (Qam6.C.dflt Ty.point)).y])]) [.box [.sl .u8 bs,.int .i64 (p + 1 + 1 + 1)]])) (none)) (none)) (none)) (ifb (pickV bs (p + 1 + 1) (8 : Int) == (6 : Int)) (some (.go (Qu6t Qam6.fn 23) [.ptr 0 0,.ptr 1 0,.ptr 2 0,.int .i64 0] [.box [.sl .u8 bs,.int .i64 (p + 1 + 1 + 1)],.box [.nils,.nils],.box [.own 3 [] 0,.own 4 [] 0],.row .kind ks 0 0 0 .no,.row .point ps 0 0 0 .no])) (some (.go (Qu6t Qam6.fn 6) [.ptr 0 0,.ptr 1 0,.ptr 2 0,.int .i64 0] [.box [.sl .u8 bs,.int .i64 (p + 1 + 1 + 1)],.box [.nils,.nils],.box [.own 3 [] 0,.own 4 [] 0],.row .kind ks 0 0 0 .no,.row .point ps 0 0 0 .no]))))))))) (none)) (none)) (none)) (none):=by kernel_rfl
theorem Qkno (x0 : Int) (x1 : List (El .u8)) (x2 : Int) (x3 : List (El .kind)) (x4 : List (El .point)) : aRun Qam6 600 true (Qu6t Qam6.fn 23) (cutSt Qam6.fn (Q1m4 Qam6 (Qu6t Qam6.fn 23)) [.ptr 0 0,.ptr 1 0,.ptr 2 0,.int .i64 x0] [.box [.sl .u8 x1,.int .i64 x2],.box [.nils,.nils],.box [.own 3 [] 0,.own 4 [] 0],.row .kind x3 0 0 0 .no,.row .point x4 0 0 0 .no]) =
 ifb (posOk x2) (ifb (decide ((↑x3.length : Int) < IntKind.i64.wrap ((6 : Int) + pickV x1 x2 (2 : Int)))) (ifb (decide (x0 < 9)) (ifb (decide (0 ≤ x0) && decide (x0 < 10 ^ ((4 : Nat) + (1 : Nat)))) (ifb (decide (#[(116 : UInt8)].toList.length + List.length (dDec (4 : Nat) x0) ≤ (9223372036854775807 : Nat))) (ifb (decide ((x3.length + [Kind.mk (#[(116 : UInt8)].toList ++ dDec (4 : Nat) x0) (1 : Int) (1 : Int)].length) * Qbhn Qam6.P (40 : Nat) ≤ (140737488355328 : Nat))) (some (.go (Qu6t Qam6.fn 23) [.ptr 0 0,.ptr 1 0,.ptr 2 0,.int .i64 (IntKind.i64.wrap (x0 + 1))] [.box [.sl .u8 x1,.int .i64 (x2 + 1)],.box [.nils,.nils],.box [.own 3 [] 0,.own 4 [] 0],.row .kind (x3 ++ [Kind.mk (#[(116 : UInt8)].toList ++ dDec (4 : Nat) x0) (1 : Int) (1 : Int)]) 0 0 0 .no,.row .point x4 0 0 0 .no])) (none)) (none)) (none)) (some (.ret (.agg [.sl .kind x3,.sl .point x4]) [.box [.sl .u8 x1,.int .i64 (x2 + 1)]]))) (some (.ret (.agg [.sl .kind x3,.sl .point x4]) [.box [.sl .u8 x1,.int .i64 (x2 + 1)]]))) (none):=by kernel_rfl
theorem Qkh0 (x0 : Int) (x1 : List (El .u8)) (x2 : Int) (x3 : List (El .kind)) (x4 : List (El .point)) : aRun Qam6 600 true (Qu6t Qam6.fn 6) (cutSt Qam6.fn (Q1m4 Qam6 (Qu6t Qam6.fn 6)) [.ptr 0 0,.ptr 1 0,.ptr 2 0,.int .i64 x0] [.box [.sl .u8 x1,.int .i64 x2],.box [.nils,.nils],.box [.own 3 [] 0,.own 4 [] 0],.row .kind x3 0 0 0 .no,.row .point x4 0 0 0 .no]) =
 ifb (posOk x2) (ifb (decide ((↑x4.length : Int) < IntKind.i64.wrap ((16 : Int) + pickV x1 x2 (2 : Int)))) (ifb (decide (x0 < 40)) (ifb (decide (0 ≤ IntKind.i64.wrap ((10 : Int) + x0)) && decide (IntKind.i64.wrap ((10 : Int) + x0) < (10 : Int) ^ ((4 : Nat) + (1 : Nat)))) (ifb (decide (#[(121 : UInt8)].toList.length + List.length (dDec (4 : Nat) (IntKind.i64.wrap ((10 : Int) + x0))) ≤ (9223372036854775807 : Nat))) (ifb (decide ((x4.length + [Point.mk (#[(121 : UInt8)].toList ++ dDec (4 : Nat) (IntKind.i64.wrap ((10 : Int) + x0))) (x0.tmod (16 : Int)) (IntKind.i64.wrap ((15 : Int) - IntKind.i64.wrap (x0.tdiv (16 : Int))))].length) * Qbhn Qam6.P (160 : Nat) ≤ (140737488355328 : Nat))) (some (.go (Qu6t Qam6.fn 6) [.ptr 0 0,.ptr 1 0,.ptr 2 0,.int .i64 (IntKind.i64.wrap (x0 + 1))] [.box [.sl .u8 x1,.int .i64 (x2 + 1)],.box [.nils,.nils],.box [.own 3 [] 0,.own 4 [] 0],.row .kind x3 0 0 0 .no,.row .point (x4 ++ [Point.mk (#[(121 : UInt8)].toList ++ dDec (4 : Nat) (IntKind.i64.wrap ((10 : Int) + x0))) (x0.tmod (16 : Int)) (IntKind.i64.wrap ((15 : Int) - IntKind.i64.wrap (x0.tdiv (16 : Int))))]) 0 0 0 .no])) (none)) (none)) (none)) (some (.ret (.agg [.sl .kind x3,.sl .point x4]) [.box [.sl .u8 x1,.int .i64 (x2 + 1)]]))) (some (.ret (.agg [.sl .kind x3,.sl .point x4]) [.box [.sl .u8 x1,.int .i64 (x2 + 1)]]))) (none):=by kernel_rfl
theorem Qnce (bs : List Int) (ps : List Point) : ∀ (d i : Nat) (ks : List Kind) (q : Int),i + d = 9 → 0 ≤ q → q + d ≤ 900000 → ks.length + d ≤ 19 → ps.length ≤ 100 → Qeqt ps = true →
  CutE Qam6 Q963 23 [.ptr 0 0,.ptr 1 0,.ptr 2 0,.int .i64 (i : Int)] [.box [.sl .u8 bs,.int .i64 q],.box [.nils,.nils],.box [.own 3 [] 0,.own 4 [] 0],.row .kind ks 0 0 0 .no,.row .point ps 0 0 0 .no] (fun v h=>∃ x : BaseP,v = (.agg [.sl .kind x.ks,.sl .point x.ps]) ∧ h = [.box [.sl .u8 bs,.int .i64 x.p]] ∧ x.ks.length ≤ 20 ∧ x.ps.length ≤ 100 ∧ q ≤ x.p ∧ x.p ≤ q + (d + 1) ∧ Qeqt x.ps = true):=by
 have hbb : Qbhn Qam6.P 40 ≤ 256:=of_decide_eq_true (by kernel_rfl)
 intro d
 induction d with
 | zero =>
  intro i ks q hi h0 hq hl ho hn
  refine CutE.of Qj2r rfl (Qkno i bs q ks ps) ?_
  refine SatE.need (Q8s4 (by omega) (by omega)) (SatE.ifb (fun _=>?_) (fun _=>?_))
  ·rw [show decide ((i : Int) < 9) = false from decide_eq_false (by omega),Qk7y]
   exact SatE.ret ⟨⟨ks,ps,q + 1⟩,rfl,rfl,by show ks.length ≤ 20; omega,by show ps.length ≤ 100; omega,by show q ≤ q + 1; omega,by show q + 1 ≤ _; omega,hn⟩
  ·exact SatE.ret ⟨⟨ks,ps,q + 1⟩,rfl,rfl,by show ks.length ≤ 20; omega,by show ps.length ≤ 100; omega,by show q ≤ q + 1; omega,by show q + 1 ≤ _; omega,hn⟩
 | succ d ih =>
  intro i ks q hi h0 hq hl ho hn
  refine CutE.of Qj2r rfl (Qkno i bs q ks ps) ?_
  have hw : IntKind.i64.wrap ((i : Int) + 1) = ((i + 1 : Nat) : Int):=by rw [Qbrg] <;> omega
  obtain ⟨g1,l1⟩:=decs (n:=(i : Int)) (by omega) (by omega)
  refine SatE.need (Q8s4 (by omega) (by omega)) (SatE.ifb (fun _=>?_) (fun _=>?_))
  ·rw [show decide ((i : Int) < 9) = true from decide_eq_true (by omega),hw,Qd8q]
   refine SatE.need g1 (SatE.need (decide_eq_true (by simp; omega)) (SatE.need (Q1mk hbb (by simp; omega)) (SatE.mono (SatE.cut (ih (i + 1) _ (q + 1) (by omega) (by omega) (by omega) (by simp; omega) (by omega) hn)) ?_)))
   rintro v h ⟨x,e1,e2,a1,a2,a3,a4,a5⟩
   exact ⟨x,e1,e2,a1,a2,by omega,by omega,a5⟩
  ·exact SatE.ret ⟨⟨ks,ps,q + 1⟩,rfl,rfl,by show ks.length ≤ 20; omega,by show ps.length ≤ 100; omega,by show q ≤ q + 1; omega,by show q + 1 ≤ _; omega,hn⟩
theorem Qpkz (bs : List Int) (ks : List Kind) : ∀ (d i : Nat) (ps : List Point) (q : Int),i + d = 40 → 0 ≤ q → q + d ≤ 900000 → ps.length + d ≤ 80 → ks.length ≤ 20 → Qeqt ps = true →
  CutE Qam6 Q963 6 [.ptr 0 0,.ptr 1 0,.ptr 2 0,.int .i64 (i : Int)] [.box [.sl .u8 bs,.int .i64 q],.box [.nils,.nils],.box [.own 3 [] 0,.own 4 [] 0],.row .kind ks 0 0 0 .no,.row .point ps 0 0 0 .no] (fun v h=>∃ x : BaseP,v = (.agg [.sl .kind x.ks,.sl .point x.ps]) ∧ h = [.box [.sl .u8 bs,.int .i64 x.p]] ∧ x.ks.length ≤ 20 ∧ x.ps.length ≤ 100 ∧ q ≤ x.p ∧ x.p ≤ q + (d + 1) ∧ Qeqt x.ps = true):=by
 have hbb : Qbhn Qam6.P 160 ≤ 256:=of_decide_eq_true (by kernel_rfl)
 intro d
 induction d with
 | zero =>
  intro i ps q hi h0 hq hl ho hn
  refine CutE.of Qj2r rfl (Qkh0 i bs q ks ps) ?_
  refine SatE.need (Q8s4 (by omega) (by omega)) (SatE.ifb (fun _=>?_) (fun _=>?_))
  ·rw [show decide ((i : Int) < 40) = false from decide_eq_false (by omega),Qk7y]
   exact SatE.ret ⟨⟨ks,ps,q + 1⟩,rfl,rfl,by show ks.length ≤ 20; omega,by show ps.length ≤ 100; omega,by show q ≤ q + 1; omega,by show q + 1 ≤ _; omega,hn⟩
  ·exact SatE.ret ⟨⟨ks,ps,q + 1⟩,rfl,rfl,by show ks.length ≤ 20; omega,by show ps.length ≤ 100; omega,by show q ≤ q + 1; omega,by show q + 1 ≤ _; omega,hn⟩
 | succ d ih =>
  intro i ps q hi h0 hq hl ho hn
  refine CutE.of Qj2r rfl (Qkh0 i bs q ks ps) ?_
  have hw : IntKind.i64.wrap ((i : Int) + 1) = ((i + 1 : Nat) : Int):=by rw [Qbrg] <;> omega
  have hw2 : IntKind.i64.wrap (10 + (i : Int)) = 10 + (i : Int):=Qbrg (by omega) (by omega)
  obtain ⟨g1,l1⟩:=decs (n:=10 + (i : Int)) (by omega) (by omega)
  refine SatE.need (Q8s4 (by omega) (by omega)) (SatE.ifb (fun _=>?_) (fun _=>?_))
  ·rw [show decide ((i : Int) < 40) = true from decide_eq_true (by omega),hw,Qd8q,hw2]
   refine SatE.need g1 (SatE.need (decide_eq_true (by simp; omega)) (SatE.need (Q1mk hbb (by simp; omega)) (SatE.mono (SatE.cut (ih (i + 1) _ (q + 1) (by omega) (by omega) (by omega) (by simp; omega) (by omega) (by exact Qv4q hn (by simp; omega)))) ?_)))
   rintro v h ⟨x,e1,e2,a1,a2,a3,a4,a5⟩
   exact ⟨x,e1,e2,a1,a2,by omega,by omega,a5⟩
  ·exact SatE.ret ⟨⟨ks,ps,q + 1⟩,rfl,rfl,by show ks.length ≤ 20; omega,by show ps.length ≤ 100; omega,by show q ≤ q + 1; omega,by show q + 1 ≤ _; omega,hn⟩
theorem Qdn9 {bs : List Int} {p q : Int} {ks : List Kind} {ps : List Point} (h1 : ks.length ≤ 20) (h2 : ps.length ≤ 100) (h3 : p ≤ q) (h4 : q ≤ p + 60) (h5 : Qeqt ps = true) : ∃ x : BaseP,(AV.agg [.sl .kind ks,.sl .point ps] : AV Ty El) = (.agg [.sl .kind x.ks,.sl .point x.ps]) ∧ ([.box [.sl .u8 bs,.int .i64 q]] : List (AObj Ty El)) = [.box [.sl .u8 bs,.int .i64 x.p]] ∧ Qp6t p x:=⟨⟨ks,ps,q⟩,rfl,rfl,h1,h2,h3,h4,h5⟩
theorem Qtjp (bs : List Int) (p : Int) (ks : List Kind) (ps : List Point) (hg : spK bs p ks ps = true) : Qewq Tryz.prog CP Q963 [.ptr 0 0,.agg [.sl .kind ks,.sl .point ps]] [.box [.sl .u8 bs,.int .i64 p]] (.agg [.sl .kind (dSp bs p ks ps).ks,.sl .point (dSp bs p ks ps).ps]) [.box [.sl .u8 bs,.int .i64 (dSp bs p ks ps).p]] ∧ Qp6t p (dSp bs p ks ps):=by
 simp only [spK,qaT,qdT] at hg
 obtain ⟨hbs,h0,h9,k1,k2,s1,s2,hn⟩:=hg
 have hbb : Qbhn Qam6.P 160 ≤ 256:=of_decide_eq_true (by kernel_rfl)
 have ht : Qzta ks ps = true:=by
  have e1 : Q6lz ks = true:=by simp only [Q6lz,Bool.and_true,qdT]; omega
  have e2 : Qjyp ps = true:=by simp only [Qjyp,Bool.and_true,qdT]; omega
  rw [Qzta,e1,e2]; rfl
 have ps0 : ∀ (q : Int),p ≤ q → q ≤ p + 10 → posOk q = true:=fun q h2 h3=>Q8s4 (by omega) (by omega)
 have pk : ∀ (q n : Int),p ≤ q → q ≤ p + 10 → 1 ≤ n → 0 ≤ pickV bs q n ∧ pickV bs q n < n:=fun q n h2 h3 h4=>Q5va hbs (ps0 q h2 h3) h4
 have rd : ∀ (q : Int) (l : List Str),p ≤ q → q ≤ p + 10 → 0 < l.length → (rdOk bs q && decide (0 < l.length)) = true:=fun q l h2 h3 hl=>by rw [rdOk,hbs,ps0 q h2 h3,decide_eq_true hl]; rfl
 have ik : inb (pickV bs p (ks.length : Int)) ks.length = true:=inbL (pk p _ (by omega) (by omega) (by omega))
 have ip : inb (pickV bs (p + 1) (ps.length : Int)) ps.length = true:=inbL (pk (p + 1) _ (by omega) (by omega) (by omega))
 have hE : CallE Qam6.P Qam6.C Q963 [.ptr 0 0,.agg [.sl .kind ks,.sl .point ps]] [.box [.sl .u8 bs,.int .i64 p]] (fun v h=>∃ x : BaseP,v = (.agg [.sl .kind x.ks,.sl .point x.ps]) ∧ h = [.box [.sl .u8 bs,.int .i64 x.p]] ∧ Qp6t p x):=by
  refine CallE.of Qj2r (by kernel_rfl) (Qbvz bs p ks ps) ?_
  refine SatE.need ht (SatE.need (ps0 _ (by omega) (by omega)) (SatE.need (ps0 _ (by omega) (by omega)) (SatE.need (ps0 _ (by omega) (by omega)) (SatE.ifb (fun _=>?_) (fun _=>SatE.ifb (fun _=>?_) (fun _=>SatE.ifb (fun _=>?_) (fun _=>SatE.ifb (fun _=>?_) (fun _=>SatE.ifb (fun _=>?_) (fun _=>SatE.ifb (fun _=>?_) (fun _=>SatE.ifb (fun _=>?_) (fun _=>?_)))))))))))
  ·obtain ⟨a1,a2⟩:=pk (p + 1 + 1 + 1) 2 (by omega) (by omega) (by omega)
   have hw : IntKind.i64.wrap (8 + pickV bs (p + 1 + 1 + 1) 2) = 8 + pickV bs (p + 1 + 1 + 1) 2:=Qbrg (by omega) (by omega)
   rw [hw]
   exact SatE.need (ps0 _ (by omega) (by omega)) (SatE.need (by rw [qaT]; exact ⟨decide_eq_true (by simp),decide_eq_true (by omega)⟩) (SatE.need (rd _ _ (by omega) (by omega) (Nat.zero_lt_succ _)) (SatE.need ik (SatE.ret (Qdn9 (by rw [List.length_set]; omega) (by omega) (by omega) (by omega) hn)))))
  ·exact SatE.need (ps0 _ (by omega) (by omega)) (SatE.need ik (SatE.ret (Qdn9 (by rw [List.length_set]; omega) (by omega) (by omega) (by omega) hn)))
  ·exact SatE.need (ps0 _ (by omega) (by omega)) (SatE.need (inb3 (pk (p + 1 + 1 + 1) 3 (by omega) (by omega) (by omega))) (SatE.need ik (SatE.ret (Qdn9 (by rw [List.length_set]; omega) (by omega) (by omega) (by omega) hn))))
  ·exact SatE.need (rd _ _ (by omega) (by omega) (Nat.zero_lt_succ _)) (SatE.need ip (SatE.ret (Qdn9 (by omega) (by rw [List.length_set]; omega) (by omega) (by omega) (Qosi hn _ (Nat.le_trans (Qgo3 (M:=4) (by rfl)) (by omega))))))
  ·exact SatE.need (ps0 _ (by omega) (by omega)) (SatE.need (inb3 (pk (p + 1 + 1 + 1) 3 (by omega) (by omega) (by omega))) (SatE.need ip (SatE.ret (Qdn9 (by omega) (by rw [List.length_set]; omega) (by omega) (by omega) (Qosi hn _ (by exact Qwum hn _ _ (by first | simp | decide)))))))
  ·exact SatE.need ip (SatE.need ip (SatE.need (Q1mk hbb (by simp; omega)) (SatE.ret (Qdn9 (by omega) (by simp; omega) (by omega) (by omega) (by exact Qv4q hn (by simp))))))
  ·refine SatE.mono (SatE.cut (Qnce bs ps 9 0 ks (p + 1 + 1 + 1) (by omega) (by omega) (by omega) (by omega) (by omega) hn)) ?_
   rintro v h ⟨x,e1,e2,a1,a2,a3,a4,a5⟩
   exact ⟨x,e1,e2,a1,a2,by omega,by omega,a5⟩
  ·refine SatE.mono (SatE.cut (Qpkz bs ks 40 0 ps (p + 1 + 1 + 1) (by omega) (by omega) (by omega) (by omega) (by omega) hn)) ?_
   rintro v h ⟨x,e1,e2,a1,a2,a3,a4,a5⟩
   exact ⟨x,e1,e2,a1,a2,by omega,by omega,a5⟩
 obtain ⟨v,H',h,x,rfl,rfl,hx⟩:=hE
 exact Qk78 (p:=fun x : BaseP=>Qewq Tryz.prog CP Q963 [.ptr 0 0,.agg [.sl .kind ks,.sl .point ps]] [.box [.sl .u8 bs,.int .i64 p]] (.agg [.sl .kind x.ks,.sl .point x.ps]) [.box [.sl .u8 bs,.int .i64 x.p]] ∧ Qp6t p x) ⟨x,h,hx⟩
theorem Q3hx (bs : List Int) (p : Int) (ks : List Kind) (ps : List Point) (hg : spK bs p ks ps = true) : Qewq Tryz.prog CP Q963 [.ptr 0 0,.agg [.sl .kind ks,.sl .point ps]] [.box [.sl .u8 bs,.int .i64 p]] (.agg [.sl .kind (dSp bs p ks ps).ks,.sl .point (dSp bs p ks ps).ps]) [.box [.sl .u8 bs,.int .i64 (dSp bs p ks ps).p]]:=by
 exact (Qtjp bs p ks ps hg).1
theorem Q1zq : EntOK Tryz.prog CP Q963 Qx4k:=by
 refine ⟨eob (by kernel_rfl),fun _ _ _ _ h=>?_⟩
 simp only [Qx4k] at h
 split at h
 ·obtain ⟨hg,rfl,rfl⟩:=eoh h
  exact Q3hx _ _ _ _ hg
 ·cases h
end Lx
namespace Lx
open Go Go.Proofs
structure BookP where
 ks : List Kind
 ps : List Point
 es : List Entry
 p : Int
 deriving Inhabited
def goodS (ks : List Kind) (ps : List Point) (es : List Entry) : Bool:=goodB ks ps es && (decide (ks.length ≤ 1000) && (decide (ps.length ≤ 100) && (decide (es.length ≤ 1000) && Qeqt ps)))
def Qe4i (p : Int) (x : BookP) : Prop:=goodS x.ks x.ps x.es = true ∧ p ≤ x.p ∧ x.p ≤ p + 100
noncomputable def Qkav (bs : List Int) (p : Int) (ks : List Kind) (ps : List Point) (es : List Entry) : BookP:=drawn (fun x=>Qewq Tryz.prog CP Qvef [.ptr 0 0,.agg [.sl .kind ks,.sl .point ps,.sl .entry es]] [.box [.sl .u8 bs,.int .i64 p]] (.agg [.sl .kind x.ks,.sl .point x.ps,.sl .entry x.es]) [.box [.sl .u8 bs,.int .i64 x.p]] ∧ Qe4i p x)
def slK (bs : List Int) (p : Int) (ks : List Kind) (ps : List Point) (es : List Entry) : Bool:=Qf9o bs && (decide (0 ≤ p) && (decide (p ≤ 870000) && (decide (1 ≤ ks.length) && (decide (1 ≤ ps.length) && goodE ks ps es))))
noncomputable def Qsb4 : Ent Ty El:=⟨[.io,.ro],0,fun a h=>match a,h with
 | [.ptr 0 0,.agg [.sl .kind ks,.sl .point ps,.sl .entry es]],[.box [.sl .u8 bs,.int .i64 p]]=>some (slK bs p ks ps es,.agg [.sl .kind (Qkav bs p ks ps es).ks,.sl .point (Qkav bs p ks ps es).ps,.sl .entry (Qkav bs p ks ps es).es],[.box [.sl .u8 bs,.int .i64 (Qkav bs p ks ps es).p]])
 | _,_=>none⟩
def small (x : Entry) : Prop:=x.fields.length ≤ 20 ∧ ∀ f ∈ x.fields,szV f.value = true
theorem Qq1u {ks : List Kind} {ps : List Point} {es : List Entry} (h1 : ks.length ≤ 1000) (h2 : ps.length ≤ 1000) (h3 : es.length ≤ 1000) (h4 : ∀ x ∈ es,small x) : goodB ks ps es = true:=by
 simp only [goodB,szB,Q8cx,Q6lz,Qjyp,Qnwa,qaT,qdT,and_true]
 refine ⟨⟨by omega,qlA.2 fun x hx=>?_⟩,by omega,by omega,by omega,qlA.2 fun x hx=>?_⟩
 ·simp only [szE,qaT,qdT]
  exact ⟨by have:=(h4 x hx).1; omega,qlA.2 fun f hf=>(h4 x hx).2 f hf⟩
 ·simp only [Qytc,Qckx,qaT,qdT,and_true]
  have:=(h4 x hx).1; omega
theorem Qieu {ks : List Kind} {ps : List Point} {es : List Entry} (h1 : ks.length ≤ 1000) (h2 : ps.length ≤ 100) (h3 : es.length ≤ 1000) (h4 : ∀ x ∈ es,small x) (h5 : Qeqt ps = true) : goodS ks ps es = true:=by
 have hb:=Qq1u h1 (Nat.le_trans h2 (by decide)) h3 h4
 simp only [goodS,hb,h1,h2,h3,h5,decide_true,Bool.and_self]
theorem Qj7a {ks : List Kind} {ps : List Point} {es : List Entry} (h : goodE ks ps es = true) : goodS ks ps es = true:=by
 have h0:=h
 simp only [goodE,Qn0o,Qib4,qaT,qdT] at h0
 obtain ⟨⟨⟨k2,s2,_⟩,e2,_⟩,hb⟩:=h0
 have hbase : Qib4 ks ps = true:=by simp only [goodE,Qn0o,qaT] at h; exact h.1.1
 simp only [goodS,hb,qaT,qdT]
 exact ⟨trivial,by omega,by omega,by omega,(Qd1y hbase).2⟩
theorem Qyyr {ks : List Kind} {ps : List Point} {es : List Entry} (h : goodE ks ps es = true) : es.length ≤ 12 ∧ ∀ x ∈ es,small x:=by
 simp only [goodE,goodB,szB,qaT,qdT] at h
 obtain ⟨hb,⟨_,hz⟩,_⟩:=h
 obtain ⟨h1,h2⟩:=Qm34 hb
 refine ⟨h1,fun x hx=>⟨by have:=h2 x hx; omega,fun f hf=>?_⟩⟩
 have:=qlA.1 hz x hx
 simp only [szE,qaT] at this
 exact qlA.1 this.2 f hf
theorem Qt1v {es : List Entry} (h : ∀ x ∈ es,small x) (i : Nat) {e : Entry} (he : small e) : ∀ x ∈ es.set i e,small x:=fun x hx=>by
 rcases List.mem_or_eq_of_mem_set hx with hx | rfl
 ·exact h x hx
 ·exact he
theorem Qsfv {n : Str} {l : List Fld} (h : small ⟨n,l⟩) (i : Nat) {f : Fld} (hf : szV f.value = true) : small ⟨n,l.set i f⟩:=by
 refine ⟨by have:=h.1; simp only [List.length_set]; exact this,fun g hg=>?_⟩
 rcases List.mem_or_eq_of_mem_set hg with hg | rfl
 ·exact h.2 g hg
 ·exact hf
theorem Q7q7 {es : List Entry} {i : Nat} (h : i < es.length) : es.getD i (dfltP .entry) ∈ es:=by
 rw [qgD,qeG h]; exact List.getElem_mem _
theorem Qfaa {l : List Fld} {i : Nat} (h : i < l.length) : l.getD i (dfltP .fld) ∈ l:=by
 rw [qgD,qeG h]; exact List.getElem_mem _
theorem Q23x {ks : List Kind} {ps : List Point} {es : List Entry} (h : goodE ks ps es = true) : ∀ x ∈ es,1 ≤ x.fields.length:=fun x hx=>by
 simp only [goodE,Qn0o,qaT] at h
 have:=Qmra es _ h.1.2.2 x hx
 simp only [Q7i7,qaT,Bool.not_eq_true',decide_eq_false_iff_not] at this
 omega
end Lx
namespace Lx
open Go Go.Proofs
noncomputable def Qb57 : RE Ty El:=⟨Tryz.prog,CP,[(Qpxs,Q7v2),(Qchm,Q2vb),(Qfx9,Qc1o),(Q0nv,Qwn9),(Q963,Qx4k),(Qstj,Qmce)],Tryz.f143,1,[.agg [.ro .kind,.ro .point,.ro .entry]],[(10,[(4,.any),(5,.any),(8,.any),(9,.any)]),(3,[(0,.box [.ro .kind,.ro .point,.any]),(4,.box [.ro .kind,.ro .point,.any]),(5,.box [.ro .kind,.ro .point,.any])]),(14,[(0,.box [.ro .kind,.ro .point,.any]),(4,.box [.ro .kind,.ro .point,.any]),(5,.box [.ro .kind,.ro .point,.any])]),(26,[(4,.any),(5,.any),(6,.any)])]⟩
theorem Qjmm : REOK Qb57 Qvef:=⟨CP_ok,(TabOK.cons Q0e7 (TabOK.cons Qyvd (TabOK.cons Qaka (TabOK.cons Q83y (TabOK.cons Q1zq (TabOK.cons Qqii Qye1)))))),by kernel_rfl,by kernel_rfl⟩
theorem Qocw (bs : List Int) (p : Int) (ks : List Kind) (ps : List Point) (es : List Entry) : aRun Qb57 600 false (body0 Qb57.fn) (Q4gm Qb57.fn [.ptr 0 0,.agg [.sl .kind ks,.sl .point ps,.sl .entry es]] [.box [.sl .u8 bs,.int .i64 p]]) =
 ifb (Q8cx ks ps es) (ifb ((↑es.length : Int) == (0 : Int)) (some (.go (Qu6t Qb57.fn 3) [.ptr 0 0,.ptr 1 0,.ptr 2 0] [.box [.sl .u8 bs,.int .i64 p],.box [.sl .kind [],.sl .point [],.nils],.box [.sl .kind ks,.sl .point ps,.own 3 [] 0],.row .entry es 1 0 0 .no])) (ifb (posOk p) (ifb (inb (pickV bs p (↑es.length : Int)) es.length) (ifb (posOk (p + 1)) (ifb (posOk (p + 1 + 1)) (ifb (pickV bs (p + 1 + 1) (8 : Int) == (0 : Int)) (some (.go (Qu6t Qb57.fn 14) [.ptr 0 0,.ptr 1 0,.ptr 2 0] [.box [.sl .u8 bs,.int .i64 (p + 1 + 1 + 1)],.box [.sl .kind [],.sl .point [],.nils],.box [.sl .kind ks,.sl .point ps,.own 3 [] 0],.row .entry es 1 0 0 .no])) (ifb (pickV bs (p + 1 + 1) (8 : Int) == (1 : Int)) (ifb (rdOk bs (p + 1 + 1 + 1) && decide ((0 : Nat) < [#[].toList, #[(97 : UInt8)].toList, #[(122 : UInt8),(122 : UInt8)].toList, #[(75 : UInt8)].toList].length)) (ifb (inb (pickV bs p (↑es.length : Int)) es.length) (some (.ret (.agg [.sl .kind ks,.sl .point ps,.sl .entry (es.set (pickV bs p (↑es.length : Int)).toNat (Entry.mk (ofV bs (p + 1 + 1 + 1) [#[].toList, #[(97 : UInt8)].toList, #[(122 : UInt8),(122 : UInt8)].toList, #[(75 : UInt8)].toList]) (es.getD (pickV bs p (↑es.length : Int)).toNat (Qb57.C.dflt Ty.entry)).fields))]) [.box [.sl .u8 bs,.int .i64 (p + 1 + 1 + 1 + 1)]])) (none)) (none)) (ifb (pickV bs (p + 1 + 1) (8 : Int) == (2 : Int)) (ifb (inb (pickV bs p (↑es.length : Int)) es.length) (some (.ret (.agg [.sl .kind ks,.sl .point ps,.sl .entry (es.set (pickV bs p (↑es.length : Int)).toNat (Entry.mk (es.getD (pickV bs p (↑es.length : Int)).toNat (Qb57.C.dflt Ty.entry)).name []))]) [.box [.sl .u8 bs,.int .i64 (p + 1 + 1 + 1)]])) (none)) (ifb (pickV bs (p + 1 + 1) (8 : Int) == (3 : Int)) (ifb (inb (pickV bs p (↑es.length : Int)) es.length) (ifb (posOk (p + 1 + 1 + 1)) (ifb (inb (pickV bs (p + 1) (↑(es.getD (pickV bs p (↑es.length : Int)).toNat (Qb57.C.dflt Ty.entry)).fields.length : Int)) (es.getD (pickV bs p (↑es.length : Int)).toNat (Qb57.C.dflt Ty.entry)).fields.length) (some (.ret (.agg [.sl .kind ks,.sl .point ps,.sl .entry (es.set (pickV bs p (↑es.length : Int)).toNat (Entry.mk (es.getD (pickV bs p (↑es.length : Int)).toNat (Qb57.C.dflt Ty.entry)).name ((es.getD (pickV bs p (↑es.length : Int)).toNat (Qb57.C.dflt Ty.entry)).fields.set (pickV bs (p + 1) (↑(es.getD (pickV bs p (↑es.length : Int)).toNat (Qb57.C.dflt Ty.entry)).fields.length : Int)).toNat (Fld.mk (pickV bs (p + 1 + 1 + 1) (7 : Int)) ((es.getD (pickV bs p (↑es.length : Int)).toNat (Qb57.C.dflt Ty.entry)).fields.getD (pickV bs (p + 1) (↑(es.getD (pickV bs p (↑es.length : Int)).toNat (Qb57.C.dflt Ty.entry)).fields.length : Int)).toNat (Qb57.C.dflt Ty.fld)).number ((es.getD (pickV bs p (↑es.length : Int)).toNat (Qb57.C.dflt Ty.entry)).fields.getD (pickV bs (p + 1) (↑(es.getD (pickV bs p (↑es.length : Int)).toNat (Qb57.C.dflt Ty.entry)).fields.length : Int)).toNat (Qb57.C.dflt Ty.fld)).value))))]) [.box [.sl .u8 bs,.int .i64 (p + 1 + 1 + 1 + 1)]])) (none)) (none)) (none)) (ifb (pickV bs (p + 1 + 1) (8 : Int) == (4 : Int)) (ifb (inb (pickV bs p (↑es.length : Int)) es.length) (ifb (posOk (p + 1 + 1 + 1)) (ifb (inb (pickV bs (p + 1 + 1 + 1) (3 : Int)) [(0 : Int),(1000001 : Int),(1000000 : Int)].length) (ifb (inb (pickV bs (p + 1) (↑(es.getD (pickV bs p (↑es.length : Int)).toNat (Qb57.C.dflt Ty.entry)).fields.length : Int)) (es.getD (pickV bs p (↑es.length : Int)).toNat (Qb57.C.dflt Ty.entry)).fields.length) (some (.ret (.agg [.sl .kind ks,.sl .point ps,.sl .entry (es.set (pickV bs p (↑es.length : Int)).toNat (Entry.mk (es.getD (pickV bs p (↑es.length : Int)).toNat (Qb57.C.dflt Ty.entry)).name ((es.getD (pickV bs p (↑es.length : Int)).toNat (Qb57.C.dflt Ty.entry)).fields.set (pickV bs (p + 1) (↑(es.getD (pickV bs p (↑es.length : Int)).toNat (Qb57.C.dflt Ty.entry)).fields.length : Int)).toNat (Fld.mk ((es.getD (pickV bs p (↑es.length : Int)).toNat (Qb57.C.dflt Ty.entry)).fields.getD (pickV bs (p + 1) (↑(es.getD (pickV bs p (↑es.length : Int)).toNat (Qb57.C.dflt Ty.entry)).fields.length : Int)).toNat (Qb57.C.dflt Ty.fld)).what ([(0 : Int),(1000001 : Int),(1000000 : Int)].getD (pickV bs (p + 1 + 1 + 1) (3 : Int)).toNat (Qb57.C.dflt Ty.int)) ((es.getD (pickV bs p (↑es.length : Int)).toNat (Qb57.C.dflt Ty.entry)).fields.getD (pickV bs (p + 1) (↑(es.getD (pickV bs p (↑es.length : Int)).toNat (Qb57.C.dflt Ty.entry)).fields.length : Int)).toNat (Qb57.C.dflt Ty.fld)).value))))]) [.box [.sl .u8 bs,.int .i64 (p + 1 + 1 + 1 + 1)]])) (none)) (none)) (none)) (none)) (ifb (pickV bs (p + 1 + 1) (8 : Int) == (5 : Int)) (ifb (inb (pickV bs p (↑es.length : Int)) es.length) (ifb (rdOk bs (p + 1 + 1 + 1)) (ifb (inb (pickV bs (p + 1) (↑(es.getD (pickV bs p (↑es.length : Int)).toNat (Qb57.C.dflt Ty.entry)).fields.length : Int)) (es.getD (pickV bs p (↑es.length : Int)).toNat (Qb57.C.dflt Ty.entry)).fields.length) (some (.ret (.agg [.sl .kind ks,.sl .point ps,.sl .entry (es.set (pickV bs p (↑es.length : Int)).toNat (Entry.mk (es.getD (pickV bs p (↑es.length : Int)).toNat (Qb57.C.dflt Ty.entry)).name ((es.getD (pickV bs p (↑es.length : Int)).toNat (Qb57.C.dflt Ty.entry)).fields.set (pickV bs (p + 1) (↑(es.getD (pickV bs p (↑es.length : Int)).toNat (Qb57.C.dflt Ty.entry)).fields.length : Int)).toNat (Fld.mk ((es.getD (pickV bs p (↑es.length : Int)).toNat (Qb57.C.dflt Ty.entry)).fields.getD (pickV bs (p + 1) (↑(es.getD (pickV bs p (↑es.length : Int)).toNat (Qb57.C.dflt Ty.entry)).fields.length : Int)).toNat (Qb57.C.dflt Ty.fld)).what ((es.getD (pickV bs p (↑es.length : Int)).toNat (Qb57.C.dflt Ty.entry)).fields.getD (pickV bs (p + 1) (↑(es.getD (pickV bs p (↑es.length : Int)).toNat (Qb57.C.dflt Ty.entry)).fields.length : Int)).toNat (Qb57.C.dflt Ty.fld)).number (ofV bs (p + 1 + 1 + 1) bad12)))))]) [.box [.sl .u8 bs,.int .i64 (p + 1 + 1 + 1 + 1)]])) (none)) (none)) (none)) (ifb (pickV bs (p + 1 + 1) (8 : Int) == (6 : Int)) (some (.go (Qu6t Qb57.fn 26) [.ptr 1 0,.ptr 2 0,.int .i64 (pickV bs p (↑es.length : Int))] [.box [.sl .u8 bs,.int .i64 (p + 1 + 1 + 1)],.box [.nils,.nils,.nils],.box [.own 3 [] 0,.own 4 [] 0,.own 5 [] 0],.row .kind ks 0 0 0 .no,.row .point ps 0 0 0 .no,.row .entry es 1 0 0 .no])) (ifb (posOk (p + 1 + 1 + 1)) (some (.go (Qu6t Qb57.fn 10) [.ptr 1 0,.ptr 2 0,.int .i64 (IntKind.i64.wrap ((12 : Int) + pickV bs (p + 1 + 1 + 1) (2 : Int))),.int .i64 0] [.box [.sl .u8 bs,.int .i64 (p + 1 + 1 + 1 + 1)],.box [.nils,.nils,.nils],.box [.own 3 [] 0,.own 4 [] 0,.own 5 [] 0],.row .kind ks 0 0 0 .no,.row .point ps 0 0 0 .no,.row .entry es 1 0 0 .no])) (none))))))))) (none)) (none)) (none)) (none))) (none):=by kernel_rfl
theorem Qv3i (x0 : List (El .u8)) (x1 : Int) (x2 : List (El .kind)) (x3 : List (El .point)) (x4 : List (El .kind)) (x5 : List (El .point)) (x6 : List (El .entry)) : aRun Qb57 600 true (Qu6t Qb57.fn 3) (cutSt Qb57.fn (Q1m4 Qb57 (Qu6t Qb57.fn 3)) [.ptr 0 0,.ptr 1 0,.ptr 2 0] [.box [.sl .u8 x0,.int .i64 x1],.box [.sl .kind x2,.sl .point x3,.nils],.box [.sl .kind x4,.sl .point x5,.own 3 [] 0],.row .entry x6 1 0 0 .no]) =
 ifb (spK x0 x1 x4 x5) (some (.ret (.agg [.sl .kind ((dSp x0 x1 x4 x5).ks),.sl .point ((dSp x0 x1 x4 x5).ps),.sl .entry x6]) [.box [.sl .u8 x0,.int .i64 ((dSp x0 x1 x4 x5).p)]])) (none):=by kernel_rfl
theorem Qmd8 (x0 : List (El .u8)) (x1 : Int) (x2 : List (El .kind)) (x3 : List (El .point)) (x4 : List (El .kind)) (x5 : List (El .point)) (x6 : List (El .entry)) : aRun Qb57 600 true (Qu6t Qb57.fn 14) (cutSt Qb57.fn (Q1m4 Qb57 (Qu6t Qb57.fn 14)) [.ptr 0 0,.ptr 1 0,.ptr 2 0] [.box [.sl .u8 x0,.int .i64 x1],.box [.sl .kind x2,.sl .point x3,.nils],.box [.sl .kind x4,.sl .point x5,.own 3 [] 0],.row .entry x6 1 0 0 .no]) =
 ifb (spK x0 x1 x4 x5) (some (.ret (.agg [.sl .kind ((dSp x0 x1 x4 x5).ks),.sl .point ((dSp x0 x1 x4 x5).ps),.sl .entry x6]) [.box [.sl .u8 x0,.int .i64 ((dSp x0 x1 x4 x5).p)]])) (none):=by kernel_rfl
theorem Q57m (x0 : Int) (x1 : Int) (x2 : List (El .u8)) (x3 : Int) (x4 : List (El .kind)) (x5 : List (El .point)) (x6 : List (El .entry)) : aRun Qb57 600 true (Qu6t Qb57.fn 10) (cutSt Qb57.fn (Q1m4 Qb57 (Qu6t Qb57.fn 10)) [.ptr 1 0,.ptr 2 0,.int .i64 x0,.int .i64 x1] [.box [.sl .u8 x2,.int .i64 x3],.box [.nils,.nils,.nils],.box [.own 3 [] 0,.own 4 [] 0,.own 5 [] 0],.row .kind x4 0 0 0 .no,.row .point x5 0 0 0 .no,.row .entry x6 1 0 0 .no]) =
 ifb (decide ((↑x6.length : Int) < x0)) (ifb (decide (0 ≤ IntKind.i64.wrap ((10 : Int) + x1)) && decide (IntKind.i64.wrap ((10 : Int) + x1) < (10 : Int) ^ ((4 : Nat) + (1 : Nat)))) (ifb (decide (#[(122 : UInt8)].toList.length + List.length (dDec (4 : Nat) (IntKind.i64.wrap ((10 : Int) + x1))) ≤ (9223372036854775807 : Nat))) (ifb (decide ((x6.length + [Entry.mk (#[(122 : UInt8)].toList ++ dDec (4 : Nat) (IntKind.i64.wrap ((10 : Int) + x1))) [Fld.mk (5 : Int) (1 : Int) #[(111 : UInt8),(112 : UInt8),(101 : UInt8),(110 : UInt8)].toList]].length) * Qbhn Qb57.P (92 : Nat) ≤ (140737488355328 : Nat))) (some (.go (Qu6t Qb57.fn 10) [.ptr 1 0,.ptr 2 0,.int .i64 x0,.int .i64 (IntKind.i64.wrap (x1 + 1))] [.box [.sl .u8 x2,.int .i64 x3],.box [.nils,.nils,.nils],.box [.own 3 [] 0,.own 4 [] 0,.own 5 [] 0],.row .kind x4 0 0 0 .no,.row .point x5 0 0 0 .no,.row .entry (x6 ++ [Entry.mk (#[(122 : UInt8)].toList ++ dDec (4 : Nat) (IntKind.i64.wrap ((10 : Int) + x1))) [Fld.mk (5 : Int) (1 : Int) #[(111 : UInt8),(112 : UInt8),(101 : UInt8),(110 : UInt8)].toList]]) 1 0 0 .no])) (none)) (none)) (none)) (some (.ret (.agg [.sl .kind x4,.sl .point x5,.sl .entry x6]) [.box [.sl .u8 x2,.int .i64 x3]])):=by kernel_rfl
theorem Qamf (x0 : Int) (x1 : List (El .u8)) (x2 : Int) (x3 : List (El .kind)) (x4 : List (El .point)) (x5 : List (El .entry)) : aRun Qb57 600 true (Qu6t Qb57.fn 26) (cutSt Qb57.fn (Q1m4 Qb57 (Qu6t Qb57.fn 26)) [.ptr 1 0,.ptr 2 0,.int .i64 x0] [.box [.sl .u8 x1,.int .i64 x2],.box [.nils,.nils,.nils],.box [.own 3 [] 0,.own 4 [] 0,.own 5 [] 0],.row .kind x3 0 0 0 .no,.row .point x4 0 0 0 .no,.row .entry x5 0 0 0 .no]) =
 ifb (inb x0 x5.length) (ifb (decide ((x5.length + [x5.getD x0.toNat (Qb57.C.dflt Ty.entry)].length) * Qbhn Qb57.P (92 : Nat) ≤ (140737488355328 : Nat))) (some (.ret (.agg [.sl .kind x3,.sl .point x4,.sl .entry (x5 ++ [x5.getD x0.toNat (Qb57.C.dflt Ty.entry)])]) [.box [.sl .u8 x1,.int .i64 x2]])) (none)) (none):=by kernel_rfl
theorem Qn22 {bs : List Int} {p q : Int} {ks : List Kind} {ps : List Point} {es : List Entry} (h1 : goodS ks ps es = true) (h3 : p ≤ q) (h4 : q ≤ p + 100) : ∃ x : BookP,(AV.agg [.sl .kind ks,.sl .point ps,.sl .entry es] : AV Ty El) = (.agg [.sl .kind x.ks,.sl .point x.ps,.sl .entry x.es]) ∧ ([.box [.sl .u8 bs,.int .i64 q]] : List (AObj Ty El)) = [.box [.sl .u8 bs,.int .i64 x.p]] ∧ Qe4i p x:=⟨⟨ks,ps,es,q⟩,rfl,rfl,h1,h3,h4⟩
theorem Qtzz (bs : List Int) (hbs : Qf9o bs = true) (ks : List Kind) (ps : List Point) (es : List Entry) (k1 : 1 ≤ ks.length) (k2 : ks.length ≤ 10) (s1 : 1 ≤ ps.length) (s2 : ps.length ≤ 40) (h12 : es.length ≤ 12) (hs : ∀ x ∈ es,small x) (hn : Qeqt ps = true) (p q : Int) (h0 : 0 ≤ p) (h9 : p ≤ 870000) (h2 : p ≤ q) (h3 : q ≤ p + 10) :
  CutE Qb57 Qvef 3 [.ptr 0 0,.ptr 1 0,.ptr 2 0] [.box [.sl .u8 bs,.int .i64 q],.box [.sl .kind [],.sl .point [],.nils],.box [.sl .kind ks,.sl .point ps,.own 3 [] 0],.row .entry es 1 0 0 .no] (fun v h=>∃ x : BookP,v = (.agg [.sl .kind x.ks,.sl .point x.ps,.sl .entry x.es]) ∧ h = [.box [.sl .u8 bs,.int .i64 x.p]] ∧ Qe4i p x):=by
 refine CutE.of Qjmm rfl (Qv3i bs q [] [] ks ps es) ?_
 have hk : spK bs q ks ps = true:=by simp only [spK,qaT,qdT]; exact ⟨hbs,by omega,by omega,k1,k2,s1,s2,hn⟩
 obtain ⟨a1,a2,a3,a4,a5⟩:=(Qtjp bs q ks ps hk).2
 exact SatE.need hk (SatE.ret (Qn22 (Qieu (by omega) (by omega) (by omega) hs a5) (by omega) (by omega)))
theorem Qv3y (bs : List Int) (hbs : Qf9o bs = true) (ks : List Kind) (ps : List Point) (es : List Entry) (k1 : 1 ≤ ks.length) (k2 : ks.length ≤ 10) (s1 : 1 ≤ ps.length) (s2 : ps.length ≤ 40) (h12 : es.length ≤ 12) (hs : ∀ x ∈ es,small x) (hn : Qeqt ps = true) (p q : Int) (h0 : 0 ≤ p) (h9 : p ≤ 870000) (h2 : p ≤ q) (h3 : q ≤ p + 10) :
  CutE Qb57 Qvef 14 [.ptr 0 0,.ptr 1 0,.ptr 2 0] [.box [.sl .u8 bs,.int .i64 q],.box [.sl .kind [],.sl .point [],.nils],.box [.sl .kind ks,.sl .point ps,.own 3 [] 0],.row .entry es 1 0 0 .no] (fun v h=>∃ x : BookP,v = (.agg [.sl .kind x.ks,.sl .point x.ps,.sl .entry x.es]) ∧ h = [.box [.sl .u8 bs,.int .i64 x.p]] ∧ Qe4i p x):=by
 refine CutE.of Qjmm rfl (Qmd8 bs q [] [] ks ps es) ?_
 have hk : spK bs q ks ps = true:=by simp only [spK,qaT,qdT]; exact ⟨hbs,by omega,by omega,k1,k2,s1,s2,hn⟩
 obtain ⟨a1,a2,a3,a4,a5⟩:=(Qtjp bs q ks ps hk).2
 exact SatE.need hk (SatE.ret (Qn22 (Qieu (by omega) (by omega) (by omega) hs a5) (by omega) (by omega)))
theorem Q985 (bs : List Int) (ks : List Kind) (ps : List Point) (k2 : ks.length ≤ 10) (s2 : ps.length ≤ 40) (hnm : Qeqt ps = true) (p q n : Int) (hn : n ≤ 20) (h2 : p ≤ q) (h3 : q ≤ p + 10) : ∀ (d i : Nat) (es : List Entry),n ≤ es.length + d → i + d ≤ 50 → es.length ≤ 20 → (∀ x ∈ es,small x) →
  CutE Qb57 Qvef 10 [.ptr 1 0,.ptr 2 0,.int .i64 n,.int .i64 (i : Int)] [.box [.sl .u8 bs,.int .i64 q],.box [.nils,.nils,.nils],.box [.own 3 [] 0,.own 4 [] 0,.own 5 [] 0],.row .kind ks 0 0 0 .no,.row .point ps 0 0 0 .no,.row .entry es 1 0 0 .no] (fun v h=>∃ x : BookP,v = (.agg [.sl .kind x.ks,.sl .point x.ps,.sl .entry x.es]) ∧ h = [.box [.sl .u8 bs,.int .i64 x.p]] ∧ Qe4i p x):=by
 have hbb : Qbhn Qb57.P 92 ≤ 256:=of_decide_eq_true (by kernel_rfl)
 intro d
 induction d with
 | zero =>
  intro i es hl hi hm hs
  refine CutE.of Qjmm rfl (Q57m n i bs q ks ps es) ?_
  rw [show decide ((es.length : Int) < n) = false from decide_eq_false (by omega),Qk7y]
  exact SatE.ret (Qn22 (Qieu (by omega) (by omega) (by omega) hs hnm) (by omega) (by omega))
 | succ d ih =>
  intro i es hl hi hm hs
  refine CutE.of Qjmm rfl (Q57m n i bs q ks ps es) ?_
  have hw : IntKind.i64.wrap ((i : Int) + 1) = ((i + 1 : Nat) : Int):=by rw [Qbrg] <;> omega
  have hw2 : IntKind.i64.wrap (10 + (i : Int)) = 10 + (i : Int):=Qbrg (by omega) (by omega)
  obtain ⟨g1,l1⟩:=decs (n:=10 + (i : Int)) (by omega) (by omega)
  rw [hw,hw2]
  refine SatE.ifb (fun hlt=>?_) (fun _=>SatE.ret (Qn22 (Qieu (by omega) (by omega) (by omega) hs hnm) (by omega) (by omega)))
  have hlt:=of_decide_eq_true hlt
  refine SatE.need g1 (SatE.need (decide_eq_true (by simp; omega)) (SatE.need (Q1mk hbb (by simp; omega)) (SatE.cut (ih (i + 1) _ (by simp; omega) (by omega) (by simp; omega) ?_))))
  intro x hx
  rcases List.mem_append.1 hx with hx | hx
  ·exact hs x hx
  ·simp only [List.mem_singleton] at hx
   subst hx
   exact ⟨by simp,fun f hf=>by simp only [List.mem_singleton] at hf; subst hf; exact decide_eq_true (by simp)⟩
theorem Qzxv (bs : List Int) (p : Int) (ks : List Kind) (ps : List Point) (es : List Entry) (hg : slK bs p ks ps es = true) : Qewq Tryz.prog CP Qvef [.ptr 0 0,.agg [.sl .kind ks,.sl .point ps,.sl .entry es]] [.box [.sl .u8 bs,.int .i64 p]] (.agg [.sl .kind (Qkav bs p ks ps es).ks,.sl .point (Qkav bs p ks ps es).ps,.sl .entry (Qkav bs p ks ps es).es]) [.box [.sl .u8 bs,.int .i64 (Qkav bs p ks ps es).p]] ∧ Qe4i p (Qkav bs p ks ps es):=by
 simp only [slK,qaT,qdT] at hg
 obtain ⟨hbs,h0,h9,k1,s1,hge⟩:=hg
 have hge2:=hge
 simp only [goodE,goodB,Qn0o,Qib4,qaT,qdT] at hge2
 obtain ⟨⟨⟨k2,s2,_⟩,_⟩,_,ht⟩:=hge2
 obtain ⟨h12,hs⟩:=Qyyr hge
 have hnm : Qeqt ps = true:=by
  have h:=hge
  simp only [goodE,Qn0o,qaT] at h
  exact (Qd1y h.1.1).2
 have hbb : Qbhn Qb57.P 92 ≤ 256:=of_decide_eq_true (by kernel_rfl)
 have ps0 : ∀ (q : Int),p ≤ q → q ≤ p + 10 → posOk q = true:=fun q h2 h3=>Q8s4 (by omega) (by omega)
 have pk : ∀ (q n : Int),p ≤ q → q ≤ p + 10 → 1 ≤ n → 0 ≤ pickV bs q n ∧ pickV bs q n < n:=fun q n h2 h3 h4=>Q5va hbs (ps0 q h2 h3) h4
 have rd0 : ∀ (q : Int),p ≤ q → q ≤ p + 10 → rdOk bs q = true:=fun q h2 h3=>by rw [rdOk,hbs,ps0 q h2 h3]; rfl
 have rd : ∀ (q : Int) (l : List Str),p ≤ q → q ≤ p + 10 → 0 < l.length → (rdOk bs q && decide (0 < l.length)) = true:=fun q l h2 h3 hl=>by rw [rd0 q h2 h3,decide_eq_true hl]; rfl
 have hE : CallE Qb57.P Qb57.C Qvef [.ptr 0 0,.agg [.sl .kind ks,.sl .point ps,.sl .entry es]] [.box [.sl .u8 bs,.int .i64 p]] (fun v h=>∃ x : BookP,v = (.agg [.sl .kind x.ks,.sl .point x.ps,.sl .entry x.es]) ∧ h = [.box [.sl .u8 bs,.int .i64 x.p]] ∧ Qe4i p x):=by
  refine CallE.of Qjmm (by kernel_rfl) (Qocw bs p ks ps es) ?_
  refine SatE.need ht (SatE.ifb (fun _=>SatE.cut (Qtzz bs hbs ks ps es k1 (by omega) s1 (by omega) h12 hs hnm p p h0 h9 (by omega) (by omega))) (fun hne=>?_))
  have hl1 : 1 ≤ es.length:=by
   have : ¬ ((es.length : Int) = 0):=by simpa using hne
   omega
  obtain ⟨i1,i2⟩:=pk p (es.length : Int) (by omega) (by omega) (by omega)
  have hi : inb (pickV bs p (es.length : Int)) es.length = true:=inbL ⟨i1,i2⟩
  have hm:=Q7q7 (es:=es) (i:=(pickV bs p (es.length : Int)).toNat) (by omega)
  have hsm:=hs _ hm
  have hfp:=Q23x hge _ hm
  refine SatE.need (ps0 _ (by omega) (by omega)) (SatE.need hi (SatE.need (ps0 _ (by omega) (by omega)) (SatE.need (ps0 _ (by omega) (by omega)) ?_)))
  have hf : inb (pickV bs (p + 1) ((es.getD (pickV bs p (es.length : Int)).toNat (dfltP .entry)).fields.length : Int)) (es.getD (pickV bs p (es.length : Int)).toNat (dfltP .entry)).fields.length = true:=inbL (pk (p + 1) _ (by omega) (by omega) (by omega))
  obtain ⟨f1,f2⟩:=pk (p + 1) ((es.getD (pickV bs p (es.length : Int)).toNat (dfltP .entry)).fields.length : Int) (by omega) (by omega) (by omega)
  have hfm:=Qfaa (l:=(es.getD (pickV bs p (es.length : Int)).toNat (dfltP .entry)).fields) (i:=(pickV bs (p + 1) ((es.getD (pickV bs p (es.length : Int)).toNat (dfltP .entry)).fields.length : Int)).toNat) (by omega)
  have hfz:=hsm.2 _ hfm
  have fin : ∀ (es' : List Entry) (q : Int),es'.length ≤ 20 → (∀ x ∈ es',small x) → p ≤ q → q ≤ p + 10 → SatE Qb57 Qvef (fun v h=>∃ x : BookP,v = (.agg [.sl .kind x.ks,.sl .point x.ps,.sl .entry x.es]) ∧ h = [.box [.sl .u8 bs,.int .i64 x.p]] ∧ Qe4i p x) (some (.ret (.agg [.sl .kind ks,.sl .point ps,.sl .entry es']) [.box [.sl .u8 bs,.int .i64 q]])):=fun es' q h1 h2 h3 h4=>SatE.ret (Qn22 (Qieu (by omega) (by omega) (by omega) h2 hnm) (by omega) (by omega))
  have hsl : ∀ (k : Nat) (e : Entry),(es.set k e).length ≤ 20:=fun k e=>by rw [List.length_set]; omega
  refine SatE.ifb (fun _=>?_) (fun _=>SatE.ifb (fun _=>?_) (fun _=>SatE.ifb (fun _=>?_) (fun _=>SatE.ifb (fun _=>?_) (fun _=>SatE.ifb (fun _=>?_) (fun _=>SatE.ifb (fun _=>?_) (fun _=>SatE.ifb (fun _=>?_) (fun _=>?_)))))))
  ·exact SatE.cut (Qv3y bs hbs ks ps es k1 (by omega) s1 (by omega) h12 hs hnm p _ h0 h9 (by omega) (by omega))
  ·exact SatE.need (rd _ _ (by omega) (by omega) (Nat.zero_lt_succ _)) (SatE.need hi (fin _ _ (hsl _ _) (Qt1v hs _ hsm) (by omega) (by omega)))
  ·exact SatE.need hi (fin _ _ (hsl _ _) (Qt1v hs _ ⟨Nat.zero_le _,fun f hf=>by cases hf⟩) (by omega) (by omega))
  ·exact SatE.need hi (SatE.need (ps0 _ (by omega) (by omega)) (SatE.need hf (fin _ _ (hsl _ _) (Qt1v hs _ (Qsfv hsm _ hfz)) (by omega) (by omega))))
  ·exact SatE.need hi (SatE.need (ps0 _ (by omega) (by omega)) (SatE.need (inb3 (pk (p + 1 + 1 + 1) 3 (by omega) (by omega) (by omega))) (SatE.need hf (fin _ _ (hsl _ _) (Qt1v hs _ (Qsfv hsm _ hfz)) (by omega) (by omega)))))
  ·exact SatE.need hi (SatE.need (rd0 _ (by omega) (by omega)) (SatE.need hf (fin _ _ (hsl _ _) (Qt1v hs _ (Qsfv hsm _ (decide_eq_true (Nat.le_trans (Qgo3 (M:=100) (by rfl)) (by omega))))) (by omega) (by omega))))
  ·refine SatE.cut (CutE.frz (r:=5) (d:=1) (d':=0) (T:=.entry) (xs:=es) CP_ok (by simp) rfl (by omega) ?_)
   refine CutE.of Qjmm rfl (Qamf _ bs _ ks ps es) ?_
   refine SatE.need hi (SatE.need (Q1mk hbb (by simp; omega)) (fin _ _ (by simp; omega) (fun x hx=>?_) (by omega) (by omega)))
   rcases List.mem_append.1 hx with hx | hx
   ·exact hs x hx
   ·simp only [List.mem_singleton] at hx
    subst hx
    exact hsm
  ·obtain ⟨n1,n2⟩:=pk (p + 1 + 1 + 1) 2 (by omega) (by omega) (by omega)
   have hw : IntKind.i64.wrap (12 + pickV bs (p + 1 + 1 + 1) 2) = 12 + pickV bs (p + 1 + 1 + 1) 2:=Qbrg (by omega) (by omega)
   rw [hw]
   exact SatE.need (ps0 _ (by omega) (by omega)) (SatE.cut (Q985 bs ks ps (by omega) (by omega) hnm p _ _ (by omega) (by omega) (by omega) 13 0 es (by omega) (by omega) (by omega) hs))
 obtain ⟨v,H',h,x,rfl,rfl,hx⟩:=hE
 exact Qk78 (p:=fun x : BookP=>Qewq Tryz.prog CP Qvef [.ptr 0 0,.agg [.sl .kind ks,.sl .point ps,.sl .entry es]] [.box [.sl .u8 bs,.int .i64 p]] (.agg [.sl .kind x.ks,.sl .point x.ps,.sl .entry x.es]) [.box [.sl .u8 bs,.int .i64 x.p]] ∧ Qe4i p x) ⟨x,h,hx⟩
theorem Qq5v (bs : List Int) (p : Int) (ks : List Kind) (ps : List Point) (es : List Entry) (hg : slK bs p ks ps es = true) : Qewq Tryz.prog CP Qvef [.ptr 0 0,.agg [.sl .kind ks,.sl .point ps,.sl .entry es]] [.box [.sl .u8 bs,.int .i64 p]] (.agg [.sl .kind (Qkav bs p ks ps es).ks,.sl .point (Qkav bs p ks ps es).ps,.sl .entry (Qkav bs p ks ps es).es]) [.box [.sl .u8 bs,.int .i64 (Qkav bs p ks ps es).p]]:=by
 exact (Qzxv bs p ks ps es hg).1
theorem Qql7 : EntOK Tryz.prog CP Qvef Qsb4:=by
 refine ⟨eob (by kernel_rfl),fun _ _ _ _ h=>?_⟩
 simp only [Qsb4] at h
 split at h
 ·obtain ⟨hg,rfl,rfl⟩:=eoh h
  exact Qq5v _ _ _ _ _ hg
 ·cases h
end Lx
namespace Lx
open Go Go.Proofs
end Lx
namespace Lx
open Go Go.Proofs
end Lx
namespace Lx
open Go Go.Proofs
structure OvP where
 ks : List Kind
 ps : List Point
 es : List Entry
 n : Str
 q : Str
 deriving Inhabited
structure FlP where
 ks : List Kind
 ps : List Point
 es : List Entry
 n : Str
 l : List Int
 deriving Inhabited
structure CeP where
 ks : List Kind
 ps : List Point
 l : List Str
 deriving Inhabited
theorem Qz2g {c : List Int} (h : Qf9o c = true) (n : Nat) : Qf9o (c.take n) = true:=qlA.2 fun b hb=>qlA.1 h b (List.mem_of_mem_take hb)
end Lx
namespace Lx
open Go Go.Proofs
end Lx
namespace Lx
open Go Go.Proofs
end Lx
namespace Lx
open Go Go.Proofs
noncomputable def dSpC (bs : List Int) (p : Int) (c : Chg) : ChgP:=drawn (fun x=>Qewq Tryz.prog CP Qpj2 [.ptr 0 0,.agg [.str c.flight,.int .i64 c.what,.int .i64 c.number,.str c.value]] [.box [.sl .u8 bs,.int .i64 p]] (.agg [.str x.c.flight,.int .i64 x.c.what,.int .i64 x.c.number,.str x.c.value]) [.box [.sl .u8 bs,.int .i64 x.p]] ∧ Qi1t p x)
def spcK (bs : List Int) (p : Int) (v : Str) : Bool:=Qf9o bs && (decide (0 ≤ p) && (decide (p ≤ 890000) && szV v))
noncomputable def Qxsi : Ent Ty El:=⟨[.io,.ro],0,fun a h=>match a,h with
 | [.ptr 0 0,.agg [.str fl,.int .i64 w,.int .i64 n,.str v]],[.box [.sl .u8 bs,.int .i64 p]]=>some (spcK bs p v,.agg [.str (dSpC bs p ⟨fl,w,n,v⟩).c.flight,.int .i64 (dSpC bs p ⟨fl,w,n,v⟩).c.what,.int .i64 (dSpC bs p ⟨fl,w,n,v⟩).c.number,.str (dSpC bs p ⟨fl,w,n,v⟩).c.value],[.box [.sl .u8 bs,.int .i64 (dSpC bs p ⟨fl,w,n,v⟩).p]])
 | _,_=>none⟩
def sameK (ks ks' : List Kind) (ps ps' : List Point) : Bool:=(decide (ks.length ≤ 1000000000) && decide (ps.length ≤ 1000000000)) && (decide (ks = ks') && decide (ps = ps'))
def Q2xe (ks ks' : List Kind) (ps ps' : List Point) (es es' : List Entry) : Bool:=sameK ks ks' ps ps' && (Qnwa es && decide (es = es'))
def Qdkm : Ent Ty El:=⟨[.ro,.ro],0,fun a h=>match a,h with
 | [.agg [.sl .kind ks,.sl .point ps],.agg [.sl .kind ks',.sl .point ps']],[]=>some (sameK ks ks' ps ps',.bool true,[])
 | _,_=>none⟩
def Qz24 : Ent Ty El:=⟨[.ro,.ro],0,fun a h=>match a,h with
 | [.agg [.sl .kind ks,.sl .point ps,.sl .entry es],.agg [.sl .kind ks',.sl .point ps',.sl .entry es']],[]=>some (Q2xe ks ks' ps ps' es es',.bool true,[])
 | [.agg [.sl .kind ks,.sl .point ps,.sl .entry es],.agg [.nils,.nils,.nils]],[]=>some (Q2xe ks [] ps [] es [],.bool true,[])
 | _,_=>none⟩
end Lx
namespace Lx
open Go Go.Proofs
noncomputable def Q6fp : RE Ty El:=⟨Tryz.prog,CP,[(Qpxs,Q7v2),(Qchm,Q2vb),(Q1eg,Qvc4),(Q0nv,Qwn9)],Tryz.f91,1,[],[]⟩
theorem Qi6u : REOK Q6fp Qpj2:=⟨CP_ok,(TabOK.cons Q0e7 (TabOK.cons Qyvd (TabOK.cons Q8hv (TabOK.cons Q83y Qye1)))),by kernel_rfl,by kernel_rfl⟩
theorem Q2cc (bs : List Int) (p : Int) (fl : Str) (w n : Int) (v : Str) : aRun Q6fp 600 false (body0 Q6fp.fn) (Q4gm Q6fp.fn [.ptr 0 0,.agg [.str fl,.int .i64 w,.int .i64 n,.str v]] [.box [.sl .u8 bs,.int .i64 p]]) =
 ifb (posOk p) (ifb (pickV bs p (5 : Int) == (0 : Int)) (ifb (posOk (p + 1)) (ifb (decide (#[(102 : UInt8)].toList.length ≤ (1 : Nat)) && decide (IntKind.i64.wrap ((8 : Int) + pickV bs (p + 1) (2 : Int)) < (64 : Int))) (ifb (rdOk bs (p + 1 + 1) && decide ((0 : Nat) < [#[].toList, #[(75 : UInt8)].toList,dMany #[(102 : UInt8)].toList (IntKind.i64.wrap ((8 : Int) + pickV bs (p + 1) (2 : Int)))].length)) (some (.ret (.agg [.str (ofV bs (p + 1 + 1) [#[].toList, #[(75 : UInt8)].toList,dMany #[(102 : UInt8)].toList (IntKind.i64.wrap ((8 : Int) + pickV bs (p + 1) (2 : Int)))]),.int .i64 w,.int .i64 n,.str v]) [.box [.sl .u8 bs,.int .i64 (p + 1 + 1 + 1)]])) (none)) (none)) (none)) (ifb (pickV bs p (5 : Int) == (1 : Int)) (ifb (posOk (p + 1)) (some (.ret (.agg [.str fl,.int .i64 (IntKind.i64.wrap (pickV bs (p + 1) (8 : Int) - 1)),.int .i64 n,.str v]) [.box [.sl .u8 bs,.int .i64 (p + 1 + 1)]])) (none)) (ifb (pickV bs p (5 : Int) == (2 : Int)) (ifb (posOk (p + 1)) (ifb (inb (pickV bs (p + 1) (4 : Int)) [(0 : Int),(-1 : Int),(1000000 : Int),(1000001 : Int)].length) (some (.ret (.agg [.str fl,.int .i64 w,.int .i64 ([(0 : Int),(-1 : Int),(1000000 : Int),(1000001 : Int)].getD (pickV bs (p + 1) (4 : Int)).toNat (Q6fp.C.dflt Ty.int)),.str v]) [.box [.sl .u8 bs,.int .i64 (p + 1 + 1)]])) (none)) (none)) (ifb (rdOk bs (p + 1)) (some (.ret (.agg [.str fl,.int .i64 w,.int .i64 n,.str (ofV bs (p + 1) bad12)]) [.box [.sl .u8 bs,.int .i64 (p + 1 + 1)]])) (none))))) (none):=by kernel_rfl
theorem Q395 {bs : List Int} {p q w n : Int} {f v : Str} (h1 : szV v = true) (h2 : p ≤ q) (h3 : q ≤ p + 30) : ∃ x : ChgP,(AV.agg [.str f,.int .i64 w,.int .i64 n,.str v] : AV Ty El) = (.agg [.str x.c.flight,.int .i64 x.c.what,.int .i64 x.c.number,.str x.c.value]) ∧ ([.box [.sl .u8 bs,.int .i64 q]] : List (AObj Ty El)) = [.box [.sl .u8 bs,.int .i64 x.p]] ∧ Qi1t p x:=⟨⟨⟨f,w,n,v⟩,q⟩,rfl,rfl,h1,h2,h3⟩
theorem Qz1w (bs : List Int) (p : Int) (fl : Str) (w n : Int) (v : Str) (hg : spcK bs p v = true) : Qewq Tryz.prog CP Qpj2 [.ptr 0 0,.agg [.str fl,.int .i64 w,.int .i64 n,.str v]] [.box [.sl .u8 bs,.int .i64 p]] (.agg [.str (dSpC bs p ⟨fl,w,n,v⟩).c.flight,.int .i64 (dSpC bs p ⟨fl,w,n,v⟩).c.what,.int .i64 (dSpC bs p ⟨fl,w,n,v⟩).c.number,.str (dSpC bs p ⟨fl,w,n,v⟩).c.value]) [.box [.sl .u8 bs,.int .i64 (dSpC bs p ⟨fl,w,n,v⟩).p]] ∧ Qi1t p (dSpC bs p ⟨fl,w,n,v⟩):=by
 simp only [spcK,qaT,qdT] at hg
 obtain ⟨hbs,h0,h9,hv⟩:=hg
 have ps0 : ∀ (q : Int),p ≤ q → q ≤ p + 10 → posOk q = true:=fun q h2 h3=>Q8s4 (by omega) (by omega)
 have pk : ∀ (q n : Int),p ≤ q → q ≤ p + 10 → 1 ≤ n → 0 ≤ pickV bs q n ∧ pickV bs q n < n:=fun q n h2 h3 h4=>Q5va hbs (ps0 q h2 h3) h4
 have rd0 : ∀ (q : Int),p ≤ q → q ≤ p + 10 → rdOk bs q = true:=fun q h2 h3=>by rw [rdOk,hbs,ps0 q h2 h3]; rfl
 have hE : CallE Q6fp.P Q6fp.C Qpj2 [.ptr 0 0,.agg [.str fl,.int .i64 w,.int .i64 n,.str v]] [.box [.sl .u8 bs,.int .i64 p]] (fun v h=>∃ x : ChgP,v = (.agg [.str x.c.flight,.int .i64 x.c.what,.int .i64 x.c.number,.str x.c.value]) ∧ h = [.box [.sl .u8 bs,.int .i64 x.p]] ∧ Qi1t p x):=by
  refine CallE.of Qi6u (by kernel_rfl) (Q2cc bs p fl w n v) ?_
  refine SatE.need (ps0 _ (by omega) (by omega)) (SatE.ifb (fun _=>?_) (fun _=>SatE.ifb (fun _=>?_) (fun _=>SatE.ifb (fun _=>?_) (fun _=>?_))))
  ·obtain ⟨a1,a2⟩:=pk (p + 1) 2 (by omega) (by omega) (by omega)
   have hw : IntKind.i64.wrap (8 + pickV bs (p + 1) 2) = 8 + pickV bs (p + 1) 2:=Qbrg (by omega) (by omega)
   rw [hw]
   exact SatE.need (ps0 _ (by omega) (by omega)) (SatE.need (by rw [qaT]; exact ⟨decide_eq_true (by simp),decide_eq_true (by omega)⟩) (SatE.need (by rw [rd0 _ (by omega) (by omega)]; rfl) (SatE.ret (Q395 hv (by omega) (by omega)))))
  ·exact SatE.need (ps0 _ (by omega) (by omega)) (SatE.ret (Q395 hv (by omega) (by omega)))
  ·have hi : inb (pickV bs (p + 1) 4) [(0 : Int),(-1 : Int),(1000000 : Int),(1000001 : Int)].length = true:=inbL (pk (p + 1) 4 (by omega) (by omega) (by omega))
   exact SatE.need (ps0 _ (by omega) (by omega)) (SatE.need hi (SatE.ret (Q395 hv (by omega) (by omega))))
  ·exact SatE.need (rd0 _ (by omega) (by omega)) (SatE.ret (Q395 (decide_eq_true (Nat.le_trans (Qgo3 (M:=100) (by rfl)) (by omega))) (by omega) (by omega)))
 obtain ⟨v',H',h,x,rfl,rfl,hx⟩:=hE
 unfold dSpC
 exact Qk78 (p:=fun x : ChgP=>Qewq Tryz.prog CP Qpj2 [.ptr 0 0,.agg [.str fl,.int .i64 w,.int .i64 n,.str v]] [.box [.sl .u8 bs,.int .i64 p]] (.agg [.str x.c.flight,.int .i64 x.c.what,.int .i64 x.c.number,.str x.c.value]) [.box [.sl .u8 bs,.int .i64 x.p]] ∧ Qi1t p x) ⟨x,h,hx⟩
theorem Q1qe (bs : List Int) (p : Int) (fl : Str) (w n : Int) (v : Str) (hg : spcK bs p v = true) : Qewq Tryz.prog CP Qpj2 [.ptr 0 0,.agg [.str fl,.int .i64 w,.int .i64 n,.str v]] [.box [.sl .u8 bs,.int .i64 p]] (.agg [.str (dSpC bs p ⟨fl,w,n,v⟩).c.flight,.int .i64 (dSpC bs p ⟨fl,w,n,v⟩).c.what,.int .i64 (dSpC bs p ⟨fl,w,n,v⟩).c.number,.str (dSpC bs p ⟨fl,w,n,v⟩).c.value]) [.box [.sl .u8 bs,.int .i64 (dSpC bs p ⟨fl,w,n,v⟩).p]]:=by
 exact (Qz1w bs p fl w n v hg).1
theorem Qie6 : EntOK Tryz.prog CP Qpj2 Qxsi:=by
 refine ⟨eob (by kernel_rfl),fun _ _ _ _ h=>?_⟩
 simp only [Qxsi] at h
 split at h
 ·obtain ⟨hg,rfl,rfl⟩:=eoh h
  exact Q1qe _ _ _ _ _ _ hg
 ·cases h

noncomputable def Q08f : RE Ty El:=⟨Tryz.prog,CP,[],Tryz.f140,0,[],[(4,[(2,.any),(3,.any),(5,.any)]),(9,[(2,.any),(3,.any),(6,.any)])]⟩
theorem Qcbr : REOK Q08f Qq3w:=⟨CP_ok,Qye1,by kernel_rfl,by kernel_rfl⟩
theorem Q0nu (ks ks' : List Kind) (ps ps' : List Point) : aRun Q08f 600 false (body0 Q08f.fn) (Q4gm Q08f.fn [.agg [.sl .kind ks,.sl .point ps],.agg [.sl .kind ks',.sl .point ps']] []) =
 ifb ((↑ks.length : Int) != (↑ks'.length : Int)) (some (.ret (.bool false) [])) (ifb ((↑ps.length : Int) != (↑ps'.length : Int)) (some (.ret (.bool false) [])) (some (.go (Qu6t Q08f.fn 4) [.ptr 0 0,.ptr 1 0,.int .i64 0] [.box [.sl .kind ks,.sl .point ps],.box [.sl .kind ks',.sl .point ps']]))):=by kernel_rfl
theorem Qmrs (x0 : Int) (x1 : List (El .kind)) (x2 : List (El .point)) (x3 : List (El .kind)) (x4 : List (El .point)) : aRun Q08f 600 true (Qu6t Q08f.fn 4) (cutSt Q08f.fn (Q1m4 Q08f (Qu6t Q08f.fn 4)) [.ptr 0 0,.ptr 1 0,.int .i64 x0] [.box [.sl .kind x1,.sl .point x2],.box [.sl .kind x3,.sl .point x4]]) =
 ifb (decide (x0 < (↑x1.length : Int))) (ifb (inb x0 x1.length) (ifb (inb x0 x3.length) (ifb (!((x1.getD x0.toNat (Q08f.C.dflt Ty.kind)).name == (x3.getD x0.toNat (Q08f.C.dflt Ty.kind)).name && ((x1.getD x0.toNat (Q08f.C.dflt Ty.kind)).quick == (x3.getD x0.toNat (Q08f.C.dflt Ty.kind)).quick && ((x1.getD x0.toNat (Q08f.C.dflt Ty.kind)).slow == (x3.getD x0.toNat (Q08f.C.dflt Ty.kind)).slow && true)))) (some (.ret (.bool false) [])) (some (.go (Qu6t Q08f.fn 4) [.ptr 0 0,.ptr 1 0,.int .i64 (IntKind.i64.wrap (x0 + 1))] [.box [.sl .kind x1,.sl .point x2],.box [.sl .kind x3,.sl .point x4]]))) (none)) (none)) (some (.go (Qu6t Q08f.fn 9) [.ptr 0 0,.ptr 1 0,.int .i64 0] [.box [.sl .kind x1,.sl .point x2],.box [.sl .kind x3,.sl .point x4]])):=by kernel_rfl
theorem Q0m7 (x0 : Int) (x1 : List (El .kind)) (x2 : List (El .point)) (x3 : List (El .kind)) (x4 : List (El .point)) : aRun Q08f 600 true (Qu6t Q08f.fn 9) (cutSt Q08f.fn (Q1m4 Q08f (Qu6t Q08f.fn 9)) [.ptr 0 0,.ptr 1 0,.int .i64 x0] [.box [.sl .kind x1,.sl .point x2],.box [.sl .kind x3,.sl .point x4]]) =
 ifb (decide (x0 < (↑x2.length : Int))) (ifb (inb x0 x2.length) (ifb (inb x0 x4.length) (ifb (!((x2.getD x0.toNat (Q08f.C.dflt Ty.point)).name == (x4.getD x0.toNat (Q08f.C.dflt Ty.point)).name && ((x2.getD x0.toNat (Q08f.C.dflt Ty.point)).x == (x4.getD x0.toNat (Q08f.C.dflt Ty.point)).x && ((x2.getD x0.toNat (Q08f.C.dflt Ty.point)).y == (x4.getD x0.toNat (Q08f.C.dflt Ty.point)).y && true)))) (some (.ret (.bool false) [])) (some (.go (Qu6t Q08f.fn 9) [.ptr 0 0,.ptr 1 0,.int .i64 (IntKind.i64.wrap (x0 + 1))] [.box [.sl .kind x1,.sl .point x2],.box [.sl .kind x3,.sl .point x4]]))) (none)) (none)) (some (.ret (.bool true) [])):=by kernel_rfl
theorem Qfuj (ks : List Kind) (ps : List Point) (g1 : ks.length ≤ 1000000000) (g2 : ps.length ≤ 1000000000) : ∀ (d i : Nat),i + d = ps.length → Cut Q08f Qq3w 9 [.ptr 0 0,.ptr 1 0,.int .i64 (i : Int)] [.box [.sl .kind ks,.sl .point ps],.box [.sl .kind ks,.sl .point ps]] (.bool true) []:=by
 intro d
 induction d with
 | zero =>
  intro i hi
  refine Cut.of Qcbr rfl (Q0m7 i ks ps ks ps) ?_
  rw [show decide ((i : Int) < (ps.length : Int)) = false from decide_eq_false (by omega)]
  exact Sat.ret rfl rfl
 | succ d ih =>
  intro i hi
  refine Cut.of Qcbr rfl (Q0m7 i ks ps ks ps) ?_
  have hlt : i < ps.length:=by omega
  have hw : IntKind.wrap .i64 ((i : Int) + 1) = ((i + 1 : Nat) : Int):=by rw [Qbrg] <;> omega
  have hx : ps.getD (i : Int).toNat (Q08f.C.dflt .point) = ps[i]:=by simp [hlt]
  have hin : inb (i : Int) ps.length = true:=by simp only [inb,qaT,qdT]; omega
  have hlo : decide ((i : Int) < (ps.length : Int)) = true:=decide_eq_true (by omega)
  rw [hlo,hin,hx,hw]
  simp only [Qd8q,beq_self_eq_true,Bool.and_self,Bool.not_true,Qk7y]
  exact Sat.cut (ih (i + 1) (by omega))
theorem Q2g7 (ks : List Kind) (ps : List Point) (g1 : ks.length ≤ 1000000000) (g2 : ps.length ≤ 1000000000) : ∀ (d i : Nat),i + d = ks.length → Cut Q08f Qq3w 4 [.ptr 0 0,.ptr 1 0,.int .i64 (i : Int)] [.box [.sl .kind ks,.sl .point ps],.box [.sl .kind ks,.sl .point ps]] (.bool true) []:=by
 intro d
 induction d with
 | zero =>
  intro i hi
  refine Cut.of Qcbr rfl (Qmrs i ks ps ks ps) ?_
  rw [show decide ((i : Int) < (ks.length : Int)) = false from decide_eq_false (by omega)]
  exact Sat.cut (Qfuj ks ps g1 g2 ps.length 0 (by omega))
 | succ d ih =>
  intro i hi
  refine Cut.of Qcbr rfl (Qmrs i ks ps ks ps) ?_
  have hlt : i < ks.length:=by omega
  have hw : IntKind.wrap .i64 ((i : Int) + 1) = ((i + 1 : Nat) : Int):=by rw [Qbrg] <;> omega
  have hx : ks.getD (i : Int).toNat (Q08f.C.dflt .kind) = ks[i]:=by simp [hlt]
  have hin : inb (i : Int) ks.length = true:=by simp only [inb,qaT,qdT]; omega
  have hlo : decide ((i : Int) < (ks.length : Int)) = true:=decide_eq_true (by omega)
  rw [hlo,hin,hx,hw]
  simp only [Qd8q,beq_self_eq_true,Bool.and_self,Bool.not_true,Qk7y]
  exact Sat.cut (ih (i + 1) (by omega))

theorem Qbnm (ks ks' : List Kind) (ps ps' : List Point) (hg : sameK ks ks' ps ps' = true) : Qewq Tryz.prog CP Qq3w [.agg [.sl .kind ks,.sl .point ps],.agg [.sl .kind ks',.sl .point ps']] [] (.bool true) []:=by
 refine Qewq.of Qcbr (by kernel_rfl) (Q0nu ks ks' ps ps') ?_
 simp only [sameK,qaT,qdT] at hg
 obtain ⟨⟨g1,g2⟩,rfl,rfl⟩:=hg
 simp only [bne_self_eq_false,Qk7y]
 exact Sat.cut (Q2g7 ks ps g1 g2 ks.length 0 (by omega))
theorem Qvay : EntOK Tryz.prog CP Qq3w Qdkm:=by
 refine ⟨eob (by kernel_rfl),fun _ _ _ _ h=>?_⟩
 simp only [Qdkm] at h
 split at h
 ·obtain ⟨hg,rfl,rfl⟩:=eoh h
  exact Qbnm _ _ _ _ hg
 ·cases h

noncomputable def Q0bx : RE Ty El:=⟨Tryz.prog,CP,[(Qq3w,Qdkm)],Tryz.f47,0,[],[(4,[(2,.any),(3,.any),(5,.any)]),(9,[(2,.any),(3,.any),(5,.any),(6,.any)])]⟩
theorem Q17e : REOK Q0bx Q5ho:=⟨CP_ok,(TabOK.cons Qvay Qye1),by kernel_rfl,by kernel_rfl⟩
theorem Q4xw (ks ks' : List Kind) (ps ps' : List Point) (es es' : List Entry) : aRun Q0bx 600 false (body0 Q0bx.fn) (Q4gm Q0bx.fn [.agg [.sl .kind ks,.sl .point ps,.sl .entry es],.agg [.sl .kind ks',.sl .point ps',.sl .entry es']] []) =
 ifb (sameK ks ks' ps ps') (ifb ((↑es.length : Int) != (↑es'.length : Int)) (some (.ret (.bool false) [])) (some (.go (Qu6t Q0bx.fn 4) [.ptr 0 0,.ptr 1 0,.int .i64 0] [.box [.sl .kind ks,.sl .point ps,.sl .entry es],.box [.sl .kind ks',.sl .point ps',.sl .entry es']]))) (none):=by kernel_rfl
theorem Qh8x (x0 : Int) (x1 : List (El .kind)) (x2 : List (El .point)) (x3 : List (El .entry)) (x4 : List (El .kind)) (x5 : List (El .point)) (x6 : List (El .entry)) : aRun Q0bx 600 true (Qu6t Q0bx.fn 4) (cutSt Q0bx.fn (Q1m4 Q0bx (Qu6t Q0bx.fn 4)) [.ptr 0 0,.ptr 1 0,.int .i64 x0] [.box [.sl .kind x1,.sl .point x2,.sl .entry x3],.box [.sl .kind x4,.sl .point x5,.sl .entry x6]]) =
 ifb (decide (x0 < (↑x3.length : Int))) (ifb (inb x0 x3.length) (ifb (inb x0 x6.length) (ifb (!(x3.getD x0.toNat (Q0bx.C.dflt Ty.entry)).name == (x6.getD x0.toNat (Q0bx.C.dflt Ty.entry)).name) (some (.ret (.bool false) [])) (ifb (inb x0 x3.length) (ifb (inb x0 x6.length) (ifb ((↑(x3.getD x0.toNat (Q0bx.C.dflt Ty.entry)).fields.length : Int) != (↑(x6.getD x0.toNat (Q0bx.C.dflt Ty.entry)).fields.length : Int)) (some (.ret (.bool false) [])) (some (.go (Qu6t Q0bx.fn 9) [.ptr 0 0,.ptr 1 0,.int .i64 x0,.int .i64 0] [.box [.sl .kind x1,.sl .point x2,.sl .entry x3],.box [.sl .kind x4,.sl .point x5,.sl .entry x6]]))) (none)) (none))) (none)) (none)) (some (.ret (.bool true) [])):=by kernel_rfl
theorem Qlhg (x0 : Int) (x1 : Int) (x2 : List (El .kind)) (x3 : List (El .point)) (x4 : List (El .entry)) (x5 : List (El .kind)) (x6 : List (El .point)) (x7 : List (El .entry)) : aRun Q0bx 600 true (Qu6t Q0bx.fn 9) (cutSt Q0bx.fn (Q1m4 Q0bx (Qu6t Q0bx.fn 9)) [.ptr 0 0,.ptr 1 0,.int .i64 x0,.int .i64 x1] [.box [.sl .kind x2,.sl .point x3,.sl .entry x4],.box [.sl .kind x5,.sl .point x6,.sl .entry x7]]) =
 ifb (inb x0 x4.length) (ifb (decide (x1 < (↑(x4.getD x0.toNat (Q0bx.C.dflt Ty.entry)).fields.length : Int))) (ifb (inb x0 x4.length) (ifb (inb x1 (x4.getD x0.toNat (Q0bx.C.dflt Ty.entry)).fields.length) (ifb (inb x0 x7.length) (ifb (inb x1 (x7.getD x0.toNat (Q0bx.C.dflt Ty.entry)).fields.length) (ifb (!(((x4.getD x0.toNat (Q0bx.C.dflt Ty.entry)).fields.getD x1.toNat (Q0bx.C.dflt Ty.fld)).what == ((x7.getD x0.toNat (Q0bx.C.dflt Ty.entry)).fields.getD x1.toNat (Q0bx.C.dflt Ty.fld)).what && (((x4.getD x0.toNat (Q0bx.C.dflt Ty.entry)).fields.getD x1.toNat (Q0bx.C.dflt Ty.fld)).number == ((x7.getD x0.toNat (Q0bx.C.dflt Ty.entry)).fields.getD x1.toNat (Q0bx.C.dflt Ty.fld)).number && (((x4.getD x0.toNat (Q0bx.C.dflt Ty.entry)).fields.getD x1.toNat (Q0bx.C.dflt Ty.fld)).value == ((x7.getD x0.toNat (Q0bx.C.dflt Ty.entry)).fields.getD x1.toNat (Q0bx.C.dflt Ty.fld)).value && true)))) (some (.ret (.bool false) [])) (some (.go (Qu6t Q0bx.fn 9) [.ptr 0 0,.ptr 1 0,.int .i64 x0,.int .i64 (IntKind.i64.wrap (x1 + 1))] [.box [.sl .kind x2,.sl .point x3,.sl .entry x4],.box [.sl .kind x5,.sl .point x6,.sl .entry x7]]))) (none)) (none)) (none)) (none)) (some (.go (Qu6t Q0bx.fn 4) [.ptr 0 0,.ptr 1 0,.int .i64 (IntKind.i64.wrap (x0 + 1))] [.box [.sl .kind x2,.sl .point x3,.sl .entry x4],.box [.sl .kind x5,.sl .point x6,.sl .entry x7]]))) (none):=by kernel_rfl
theorem Qdqt (ks : List Kind) (ps : List Point) (es : List Entry) (i : Nat) (hlt : i < es.length) (g5 : es[i].fields.length ≤ 1000000000) (g3 : es.length ≤ 1000000000) (nx : Cut Q0bx Q5ho 4 [.ptr 0 0,.ptr 1 0,.int .i64 ((i + 1 : Nat) : Int)] [.box [.sl .kind ks,.sl .point ps,.sl .entry es],.box [.sl .kind ks,.sl .point ps,.sl .entry es]] (.bool true) []) : ∀ (d k : Nat),k + d = es[i].fields.length → Cut Q0bx Q5ho 9 [.ptr 0 0,.ptr 1 0,.int .i64 (i : Int),.int .i64 (k : Int)] [.box [.sl .kind ks,.sl .point ps,.sl .entry es],.box [.sl .kind ks,.sl .point ps,.sl .entry es]] (.bool true) []:=by
 have hxe : es.getD (i : Int).toNat (Q0bx.C.dflt .entry) = es[i]:=by simp [hlt]
 have hie : inb (i : Int) es.length = true:=by simp only [inb,qaT,qdT]; omega
 have hwe : IntKind.wrap .i64 ((i : Int) + 1) = ((i + 1 : Nat) : Int):=by rw [Qbrg] <;> omega
 intro d
 induction d with
 | zero =>
  intro k hk
  refine Cut.of Q17e rfl (Qlhg i k ks ps es ks ps es) ?_
  rw [hxe,hie,hwe,show decide ((k : Int) < (es[i].fields.length : Int)) = false from decide_eq_false (by omega)]
  exact Sat.cut nx
 | succ d ih =>
  intro k hk
  refine Cut.of Q17e rfl (Qlhg i k ks ps es ks ps es) ?_
  have n2:=ih (k + 1) (by omega)
  rw [hxe,hie]
  generalize es[i].fields = l at *
  have hlt2 : k < l.length:=by omega
  have hw2 : IntKind.wrap .i64 ((k : Int) + 1) = ((k + 1 : Nat) : Int):=by rw [Qbrg] <;> omega
  have hx2 : l.getD (k : Int).toNat (Q0bx.C.dflt .fld) = l[k]:=by simp [hlt2]
  have hin2 : inb (k : Int) l.length = true:=by simp only [inb,qaT,qdT]; omega
  have hlo2 : decide ((k : Int) < (l.length : Int)) = true:=decide_eq_true (by omega)
  rw [hlo2,hin2,hx2,hw2]
  simp only [Qd8q,beq_self_eq_true,Bool.and_self,Bool.not_true,Qk7y]
  exact Sat.cut n2
theorem Q6me (ks : List Kind) (ps : List Point) (es : List Entry) (g3 : es.length ≤ 1000000000) (g4 : es.all (fun z : Entry=>Qytc z.name z.fields) = true) : ∀ (d i : Nat),i + d = es.length → Cut Q0bx Q5ho 4 [.ptr 0 0,.ptr 1 0,.int .i64 (i : Int)] [.box [.sl .kind ks,.sl .point ps,.sl .entry es],.box [.sl .kind ks,.sl .point ps,.sl .entry es]] (.bool true) []:=by
 intro d
 induction d with
 | zero =>
  intro i hi
  refine Cut.of Q17e rfl (Qh8x i ks ps es ks ps es) ?_
  rw [show decide ((i : Int) < (es.length : Int)) = false from decide_eq_false (by omega)]
  exact Sat.ret rfl rfl
 | succ d ih =>
  intro i hi
  refine Cut.of Q17e rfl (Qh8x i ks ps es ks ps es) ?_
  have hlt : i < es.length:=by omega
  have hx : es.getD (i : Int).toNat (Q0bx.C.dflt .entry) = es[i]:=by simp [hlt]
  have hin : inb (i : Int) es.length = true:=by simp only [inb,qaT,qdT]; omega
  have hlo : decide ((i : Int) < (es.length : Int)) = true:=decide_eq_true (by omega)
  have hz:=qlA.1 g4 es[i] (List.getElem_mem hlt)
  simp only [Qytc,Qckx,Bool.and_true,qdT] at hz
  rw [hlo,hin,hx]
  simp only [Qd8q,beq_self_eq_true,Bool.not_true,Qk7y,bne_self_eq_false]
  exact Sat.cut (Qdqt ks ps es i hlt hz g3 (ih (i + 1) (by omega)) es[i].fields.length 0 (by omega))
theorem Qyae (ks ks' : List Kind) (ps ps' : List Point) (es es' : List Entry) (hg : Q2xe ks ks' ps ps' es es' = true) : Qewq Tryz.prog CP Q5ho [.agg [.sl .kind ks,.sl .point ps,.sl .entry es],.agg [.sl .kind ks',.sl .point ps',.sl .entry es']] [] (.bool true) []:=by
 refine Qewq.of Q17e (by kernel_rfl) (Q4xw ks ks' ps ps' es es') ?_
 simp only [Q2xe,qaT,qdT] at hg
 obtain ⟨h1,h2,rfl⟩:=hg
 rw [h1]
 simp only [sameK,qaT,qdT] at h1
 obtain ⟨_,rfl,rfl⟩:=h1
 simp only [Qnwa,qaT,qdT] at h2
 simp only [bne_self_eq_false,Qk7y,Qd8q]
 exact Sat.cut (Q6me ks ps es h2.1 h2.2 es.length 0 (by omega))
theorem Qzjt (ks : List Kind) (ps : List Point) (es : List Entry) (hg : Q2xe ks [] ps [] es [] = true) : Qewq Tryz.prog CP Q5ho [.agg [.sl .kind ks,.sl .point ps,.sl .entry es],.agg [.nils,.nils,.nils]] [] (.bool true) []:=by
 refine (Qyae ks [] ps [] es [] hg).args rfl (fun j x x' h1 h2 N w v h=>?_)
 match j with
 | 0=>simp only [qcZ,qsI] at h1 h2; subst h1; subst h2; exact h
 | 1 =>
  simp only [List.getElem?_cons_succ,qcZ,qsI] at h1 h2; subst h1; subst h2
  refine RepA.aggMono (cs:=[.nils,.nils,.nils]) (ds:=[.sl .kind [],.sl .point [],.sl .entry []]) rfl (fun i c' d' e1 e2 u hu=>?_) h
  match i with
  | 0=>simp only [qcZ,qsI] at e1 e2; subst e1; subst e2; exact hu.nilSl Ty.kind
  | 1=>simp only [List.getElem?_cons_succ,qcZ,qsI] at e1 e2; subst e1; subst e2; exact hu.nilSl Ty.point
  | 2=>simp only [List.getElem?_cons_succ,qcZ,qsI] at e1 e2; subst e1; subst e2; exact hu.nilSl Ty.entry
  | i + 3=>simp at e1
 | j + 2=>simp at h1
theorem Qxl3 : EntOK Tryz.prog CP Q5ho Qz24:=by
 refine ⟨eob (by kernel_rfl),fun _ _ _ _ h=>?_⟩
 simp only [Qz24] at h
 split at h
 ·obtain ⟨hg,rfl,rfl⟩:=eoh h
  exact Qyae _ _ _ _ _ _ hg
 ·obtain ⟨hg,rfl,rfl⟩:=eoh h
  exact Qzjt _ _ _ hg
 ·cases h

end Lx
namespace Lx
open Go Go.Proofs
def has1 (l : List Fld) (f : Fld) : Bool:=match l.find? (fun g=>g.what == f.what) with
 | some g=>!Fld.later f g
 | none=>false
def hasF (es : List Entry) (n : Str) (f : Fld) : Bool:=if 0 ≤ entIx es n then has1 (es.getD (entIx es n).toNat (dfltP .entry)).fields f else false
def Ql6z : Ent Ty El:=⟨[.ro,.ro,.ro],0,fun a h=>match a,h with
 | [.agg [.sl .kind ks,.sl .point ps,.sl .entry es],.str n,.agg [.int .i64 w,.int .i64 m,.str v]],[]=>some (decide (es.length < 1000000000) && es.all szE,.bool (hasF es n ⟨w,m,v⟩),[])
 | _,_=>none⟩
def Qe8a : Ent Ty El:=⟨[.ro,.ro],0,fun a h=>match a,h with
 | [.agg [.sl .kind ks,.sl .point ps],.agg [.sl .kind ks2,.sl .point ps2]],[]=>some (decide (ks.length ≤ 1000000000) && decide (ps.length ≤ 1000000000),.bool (decide (ks = ks2) && decide (ps = ps2)),[])
 | _,_=>none⟩
theorem Qnrr {α : Type} [DecidableEq α] {a b : List α} {i : Nat} (ha : i < a.length) (hb : i < b.length) : decide (a.drop i = b.drop i) = (decide (a[i] = b[i]) && decide (a.drop (i + 1) = b.drop (i + 1))):=by
 rw [qdC ha,qdC hb,← Bool.decide_and]
 simp only [List.cons.injEq]
end Lx
namespace Lx
open Go Go.Proofs
noncomputable def Qvp6 : RE Ty El:=⟨Tryz.prog,CP,[(Q4v9,Qf4o),(Qnlm,Q7bn)],Tryz.f149,0,[],[(3,[(3,.any),(5,.any),(7,.any),(8,.any)])]⟩
theorem Qezn : REOK Qvp6 Qmme:=⟨CP_ok,(TabOK.cons Q9x2 (TabOK.cons Qa3h Qye1)),by kernel_rfl,by kernel_rfl⟩
theorem Qjq5 (ks : List Kind) (ps : List Point) (es : List Entry) (n : Str) (w m : Int) (v : Str) : aRun Qvp6 600 false (body0 Qvp6.fn) (Q4gm Qvp6.fn [.agg [.sl .kind ks,.sl .point ps,.sl .entry es],.str n,.agg [.int .i64 w,.int .i64 m,.str v]] []) =
 ifb (decide (es.length < (1000000000 : Nat))) (some (.go (Qu6t Qvp6.fn 3) [.ptr 0 0,.ptr 1 0,.int .i64 (idxF (fun p=>p.name == n) es),.int .i64 0] [.box [.sl .kind ks,.sl .point ps,.sl .entry es],.box [.int .i64 w,.int .i64 m,.str v]])) (none):=by kernel_rfl
theorem Qodu (x0 : Int) (x1 : Int) (x2 : List (El .kind)) (x3 : List (El .point)) (x4 : List (El .entry)) (x5 : Int) (x6 : Int) (x7 : Str) : aRun Qvp6 600 true (Qu6t Qvp6.fn 3) (cutSt Qvp6.fn (Q1m4 Qvp6 (Qu6t Qvp6.fn 3)) [.ptr 0 0,.ptr 1 0,.int .i64 x0,.int .i64 x1] [.box [.sl .kind x2,.sl .point x3,.sl .entry x4],.box [.int .i64 x5,.int .i64 x6,.str x7]]) =
 ifb (decide (x0 ≥ 0)) (ifb (inb x0 x4.length) (ifb (decide (x1 < (↑(x4.getD x0.toNat (Qvp6.C.dflt Ty.entry)).fields.length : Int))) (ifb (inb x0 x4.length) (ifb (inb x1 (x4.getD x0.toNat (Qvp6.C.dflt Ty.entry)).fields.length) (ifb (((x4.getD x0.toNat (Qvp6.C.dflt Ty.entry)).fields.getD x1.toNat (Qvp6.C.dflt Ty.fld)).what == x5) (some (.ret (.bool (!(Fld.mk x5 x6 x7).later ((x4.getD x0.toNat (Qvp6.C.dflt Ty.entry)).fields.getD x1.toNat (Qvp6.C.dflt Ty.fld)))) [])) (some (.go (Qu6t Qvp6.fn 3) [.ptr 0 0,.ptr 1 0,.int .i64 x0,.int .i64 (IntKind.i64.wrap (x1 + 1))] [.box [.sl .kind x2,.sl .point x3,.sl .entry x4],.box [.int .i64 x5,.int .i64 x6,.str x7]]))) (none)) (none)) (some (.ret (.bool false) []))) (none)) (some (.ret (.bool false) [])):=by kernel_rfl
theorem Qwkq (ks : List Kind) (ps : List Point) (es : List Entry) (w m : Int) (v : Str) (a : Nat) (ha : a < es.length) (g : es[a].fields.length ≤ 1000000000) : ∀ (d k : Nat),k + d = es[a].fields.length → Cut Qvp6 Qmme 3 [.ptr 0 0,.ptr 1 0,.int .i64 (a : Int),.int .i64 (k : Int)] [.box [.sl .kind ks,.sl .point ps,.sl .entry es],.box [.int .i64 w,.int .i64 m,.str v]] (.bool (has1 (es[a].fields.drop k) ⟨w,m,v⟩)) []:=by
 have hxe : es.getD (a : Int).toNat (Qvp6.C.dflt .entry) = es[a]:=by simp [ha]
 have hie : inb (a : Int) es.length = true:=by simp only [inb,qaT,qdT]; omega
 have ha0 : decide ((a : Int) ≥ 0) = true:=decide_eq_true (by omega)
 intro d
 induction d with
 | zero =>
  intro k hk
  refine Cut.of Qezn rfl (Qodu a k ks ps es w m v) ?_
  rw [hxe,hie,ha0,show decide ((k : Int) < (es[a].fields.length : Int)) = false from decide_eq_false (by omega),List.drop_of_length_le (by omega)]
  exact Sat.ret rfl rfl
 | succ d ih =>
  intro k hk
  refine Cut.of Qezn rfl (Qodu a k ks ps es w m v) ?_
  have nx:=ih (k + 1) (by omega)
  rw [hxe,hie,ha0]
  generalize es[a].fields = l at *
  have hlt2 : k < l.length:=by omega
  have hw2 : IntKind.wrap .i64 ((k : Int) + 1) = ((k + 1 : Nat) : Int):=by rw [Qbrg] <;> omega
  have hd2 : l.drop k = l[k] :: l.drop (k + 1):=qdC hlt2
  have hx2 : l.getD (k : Int).toNat (Qvp6.C.dflt .fld) = l[k]:=by simp [hlt2]
  have hin2 : inb (k : Int) l.length = true:=by simp only [inb,qaT,qdT]; omega
  have hlo2 : decide ((k : Int) < (l.length : Int)) = true:=decide_eq_true (by omega)
  rw [hlo2,hin2,hx2,hw2,hd2]
  simp only [Qd8q]
  refine Sat.ifb (fun h=>?_) (fun h=>?_)
  ·refine Sat.ret ?_ rfl
   simp only [has1,List.find?_cons,h]
  ·have e : has1 (l[k] :: l.drop (k + 1)) ⟨w,m,v⟩ = has1 (l.drop (k + 1)) ⟨w,m,v⟩:=by
    simp only [has1,List.find?_cons,h]
   rw [e]
   exact Sat.cut nx
theorem Qrin (ks : List Kind) (ps : List Point) (es : List Entry) (n : Str) (w m : Int) (v : Str) (hg : (decide (es.length < 1000000000) && es.all szE) = true) : Qewq Tryz.prog CP Qmme [.agg [.sl .kind ks,.sl .point ps,.sl .entry es],.str n,.agg [.int .i64 w,.int .i64 m,.str v]] [] (.bool (hasF es n ⟨w,m,v⟩)) []:=by
 refine Qewq.of Qezn (by kernel_rfl) (Qjq5 ks ps es n w m v) ?_
 simp only [qaT,qdT] at hg
 obtain ⟨h9,hz⟩:=hg
 rw [decide_eq_true h9]
 have hix : idxF (fun p=>p.name == n) es = entIx es n:=rfl
 rw [hix]
 by_cases h0 : 0 ≤ entIx es n
 ·have h2:=Q1mf (p:=fun k : Entry=>k.name == n) (l:=es)
  rw [hix] at h2
  obtain ⟨a,ha⟩:=Int.eq_ofNat_of_zero_le h0
  rw [ha] at h2
  have hlt : a < es.length:=by omega
  have hze:=qlA.1 hz es[a] (List.getElem_mem hlt)
  simp only [szE,qaT,qdT] at hze
  rw [hasF,if_pos h0,ha]
  have e : es.getD (a : Int).toNat (dfltP .entry) = es[a]:=by simp [hlt]
  rw [e]
  exact Sat.cut (Qwkq ks ps es w m v a hlt (by omega) es[a].fields.length 0 (by omega))
 ·rw [hasF,if_neg h0]
  refine Sat.cut (Cut.of Qezn rfl (Qodu _ _ ks ps es w m v) ?_)
  rw [show decide (entIx es n ≥ 0) = false from decide_eq_false h0]
  exact Sat.ret rfl rfl
theorem Qk6f : EntOK Tryz.prog CP Qmme Ql6z:=by
 refine ⟨eob (by kernel_rfl),fun _ _ _ _ h=>?_⟩
 simp only [Ql6z] at h
 split at h
 ·obtain ⟨hg,rfl,rfl⟩:=eoh h
  exact Qrin _ _ _ _ _ _ _ hg
 ·cases h

noncomputable def Qkux : RE Ty El:=⟨Tryz.prog,CP,[],Tryz.f146,0,[],[(4,[(2,.any),(3,.any),(5,.any)]),(9,[(2,.any),(3,.any),(6,.any)])]⟩
theorem Q1c4 : REOK Qkux Q4ja:=⟨CP_ok,Qye1,by kernel_rfl,by kernel_rfl⟩
theorem Qymg (ks ks2 : List Kind) (ps ps2 : List Point) : aRun Qkux 600 false (body0 Qkux.fn) (Q4gm Qkux.fn [.agg [.sl .kind ks,.sl .point ps],.agg [.sl .kind ks2,.sl .point ps2]] []) =
 ifb ((↑ks.length : Int) != (↑ks2.length : Int)) (some (.ret (.bool false) [])) (ifb ((↑ps.length : Int) != (↑ps2.length : Int)) (some (.ret (.bool false) [])) (some (.go (Qu6t Qkux.fn 4) [.ptr 0 0,.ptr 1 0,.int .i64 0] [.box [.sl .kind ks,.sl .point ps],.box [.sl .kind ks2,.sl .point ps2]]))):=by kernel_rfl
theorem Q33w (x0 : Int) (x1 : List (El .kind)) (x2 : List (El .point)) (x3 : List (El .kind)) (x4 : List (El .point)) : aRun Qkux 600 true (Qu6t Qkux.fn 4) (cutSt Qkux.fn (Q1m4 Qkux (Qu6t Qkux.fn 4)) [.ptr 0 0,.ptr 1 0,.int .i64 x0] [.box [.sl .kind x1,.sl .point x2],.box [.sl .kind x3,.sl .point x4]]) =
 ifb (decide (x0 < (↑x1.length : Int))) (ifb (inb x0 x1.length) (ifb (inb x0 x3.length) (ifb (!((x1.getD x0.toNat (Qkux.C.dflt Ty.kind)).name == (x3.getD x0.toNat (Qkux.C.dflt Ty.kind)).name && ((x1.getD x0.toNat (Qkux.C.dflt Ty.kind)).quick == (x3.getD x0.toNat (Qkux.C.dflt Ty.kind)).quick && ((x1.getD x0.toNat (Qkux.C.dflt Ty.kind)).slow == (x3.getD x0.toNat (Qkux.C.dflt Ty.kind)).slow && true)))) (some (.ret (.bool false) [])) (some (.go (Qu6t Qkux.fn 4) [.ptr 0 0,.ptr 1 0,.int .i64 (IntKind.i64.wrap (x0 + 1))] [.box [.sl .kind x1,.sl .point x2],.box [.sl .kind x3,.sl .point x4]]))) (none)) (none)) (some (.go (Qu6t Qkux.fn 9) [.ptr 0 0,.ptr 1 0,.int .i64 0] [.box [.sl .kind x1,.sl .point x2],.box [.sl .kind x3,.sl .point x4]])):=by kernel_rfl
theorem Qtiu (x0 : Int) (x1 : List (El .kind)) (x2 : List (El .point)) (x3 : List (El .kind)) (x4 : List (El .point)) : aRun Qkux 600 true (Qu6t Qkux.fn 9) (cutSt Qkux.fn (Q1m4 Qkux (Qu6t Qkux.fn 9)) [.ptr 0 0,.ptr 1 0,.int .i64 x0] [.box [.sl .kind x1,.sl .point x2],.box [.sl .kind x3,.sl .point x4]]) =
 ifb (decide (x0 < (↑x2.length : Int))) (ifb (inb x0 x2.length) (ifb (inb x0 x4.length) (ifb (!((x2.getD x0.toNat (Qkux.C.dflt Ty.point)).name == (x4.getD x0.toNat (Qkux.C.dflt Ty.point)).name && ((x2.getD x0.toNat (Qkux.C.dflt Ty.point)).x == (x4.getD x0.toNat (Qkux.C.dflt Ty.point)).x && ((x2.getD x0.toNat (Qkux.C.dflt Ty.point)).y == (x4.getD x0.toNat (Qkux.C.dflt Ty.point)).y && true)))) (some (.ret (.bool false) [])) (some (.go (Qu6t Qkux.fn 9) [.ptr 0 0,.ptr 1 0,.int .i64 (IntKind.i64.wrap (x0 + 1))] [.box [.sl .kind x1,.sl .point x2],.box [.sl .kind x3,.sl .point x4]]))) (none)) (none)) (some (.ret (.bool true) [])):=by kernel_rfl
theorem Qlwj (ks ks2 : List Kind) (ps ps2 : List Point) (g1 : ks.length ≤ 1000000000) (g2 : ps.length ≤ 1000000000) (e1 : ks.length = ks2.length) (e2 : ps.length = ps2.length) : ∀ (d i : Nat),i + d = ps.length → Cut Qkux Q4ja 9 [.ptr 0 0,.ptr 1 0,.int .i64 (i : Int)] [.box [.sl .kind ks,.sl .point ps],.box [.sl .kind ks2,.sl .point ps2]] (.bool (decide (ps.drop i = ps2.drop i))) []:=by
 intro d
 induction d with
 | zero =>
  intro i hi
  refine Cut.of Q1c4 rfl (Qtiu i ks ps ks2 ps2) ?_
  rw [show decide ((i : Int) < (ps.length : Int)) = false from decide_eq_false (by omega),List.drop_of_length_le (show ps.length ≤ i by omega),List.drop_of_length_le (show ps2.length ≤ i by omega)]
  exact Sat.ret rfl rfl
 | succ d ih =>
  intro i hi
  refine Cut.of Q1c4 rfl (Qtiu i ks ps ks2 ps2) ?_
  have hlt : i < ps.length:=by omega
  have hw : IntKind.wrap .i64 ((i : Int) + 1) = ((i + 1 : Nat) : Int):=by rw [Qbrg] <;> omega
  have hx : ps.getD (i : Int).toNat (Qkux.C.dflt .point) = ps[i]:=by simp [hlt]
  have hin : inb (i : Int) ps.length = true:=by simp only [inb,qaT,qdT]; omega
  have hlo : decide ((i : Int) < (ps.length : Int)) = true:=decide_eq_true (by omega)
  have hlt2 : i < ps2.length:=by omega
  have hin2 : inb (i : Int) ps2.length = true:=by simp only [inb,qaT,qdT]; omega
  have hx2 : ps2.getD (i : Int).toNat (Qkux.C.dflt .point) = ps2[i]:=by simp [hlt2]
  have nx:=ih (i + 1) (by omega)
  rw [hlo,hin,hin2,hx,hx2,hw,Qnrr hlt hlt2]
  simp only [Qd8q]
  generalize ps[i] = x at *
  generalize ps2[i] = y at *
  obtain ⟨x1,x2,x3⟩:=x
  obtain ⟨y1,y2,y3⟩:=y
  refine Sat.ifb (fun h=>?_) (fun h=>?_)
  ·have hne : ¬ (Point.mk x1 x2 x3 : Point) = Point.mk y1 y2 y3:=fun e=>by
    simp only [Point.mk.injEq] at e
    obtain ⟨rfl,rfl,rfl⟩:=e
    simp at h
   rw [decide_eq_false hne]
   exact Sat.ret rfl rfl
  ·have he : (Point.mk x1 x2 x3 : Point) = Point.mk y1 y2 y3:=by
    simp only [Bool.not_eq_false',qaT,beq_iff_eq,and_true] at h
    rw [h.1,h.2.1,h.2.2]
   rw [decide_eq_true he,Bool.true_and]
   exact Sat.cut nx
theorem Qtjh (ks ks2 : List Kind) (ps ps2 : List Point) (g1 : ks.length ≤ 1000000000) (g2 : ps.length ≤ 1000000000) (e1 : ks.length = ks2.length) (e2 : ps.length = ps2.length) : ∀ (d i : Nat),i + d = ks.length → Cut Qkux Q4ja 4 [.ptr 0 0,.ptr 1 0,.int .i64 (i : Int)] [.box [.sl .kind ks,.sl .point ps],.box [.sl .kind ks2,.sl .point ps2]] (.bool (decide (ks.drop i = ks2.drop i) && decide (ps = ps2))) []:=by
 intro d
 induction d with
 | zero =>
  intro i hi
  refine Cut.of Q1c4 rfl (Q33w i ks ps ks2 ps2) ?_
  rw [show decide ((i : Int) < (ks.length : Int)) = false from decide_eq_false (by omega),List.drop_of_length_le (show ks.length ≤ i by omega),List.drop_of_length_le (show ks2.length ≤ i by omega)]
  exact Sat.cut (Qlwj ks ks2 ps ps2 g1 g2 e1 e2 ps.length 0 (by omega))
 | succ d ih =>
  intro i hi
  refine Cut.of Q1c4 rfl (Q33w i ks ps ks2 ps2) ?_
  have hlt : i < ks.length:=by omega
  have hw : IntKind.wrap .i64 ((i : Int) + 1) = ((i + 1 : Nat) : Int):=by rw [Qbrg] <;> omega
  have hx : ks.getD (i : Int).toNat (Qkux.C.dflt .kind) = ks[i]:=by simp [hlt]
  have hin : inb (i : Int) ks.length = true:=by simp only [inb,qaT,qdT]; omega
  have hlo : decide ((i : Int) < (ks.length : Int)) = true:=decide_eq_true (by omega)
  have hlt2 : i < ks2.length:=by omega
  have hin2 : inb (i : Int) ks2.length = true:=by simp only [inb,qaT,qdT]; omega
  have hx2 : ks2.getD (i : Int).toNat (Qkux.C.dflt .kind) = ks2[i]:=by simp [hlt2]
  have nx:=ih (i + 1) (by omega)
  rw [hlo,hin,hin2,hx,hx2,hw,Qnrr hlt hlt2]
  simp only [Qd8q]
  generalize ks[i] = x at *
  generalize ks2[i] = y at *
  obtain ⟨x1,x2,x3⟩:=x
  obtain ⟨y1,y2,y3⟩:=y
  refine Sat.ifb (fun h=>?_) (fun h=>?_)
  ·have hne : ¬ (Kind.mk x1 x2 x3 : Kind) = Kind.mk y1 y2 y3:=fun e=>by
    simp only [Kind.mk.injEq] at e
    obtain ⟨rfl,rfl,rfl⟩:=e
    simp at h
   rw [decide_eq_false hne]
   exact Sat.ret rfl rfl
  ·have he : (Kind.mk x1 x2 x3 : Kind) = Kind.mk y1 y2 y3:=by
    simp only [Bool.not_eq_false',qaT,beq_iff_eq,and_true] at h
    rw [h.1,h.2.1,h.2.2]
   rw [decide_eq_true he,Bool.true_and]
   exact Sat.cut nx

theorem Q3s8 (ks ks2 : List Kind) (ps ps2 : List Point) (hg : (decide (ks.length ≤ 1000000000) && decide (ps.length ≤ 1000000000)) = true) : Qewq Tryz.prog CP Q4ja [.agg [.sl .kind ks,.sl .point ps],.agg [.sl .kind ks2,.sl .point ps2]] [] (.bool (decide (ks = ks2) && decide (ps = ps2))) []:=by
 refine Qewq.of Q1c4 (by kernel_rfl) (Qymg ks ks2 ps ps2) ?_
 simp only [qaT,qdT] at hg
 obtain ⟨g1,g2⟩:=hg
 refine Sat.ifb (fun h=>?_) (fun h=>Sat.ifb (fun h2=>?_) (fun h2=>?_))
 ·have : ¬ ks = ks2:=fun e=>by rw [e] at h; simp at h
  rw [decide_eq_false this]; exact Sat.ret rfl rfl
 ·have : ¬ ps = ps2:=fun e=>by rw [e] at h2; simp at h2
  rw [decide_eq_false this,Bool.and_false]; exact Sat.ret rfl rfl
 ·have e1 : ks.length = ks2.length:=by
   have : (ks.length : Int) = ks2.length:=by simpa using h
   omega
  have e2 : ps.length = ps2.length:=by
   have : (ps.length : Int) = ps2.length:=by simpa using h2
   omega
  exact Sat.cut (Qtjh ks ks2 ps ps2 g1 g2 e1 e2 ks.length 0 (by omega))
theorem Qw0g : EntOK Tryz.prog CP Q4ja Qe8a:=by
 refine ⟨eob (by kernel_rfl),fun _ _ _ _ h=>?_⟩
 simp only [Qe8a] at h
 split at h
 ·obtain ⟨hg,rfl,rfl⟩:=eoh h
  exact Q3s8 _ _ _ _ hg
 ·cases h
end Lx
namespace Lx
open Go Go.Proofs
def newsL (a : List Entry) (n : Str) (l : List Fld) : List Chg:=(l.filter fun f=>!hasF a n f).map fun f=>⟨n,f.what,f.number,f.value⟩
def newsE (a b : List Entry) : List Chg:=b.flatMap fun e=>newsL a e.name e.fields
def newsF (ks : List Kind) (ps : List Point) (es : List Entry) (ks2 : List Kind) (ps2 : List Point) (es2 : List Entry) : List Chg:=if Qn0o ks ps es = true ∧ Qn0o ks2 ps2 es2 = true then newsE es es2 else []
def newsK (es es2 : List Entry) : Bool:=(szB es && decide (es.length < 1000000000)) && (szB es2 && decide (es2.length < 1000000000))
def Qa5d : Ent Ty El:=⟨[.ro,.ro],0,fun a h=>match a,h with
 | [.agg [.sl .kind ks,.sl .point ps,.sl .entry es],.agg [.sl .kind ks2,.sl .point ps2,.sl .entry es2]],[]=>some (newsK es es2,.sl .chg (newsF ks ps es ks2 ps2 es2),[])
 | _,_=>none⟩
end Lx
namespace Lx
open Go Go.Proofs
def fcF (c : Chg) : Fld:=⟨c.what,c.number,c.value⟩
def chE (e : Entry) : List Chg:=e.fields.map fun f=>⟨e.name,f.what,f.number,f.value⟩
def chgs (es : List Entry) : List Chg:=es.flatMap chE
def mgS (a b : List Entry) : List Entry:=(chgs b).foldl putC a
def Mx (S : Fld → Prop) (o : Option Fld) : Prop:=(∀ f,o = some f → S f ∧ ∀ g,S g → Fld.later g f = false) ∧ (o = none → ∀ g,¬ S g)
theorem Mx.uniq {S : Fld → Prop} {w : Int} (hw : ∀ f,S f → f.what = w) {o o' : Option Fld} (h : Mx S o) (h' : Mx S o') : o = o':=by
 cases o with
 | none=>cases o' with
  | none=>rfl
  | some g=>exact absurd (h'.1 g rfl).1 (h.2 rfl g)
 | some f=>cases o' with
  | none=>exact absurd (h.1 f rfl).1 (h'.2 rfl f)
  | some g =>
   have h1:=h.1 f rfl
   have h2:=h'.1 g rfl
   rw [Qhof (h2.2 f h1.1) (h1.2 g h2.1) ((hw f h1.1).trans (hw g h2.1).symm)]
theorem Q6hs {g m f : Fld} (h1 : Fld.later g m = false) (h2 : Fld.later m f = false) (hw : g.what = m.what) : Fld.later g f = false:=by
 cases h : Fld.later g f with
 | false=>rfl
 | true =>
  cases h3 : Fld.later m g with
  | true=>rw [Qj2g h3 h] at h2; cases h2
  | false =>
   rw [Qhof h1 h3 hw,h2] at h; cases h
theorem Mx.swap {S S' : Fld → Prop} {o : Option Fld} (h : Mx S o) (h1 : ∀ f,S f → S' f) (h2 : ∀ g,S' g → ∃ m,S m ∧ Fld.later g m = false ∧ g.what = m.what) : Mx S' o:=by
 refine ⟨fun f hf=>⟨h1 f (h.1 f hf).1,fun g hg=>?_⟩,fun hn g hg=>?_⟩
 ·obtain ⟨m,a,b,c⟩:=h2 g hg
  exact Q6hs b ((h.1 f hf).2 m a) c
 ·obtain ⟨m,a,_⟩:=h2 g hg
  exact h.2 hn m a
theorem Mx.iff {S S' : Fld → Prop} {o : Option Fld} (h : Mx S o) (e : ∀ f,S f ↔ S' f) : Mx S' o:=h.swap (fun f hf=>(e f).1 hf) (fun g hg=>⟨g,(e g).2 hg,Qyfa g,rfl⟩)
def inL (l : List Chg) (n : Str) (w : Int) (f : Fld) : Prop:=f.what = w ∧ (⟨n,f.what,f.number,f.value⟩ : Chg) ∈ l
theorem Qgsi (n : Str) (w : Int) : ∀ (l : List Chg) {es : List Entry},Q1re es → Mx (fun f=>lk es n w = some f ∨ inL l n w f) (lk (l.foldl putC es) n w)
 | [],es,_=>by
  refine ⟨fun f hf=>⟨.inl hf,fun g hg=>?_⟩,fun hn g hg=>?_⟩
  ·rcases hg with hg | hg
   ·rw [List.foldl_nil] at hf
    rw [hf] at hg
    obtain rfl:=Option.some.inj hg
    exact Qyfa _
   ·exact absurd hg.2 (by simp)
  ·rcases hg with hg | hg
   ·rw [List.foldl_nil] at hn
    rw [hn] at hg; cases hg
   ·exact absurd hg.2 (by simp)
 | c :: l,es,hb=>by
  have ih:=Qgsi n w l (Qcth hb c)
  have hl : lk (putC es c) n w = if n = c.flight ∧ w = c.what then some (mx (lk es n w) (fcF c)) else lk es n w:=by
   have:=Qqy6 c.flight (fcF c) n w hb
   rw [show putC es c = putS es c.flight (fcF c) from rfl,this]
   by_cases h : n = c.flight ∧ w = c.what
   ·rw [if_pos h,if_pos (show n = c.flight ∧ w = (fcF c).what from h),h.1]
   ·rw [if_neg h,if_neg (show ¬ (n = c.flight ∧ w = (fcF c).what) from h)]
  rw [List.foldl_cons]
  by_cases hm : n = c.flight ∧ w = c.what
  ·rw [if_pos hm] at hl
   refine ih.swap (fun f hf=>?_) (fun g hg=>?_)
   ·rcases hf with hf | hf
    ·rw [hl] at hf
     obtain rfl:=Option.some.inj hf
     have hc : inL (c :: l) n w (fcF c):=⟨hm.2.symm,by rw [hm.1]; exact List.mem_cons_self ..⟩
     cases ho : lk es n w with
     | none=>exact .inr hc
     | some g =>
      by_cases h : Fld.later (fcF c) g = true
      ·rw [Qba1 h]; exact .inr hc
      ·rw [Qqr0 h]; exact .inl rfl
    ·exact .inr ⟨hf.1,List.mem_cons_of_mem _ hf.2⟩
   ·rcases hg with hg | ⟨h1,h2⟩
    ·refine ⟨mx (lk es n w) (fcF c),.inl hl, ?_⟩
     rw [hg]
     by_cases h : Fld.later (fcF c) g = true
     ·rw [Qba1 h]; exact ⟨Qv46 h,(Qpsk hg).trans hm.2⟩
     ·rw [Qqr0 h]; exact ⟨Qyfa g,rfl⟩
    ·rcases List.mem_cons.1 h2 with h2 | h2
     ·have hgc : g = fcF c:=by rw [← h2]; rfl
      refine ⟨mx (lk es n w) (fcF c),.inl hl, ?_⟩
      rw [hgc]
      cases ho : lk es n w with
      | none=>exact ⟨Qyfa _,rfl⟩
      | some g' =>
       by_cases h : Fld.later (fcF c) g' = true
       ·rw [Qba1 h]; exact ⟨Qyfa _,rfl⟩
       ·rw [Qqr0 h]; exact ⟨by simpa using h,by rw [Qpsk ho,hm.2]; rfl⟩
     ·exact ⟨g,.inr ⟨h1,h2⟩,Qyfa g,rfl⟩
  ·rw [if_neg hm] at hl
   refine ih.iff (fun f=>?_)
   rw [hl]
   refine or_congr Iff.rfl ⟨fun h=>⟨h.1,List.mem_cons_of_mem _ h.2⟩,fun h=>⟨h.1, ?_⟩⟩
   rcases List.mem_cons.1 h.2 with h2 | h2
   ·exact absurd ⟨by rw [← h2],by rw [← h2]; exact h.1.symm⟩ hm
   ·exact h2
theorem Qqiy {es : List Entry} {c : Chg} : c ∈ chgs es ↔ ∃ e ∈ es,∃ f ∈ e.fields,c = ⟨e.name,f.what,f.number,f.value⟩:=by
 simp only [chgs,chE,List.mem_flatMap,List.mem_map]
 exact ⟨fun ⟨e,he,f,hf,h⟩=>⟨e,he,f,hf,h.symm⟩,fun ⟨e,he,f,hf,h⟩=>⟨e,he,f,hf,h.symm⟩⟩
theorem Qx87 {es : List Entry} (hb : Q1re es) {n : Str} {w : Int} {f : Fld} : inL (chgs es) n w f ↔ lk es n w = some f:=by
 constructor
 ·rintro ⟨rfl,h⟩
  obtain ⟨e,he,g,hg,h⟩:=Qqiy.1 h
  simp only [Chg.mk.injEq] at h
  obtain ⟨rfl,h1,h2,h3⟩:=h
  have : f = g:=by
   cases f; cases g; simp only at h1 h2 h3; subst h1; subst h2; subst h3; rfl
  subst this
  exact Q4l8 hb he hg
 ·intro h
  have hw:=Qpsk h
  refine ⟨hw, ?_⟩
  unfold lk at h
  cases he : es.find? (fun e=>e.name == n) with
  | none=>rw [he] at h; cases h
  | some e =>
   rw [he,Option.bind_some] at h
   have hn : e.name = n:=by have:=List.find?_some he; simpa using this
   exact Qqiy.2 ⟨e,List.mem_of_find?_eq_some he,f,List.mem_of_find?_eq_some h,by rw [hn]⟩
theorem Qzk0 {a b : List Entry} (ha : Q1re a) (hb : Q1re b) (n : Str) (w : Int) : Mx (fun f=>lk a n w = some f ∨ lk b n w = some f) (lk (mgS a b) n w):=(Qgsi n w (chgs b) ha).iff fun f=>or_congr Iff.rfl (Qx87 hb)
theorem Q6b6 {a : List Entry} (b : List Entry) (ha : Q1re a) : Q1re (mgS a b):=Qv4f _ ha
theorem what2 {a b : List Entry} {n : Str} {w : Int} (f : Fld) (h : lk a n w = some f ∨ lk b n w = some f) : f.what = w:=h.elim Qpsk Qpsk
theorem Qvci {a b : List Entry} (ha : Q1re a) (hb : Q1re b) : mgS a b = mgS b a:=Qn50 (Q6b6 b ha) (Q6b6 a hb) fun n w=>Mx.uniq what2 (Qzk0 ha hb n w) ((Qzk0 hb ha n w).iff fun f=>or_comm)
theorem Qxso {a b : List Entry} (ha : Q1re a) (hb : Q1re b) {n : Str} {w : Int} {f : Fld} (h : lk a n w = some f ∨ lk b n w = some f) : ∃ m,lk (mgS a b) n w = some m ∧ Fld.later f m = false ∧ f.what = m.what:=by
 have hm:=Qzk0 ha hb n w
 cases ho : lk (mgS a b) n w with
 | none=>exact absurd h (hm.2 ho f)
 | some m=>exact ⟨m,rfl,(hm.1 m ho).2 f h,(what2 f h).trans (Qpsk ho).symm⟩
theorem Qoja {a b : List Entry} (ha : Q1re a) (hb : Q1re b) : mgS (mgS a b) b = mgS a b:=by
 have hx:=Q6b6 b ha
 refine Qn50 (Q6b6 b hx) hx fun n w=>Mx.uniq what2 (Qzk0 hx hb n w) ⟨fun f hf=>⟨.inl hf,fun g hg=>?_⟩,fun ho g hg=>?_⟩
 ·rcases hg with hg | hg
  ·rw [hf] at hg
   obtain rfl:=Option.some.inj hg
   exact Qyfa _
  ·exact ((Qzk0 ha hb n w).1 f hf).2 g (.inr hg)
 ·rcases hg with hg | hg
  ·rw [ho] at hg; cases hg
  ·exact (Qzk0 ha hb n w).2 ho g (.inr hg)
theorem Qx5d {a b c : List Entry} (ha : Q1re a) (hb : Q1re b) (hc : Q1re c) : mgS (mgS a b) c = mgS a (mgS b c):=by
 have h1:=Q6b6 b ha
 have h2:=Q6b6 c hb
 refine Qn50 (Q6b6 c h1) (Q6b6 _ ha) fun n w=>?_
 refine Mx.uniq (S:=fun f=>lk a n w = some f ∨ (lk b n w = some f ∨ lk c n w = some f)) (w:=w) (fun f h=>h.elim Qpsk (fun h=>h.elim Qpsk Qpsk)) ((Qzk0 h1 hc n w).swap (fun f hf=>?_) (fun g hg=>?_)) ((Qzk0 ha h2 n w).swap (fun f hf=>?_) (fun g hg=>?_))
 ·rcases hf with hf | hf
  ·exact (((Qzk0 ha hb n w).1 f hf).1).elim .inl (fun h=>.inr (.inl h))
  ·exact .inr (.inr hf)
 ·rcases hg with hg | hg | hg
  ·obtain ⟨m,q1,q2⟩:=Qxso ha hb (.inl hg); exact ⟨m,.inl q1,q2⟩
  ·obtain ⟨m,q1,q2⟩:=Qxso ha hb (.inr hg); exact ⟨m,.inl q1,q2⟩
  ·exact ⟨g,.inr hg,Qyfa g,rfl⟩
 ·rcases hf with hf | hf
  ·exact .inl hf
  ·exact .inr ((Qzk0 hb hc n w).1 f hf).1
 ·rcases hg with hg | hg | hg
  ·exact ⟨g,.inl hg,Qyfa g,rfl⟩
  ·obtain ⟨m,q1,q2⟩:=Qxso hb hc (.inl hg); exact ⟨m,.inr q1,q2⟩
  ·obtain ⟨m,q1,q2⟩:=Qxso hb hc (.inr hg); exact ⟨m,.inr q1,q2⟩
theorem Qkrk (es : List Entry) (n : Str) (f : Fld) : hasF es n f = match lk es n f.what with
  | some g=>!Fld.later f g
  | none=>false:=by
 unfold hasF lk
 rcases Qur7 (fun e : Entry=>e.name == n) (dfltP .entry) es with ⟨h1,h2⟩ | ⟨h1,h2⟩
 ·have h1' : entIx es n < 0:=h1
  rw [if_neg (by omega),h2]; rfl
 ·rw [if_pos (show 0 ≤ entIx es n from h1),h2]; rfl
theorem Qfcn {es : List Entry} {n : Str} {f : Fld} {w : Int} (hw : f.what = w) (h : ∃ m,lk es n w = some m ∧ Fld.later f m = false) : hasF es n f = true:=by
 obtain ⟨m,h1,h2⟩:=h
 rw [Qkrk,hw,h1]; simp [h2]
theorem Qux6 {x b : List Entry} (h : ∀ e ∈ b,∀ f ∈ e.fields,hasF x e.name f = true) : newsE x b = []:=by
 unfold newsE
 rw [List.flatMap_eq_nil_iff]
 intro e he
 unfold newsL
 rw [List.filter_eq_nil_iff.2 (fun f hf=>by simp [h e he f hf])]; rfl
theorem Qaby {a b : List Entry} (ha : Q1re a) (hb : Q1re b) : newsE (mgS a b) b = []:=Qux6 fun e he f hf=>Qfcn rfl (by
 obtain ⟨m,h1,h2,_⟩:=Qxso ha hb (.inr (Q4l8 hb he hf)); exact ⟨m,h1,h2⟩)
theorem Qkyq {a b : List Entry} (ha : Q1re a) (hb : Q1re b) : newsE (mgS a b) a = []:=Qux6 fun e he f hf=>Qfcn rfl (by
 obtain ⟨m,h1,h2,_⟩:=Qxso ha hb (.inl (Q4l8 ha he hf)); exact ⟨m,h1,h2⟩)
theorem Q4ro {a b : List Entry} {c : Chg} : c ∈ newsE a b ↔ ∃ e ∈ b,∃ f ∈ e.fields,hasF a e.name f = false ∧ c = ⟨e.name,f.what,f.number,f.value⟩:=by
 simp only [newsE,newsL,List.mem_flatMap,List.mem_map,List.mem_filter,Bool.not_eq_true']
 exact ⟨fun ⟨e,he,f,hf,h⟩=>⟨e,he,f,hf.1,hf.2,h.symm⟩,fun ⟨e,he,f,hf,h,h2⟩=>⟨e,he,f,⟨hf,h⟩,h2.symm⟩⟩
theorem Q9fl {a b : List Entry} {c : Chg} (h : c ∈ newsE a b) : c ∈ chgs b:=by
 obtain ⟨e,he,f,hf,_,h2⟩:=Q4ro.1 h
 exact Qqiy.2 ⟨e,he,f,hf,h2⟩
theorem Q0sw {a b : List Entry} (ha : Q1re a) (hb : Q1re b) : (newsE a b).foldl putC a = mgS a b:=by
 refine Qn50 (Qv4f _ ha) (Q6b6 b ha) fun n w=>Mx.uniq what2 ((Qgsi n w (newsE a b) ha).swap (fun f hf=>?_) (fun g hg=>?_)) (Qzk0 ha hb n w)
 ·exact hf.imp id (fun h=>(Qx87 hb).1 ⟨h.1,Q9fl h.2⟩)
 ·rcases hg with hg | hg
  ·exact ⟨g,.inl hg,Qyfa g,rfl⟩
  ·have hw:=Qpsk hg
   cases hh : hasF a n g with
   | true =>
    rw [Qkrk,hw] at hh
    cases ho : lk a n w with
    | none=>rw [ho] at hh; cases hh
    | some m=>rw [ho] at hh; exact ⟨m,.inl rfl,by simpa using hh,hw.trans (Qpsk ho).symm⟩
   | false =>
    refine ⟨g,.inr ⟨hw, ?_⟩,Qyfa g,rfl⟩
    obtain ⟨_,h2⟩:=(Qx87 hb).2 hg
    obtain ⟨e,he,f,hf,h3⟩:=Qqiy.1 h2
    have h4:=h3
    simp only [Chg.mk.injEq] at h4
    obtain ⟨h5,h6,h7,h8⟩:=h4
    refine Q4ro.2 ⟨e,he,f,hf, ?_,h3⟩
    have : f = g:=by
     cases f; cases g; simp only at h6 h7 h8; subst h6; subst h7; subst h8; rfl
    rw [this,← h5]; exact hh
theorem Qkuk {ks : List Kind} {ps : List Point} {n : Str} : ∀ {l : List Fld} {q : Option Int},Qt03 ks ps n q l = true → ∀ f ∈ l,Qh2h ks ps n f.what f.number f.value = true
 | [],_,_,f,hf=>by simp at hf
 | g :: l,q,h,f,hf=>by
  rw [Qg5r] at h
  simp only [qaT] at h
  rcases List.mem_cons.1 hf with rfl | hf
  ·exact h.1
  ·exact Qkuk h.2.2 f hf
theorem Qef7 {ks : List Kind} {ps : List Point} {es : List Entry} (h : Qn0o ks ps es = true) : ∀ c ∈ chgs es,Qs7k ks ps c = true ∧ inR c.what 1 5 = true:=fun c hc=>by
 obtain ⟨e,he,f,hf,rfl⟩:=Qqiy.1 hc
 obtain ⟨hb,_,hall⟩:=Qg6k h
 have:=hall e he
 simp only [Q7i7,qaT] at this
 have h1:=Qkuk this.2.2 f hf
 simp only [Qh2h,qaT] at h1
 refine ⟨by simp only [Qs7k,qaT]; exact ⟨h1.1,h1.2.1,hb,h1.2.2⟩, ?_⟩
 have h2:=h1.2.2
 unfold fitsV at h2
 simp only [inR,qaT,qdT]
 by_cases q1 : f.what = 1
 ·rw [q1]; decide
 by_cases q2 : f.what = 2
 ·rw [q2]; decide
 by_cases q3 : f.what = 3
 ·rw [q3]; decide
 by_cases q4 : f.what = 4
 ·rw [q4]; decide
 by_cases q5 : f.what = 5
 ·rw [q5]; decide
 rw [if_neg q1,if_neg q2,if_neg q3,if_neg q4,if_neg q5] at h2
 cases h2
theorem Q6cq {es : List Entry} (h : szB es = true) : ∀ c ∈ chgs es,szV c.value = true:=fun c hc=>by
 obtain ⟨e,he,f,hf,rfl⟩:=Qqiy.1 hc
 simp only [szB,qaT] at h
 have h1:=qlA.1 h.2 e he
 simp only [szE,qaT] at h1
 exact qlA.1 h1.2 f hf
theorem Q5q0 (n : Str) (f : Fld) : ∀ es : List Entry,(putS es n f).length ≤ es.length + 1
 | []=>by simp [putS]
 | e :: r=>by
  have:=Q5q0 n f r
  unfold putS
  split
  ·simp
  ·split <;> simp only [List.length_cons] <;> omega
theorem Q70x {es : List Entry} (hs : Q1re es) {c : Chg} (hl : es.length ≤ 12) (h : layB es c.flight = true) : (putC es c).length ≤ 12:=by
 unfold putC
 simp only [layB,Bool.not_eq_true',Bool.and_eq_false_iff,decide_eq_false_iff_not] at h
 rcases h with h | h
 ·rw [← Qsz7 _ _ hs.1,Q5v6 (by omega),List.length_set]; exact hl
 ·have:=Q5q0 c.flight ⟨c.what,c.number,c.value⟩ es
  omega
theorem Qzkn (l : List Chg) {es : List Entry} (hs : Q1re es) {c : Chg} (h : layB es c.flight = false) : 13 ≤ (l.foldl putC (putC es c)).length:=by
 simp only [layB,Bool.not_eq_false',qaT,qdT] at h
 have h1:=Qx6j h.1
 have h2:=Qaqm (l:=c.flight :: nms es) (m:=nms (l.foldl putC (putC es c))) (List.nodup_cons.2 ⟨h1,Q9gn hs.1⟩) (fun x hx=>by
  rw [Qq1a]
  left
  rw [putC,Q9vl]
  rcases List.mem_cons.1 hx with rfl | hx
  ·exact .inl rfl
  ·exact .inr hx)
 simp only [List.length_cons,nms,List.length_map] at h2
 omega
def mgI : List Entry → List Chg → Option (List Entry)
 | es,[]=>some es
 | es,c :: l=>if layB es c.flight = true then mgI (putC es c) l else none
theorem Ql15 : ∀ {l : List Chg} {es : List Entry},Q1re es → es.length ≤ 12 → mgI es l = if (l.foldl putC es).length ≤ 12 then some (l.foldl putC es) else none
 | [],es,_,hl=>by rw [List.foldl_nil,if_pos hl]; rfl
 | c :: l,es,hs,hl=>by
  rw [List.foldl_cons]
  unfold mgI
  by_cases h : layB es c.flight = true
  ·rw [if_pos h,Ql15 (Qcth hs c) (Q70x hs hl h)]
  ·rw [if_neg h,if_neg]
   have:=Qzkn l hs (c:=c) (by simpa using h)
   omega
theorem Q7p4 {ks : List Kind} {ps : List Point} {es : List Entry} {c : Chg} (h : goodE ks ps es = true) (hc : Qs7k ks ps c = true) (hv : szV c.value = true) (hl : layB es c.flight = true) : goodE ks ps (putC es c) = true ∧ layF es c.flight (fcF c) = putC es c:=by
 have hb:=h
 simp only [goodE,qaT] at hb
 obtain ⟨_,_,h3⟩:=Qy7k (c:=c) h hv
 have hn : ¬ (entIx es c.flight < 0 ∧ 12 ≤ es.length):=by
  simp only [layB,Bool.not_eq_true',Bool.and_eq_false_iff,decide_eq_false_iff_not] at hl
  omega
 rw [Q5oq hb.1,if_pos hc,if_neg hn] at h3
 refine ⟨h3, ?_⟩
 rw [layF,if_pos hl]
 exact Qsz7 _ _ (Qwk3 hb.1).1
structure MgR where
 ks : List Kind
 ps : List Point
 es : List Entry
 code : Int
 deriving Inhabited
def Qjop (ks : List Kind) (ps : List Point) (es : List Entry) (ks2 : List Kind) (ps2 : List Point) (es2 : List Entry) : MgR :=
 if Qn0o ks ps es = true ∧ Qn0o ks2 ps2 es2 = true then
  if ks = ks2 ∧ ps = ps2 then (if (mgS es es2).length ≤ 12 then ⟨ks,ps,mgS es es2,0⟩ else ⟨[],[],[],3⟩) else ⟨[],[],[],2⟩
 else ⟨[],[],[],1⟩
theorem Q16w (ks : List Kind) (ps : List Point) (es : List Entry) (ks2 : List Kind) (ps2 : List Point) (es2 : List Entry) : Qjop ks ps es ks2 ps2 es2 = Qjop ks2 ps2 es2 ks ps es:=by
 unfold Qjop
 by_cases h : Qn0o ks ps es = true ∧ Qn0o ks2 ps2 es2 = true
 ·rw [if_pos h,if_pos h.symm]
  by_cases h2 : ks = ks2 ∧ ps = ps2
  ·obtain ⟨rfl,rfl⟩:=h2
   rw [Qvci (Qwk3 h.1) (Qwk3 h.2)]
  ·rw [if_neg h2,if_neg (fun h3=>h2 ⟨h3.1.symm,h3.2.symm⟩)]
 ·rw [if_neg h,if_neg (fun h2=>h h2.symm)]
theorem Qf8f {ks : List Kind} {ps : List Point} {es : List Entry} {ks2 : List Kind} {ps2 : List Point} {es2 : List Entry} (h : (Qjop ks ps es ks2 ps2 es2).code = 0) : Qn0o ks ps es = true ∧ Qn0o ks2 ps2 es2 = true ∧ ks = ks2 ∧ ps = ps2 ∧ (mgS es es2).length ≤ 12 ∧ Qjop ks ps es ks2 ps2 es2 = ⟨ks,ps,mgS es es2,0⟩:=by
 unfold Qjop at h ⊢
 by_cases h1 : Qn0o ks ps es = true ∧ Qn0o ks2 ps2 es2 = true
 ·rw [if_pos h1] at h ⊢
  by_cases h2 : ks = ks2 ∧ ps = ps2
  ·rw [if_pos h2] at h ⊢
   by_cases h3 : (mgS es es2).length ≤ 12
   ·rw [if_pos h3]; exact ⟨h1.1,h1.2,h2.1,h2.2,h3,rfl⟩
   ·rw [if_neg h3] at h; exact absurd h (by decide)
  ·rw [if_neg h2] at h; exact absurd h (by decide)
 ·rw [if_neg h1] at h; exact absurd h (by decide)
theorem Qrsb {ks : List Kind} {ps : List Point} {es es2 : List Entry} (h1 : Qn0o ks ps es = true) (h2 : Qn0o ks ps es2 = true) (h3 : (mgS es es2).length ≤ 12) : Qjop ks ps es ks ps es2 = ⟨ks,ps,mgS es es2,0⟩:=by
 unfold Qjop
 rw [if_pos ⟨h1,h2⟩,if_pos ⟨rfl,rfl⟩,if_pos h3]
theorem Q8k1 {ks : List Kind} {ps : List Point} {es es2 : List Entry} (h1 : goodE ks ps es = true) (h2 : goodE ks ps es2 = true) (h3 : (mgS es es2).length ≤ 12) {l : List Chg} (hl : ∀ c ∈ l,c ∈ chgs es2) (he : l.foldl putC es = mgS es es2) :
  goodE ks ps (mgS es es2) = true ∧ (tkGo ks ps es l).1 = mgS es es2 ∧ (tkGo ks ps es l).2.length = l.length:=by
 have b1:=h1
 have b2:=h2
 simp only [goodE,goodB,qaT] at b1 b2
 have hf : l.filter (Qs7k ks ps) = l:=List.filter_eq_self.2 fun c hc=>(Qef7 b2.1 c (hl c hc)).1
 have hx : (nms (mgS es es2)).length ≤ 12:=by simpa [nms] using h3
 have e:=Qbvd (X:=nms (mgS es es2)) hx (l:=l) b1.1 (fun m hm=>by rw [← he,Qq1a]; exact .inl hm) (fun c hc _=>by rw [← he,Qq1a]; exact .inr ⟨c,hc,rfl⟩)
 rw [hf,he] at e
 have hv : (l.all fun c=>szV c.value) = true:=qlA.2 fun c hc=>Q6cq b2.2.1 c (hl c hc)
 obtain ⟨q1,q2⟩:=Qbzy (l:=l) h1 hv
 rw [e] at q1
 exact ⟨q1,e,q2⟩
end Lx
namespace Lx
open Go Go.Proofs
def Q7d2 : Ent Ty El:=⟨[.ro,.ro],0,fun a h=>match a,h with
 | [.sl .kind a,.sl .kind b],[]=>some (decide (a.length ≤ 1000000000),.bool (decide (a = b)),[])
 | _,_=>none⟩
def Qs83 : Ent Ty El:=⟨[.ro,.ro],0,fun a h=>match a,h with
 | [.sl .point a,.sl .point b],[]=>some (decide (a.length ≤ 1000000000),.bool (decide (a = b)),[])
 | _,_=>none⟩
def mgK (ks : List Kind) (ps : List Point) (es : List Entry) (ks2 : List Kind) (ps2 : List Point) (es2 : List Entry) : Bool:=goodB ks ps es && goodB ks2 ps2 es2
def Q7dj : Ent Ty El:=⟨[.ro,.ro],3,fun a h=>match a,h with
 | [.agg [.sl .kind ks,.sl .point ps,.sl .entry es],.agg [.sl .kind ks2,.sl .point ps2,.sl .entry es2]],[] =>
  some (mgK ks ps es ks2 ps2 es2,.tup [.agg [.own 0 [] 0,.own 1 [] 0,.own 2 [] 0],.int .i64 (Qjop ks ps es ks2 ps2 es2).code],
   [.row .kind (Qjop ks ps es ks2 ps2 es2).ks 0 0 0 .no,.row .point (Qjop ks ps es ks2 ps2 es2).ps 0 0 0 .no,.row .entry (Qjop ks ps es ks2 ps2 es2).es 1 0 0 .no])
 | _,_=>none⟩
def Q1mq : Ent Ty El:=Q7dj
theorem Q6sb (a b : List Entry) : chgs (a ++ b) = chgs a ++ chgs b:=List.flatMap_append
theorem Qlwq (e : Entry) : chgs [e] = chE e:=by simp [chgs]
theorem Qx5a {es : List Entry} {i : Nat} (h : i < es.length) : chgs (es.take (i + 1)) = chgs (es.take i) ++ chE es[i]:=by
 rw [qtS h,Q6sb,Qlwq]
theorem Q1ga {e : Entry} {k : Nat} (h : k < e.fields.length) : (chE e).take (k + 1) = (chE e).take k ++ [⟨e.name,e.fields[k].what,e.fields[k].number,e.fields[k].value⟩]:=by
 have h2 : k < (chE e).length:=by simpa [chE] using h
 rw [qtS h2]
 simp [chE]
theorem Qth9 {e : Entry} {k : Nat} (h : e.fields.length ≤ k) : (chE e).take k = chE e:=List.take_of_length_le (by simpa [chE] using h)
def mgAt (a b : List Entry) (i k : Nat) : List Entry:=(chgs (b.take i) ++ (chE (b.getD i (dfltP .entry))).take k).foldl putC a
theorem Qyo9 (a b : List Entry) : mgAt a b 0 0 = a:=by simp [mgAt,chgs]
theorem Q9w3 {a b : List Entry} {i k : Nat} (hk : k < (b.getD i (dfltP .entry)).fields.length) : mgAt a b i (k + 1) = putC (mgAt a b i k) ⟨(b.getD i (dfltP .entry)).name,(b.getD i (dfltP .entry)).fields[k].what,(b.getD i (dfltP .entry)).fields[k].number,(b.getD i (dfltP .entry)).fields[k].value⟩:=by
 unfold mgAt
 rw [Q1ga hk,← List.append_assoc,List.foldl_append]; rfl
theorem Qw1j {a b : List Entry} {i k : Nat} (hi : i < b.length) (hk : (b.getD i (dfltP .entry)).fields.length ≤ k) : mgAt a b i k = mgAt a b (i + 1) 0:=by
 unfold mgAt
 have e : b.getD i (dfltP .entry) = b[i]:=by simp [hi]
 rw [Qth9 hk,Qx5a hi,e,List.take_zero,List.append_nil]
theorem Qbtf (a b : List Entry) : mgAt a b b.length 0 = mgS a b:=by
 unfold mgAt mgS
 rw [List.take_length,List.take_zero,List.append_nil]
theorem Qozu {a : List Entry} (b : List Entry) (i k : Nat) (h : Q1re a) : Q1re (mgAt a b i k):=Qv4f _ h
def sml (N : Nat) (es : List Entry) : Prop:=es.length ≤ N ∧ ∀ e ∈ es,e.fields.length ≤ N
theorem Qol2 {N : Nat} (n : Str) (f : Fld) : ∀ {es : List Entry},(∀ e ∈ es,e.fields.length ≤ N) → ∀ e ∈ putS es n f,e.fields.length ≤ N + 1
 | [],_,e,he=>by
  simp only [putS,List.mem_singleton] at he
  subst he; simp
 | x :: r,h,e,he=>by
  have hx:=h x (List.mem_cons_self ..)
  have hr:=Qol2 n f (es:=r) (fun e he=>h e (List.mem_cons_of_mem _ he))
  unfold putS at he
  split at he
  ·rcases List.mem_cons.1 he with rfl | he
   ·have:=Qcx7 f x.fields
    show (Qul0 x.fields f).length ≤ N + 1
    omega
   ·have:=h e (List.mem_cons_of_mem _ he); omega
  ·split at he
   ·rcases List.mem_cons.1 he with rfl | he
    ·omega
    ·exact hr e he
   ·rcases List.mem_cons.1 he with rfl | he
    ·simp
    ·have:=h e he; omega
theorem Qlc0 : ∀ (l : List Chg) {N : Nat} {es : List Entry},sml N es → sml (N + l.length) (l.foldl putC es)
 | [],N,es,h=>h
 | c :: l,N,es,h=>by
  rw [List.foldl_cons,List.length_cons,show N + (l.length + 1) = (N + 1) + l.length by omega]
  refine Qlc0 l ⟨?_,Qol2 _ _ h.2⟩
  have:=Q5q0 c.flight ⟨c.what,c.number,c.value⟩ es
  have:=h.1
  unfold putC
  omega
theorem Qzzx : ∀ {es : List Entry} {m : Nat},(∀ e ∈ es,e.fields.length ≤ m) → (chgs es).length ≤ es.length * m
 | [],m,_=>by simp [chgs]
 | e :: es,m,h=>by
  have h1:=h e (List.mem_cons_self ..)
  have h2:=Qzzx (es:=es) (m:=m) (fun e he=>h e (List.mem_cons_of_mem _ he))
  have : chgs (e :: es) = chE e ++ chgs es:=rfl
  rw [this,List.length_append,List.length_cons,Nat.succ_mul]
  have : (chE e).length = e.fields.length:=by simp [chE]
  omega
theorem Q7xc {ks ks2 : List Kind} {ps ps2 : List Point} {a b : List Entry} (ha : Qn0o ks ps a = true) (hb : Qn0o ks2 ps2 b = true) (i k : Nat) : sml 200 (mgAt a b i k):=by
 obtain ⟨h1,h2⟩:=Qm34 ha
 obtain ⟨h3,h4⟩:=Qm34 hb
 have h5 : sml 12 a:=⟨h1,fun e he=>by have:=h2 e he; omega⟩
 have h6:=Qlc0 (chgs (b.take i) ++ (chE (b.getD i (dfltP .entry))).take k) h5
 have h7 : (chgs (b.take i)).length ≤ (b.take i).length * 5:=Qzzx fun e he=>h4 e (List.mem_of_mem_take he)
 have h8 : (b.take i).length ≤ 12:=by rw [List.length_take]; omega
 have h9 : ((chE (b.getD i (dfltP .entry))).take k).length ≤ 5:=by
  rw [List.length_take]
  have : (chE (b.getD i (dfltP .entry))).length ≤ 5:=by
   simp only [chE,List.length_map]
   by_cases h : i < b.length
   ·rw [qgD,qeG h]; exact h4 _ (List.getElem_mem h)
   ·rw [qgD,List.getElem?_eq_none (by omega)]; exact Nat.zero_le _
  omega
 rw [List.length_append] at h6
 exact ⟨Nat.le_trans h6.1 (by omega),fun e he=>Nat.le_trans (h6.2 e he) (by omega)⟩
theorem Qohh {es : List Entry} (h : sml 200 es) : putOk es = true:=by
 simp only [putOk,qaT,qdT]
 refine ⟨by have:=h.1; omega,qlA.2 fun e he=>?_⟩
 have:=h.2 e he
 simp only [Qytc,Qckx,qaT,qdT,and_true]; omega
theorem Q6ci (es : List Entry) (c : Chg) (l : List Chg) : mgI es (c :: l) = if layB es c.flight = true then mgI (putC es c) l else none:=rfl
theorem Qjlu : ∀ {l m : List Chg} {es : List Entry},mgI es (l ++ m) = (mgI es l).bind fun x=>mgI x m
 | [],m,es=>rfl
 | c :: l,m,es=>by
  rw [List.cons_append,Q6ci,Q6ci]
  by_cases h : layB es c.flight = true
  ·rw [if_pos h,if_pos h]; exact Qjlu
  ·rw [if_neg h,if_neg h]; rfl
theorem Q51g {ks : List Kind} {ps : List Point} : ∀ {l : List Chg} {es x : List Entry},goodE ks ps es = true → (∀ c ∈ l,Qs7k ks ps c = true ∧ szV c.value = true) → mgI es l = some x → goodE ks ps x = true
 | [],es,x,h,_,hx=>by rw [← Option.some.inj hx]; exact h
 | c :: l,es,x,h,hl,hx=>by
  rw [Q6ci] at hx
  split at hx
  ·rename_i hB
   have hc:=hl c (List.mem_cons_self ..)
   exact Q51g (Q7p4 h hc.1 hc.2 hB).1 (fun d hd=>hl d (List.mem_cons_of_mem _ hd)) hx
  ·cases hx
def preL (b : List Entry) (i k : Nat) : List Chg:=chgs (b.take i) ++ (chE (b.getD i (dfltP .entry))).take k
def cAt (b : List Entry) (i k : Nat) : Chg:=⟨(b.getD i (dfltP .entry)).name,((b.getD i (dfltP .entry)).fields.getD k (dfltP .fld)).what,((b.getD i (dfltP .entry)).fields.getD k (dfltP .fld)).number,((b.getD i (dfltP .entry)).fields.getD k (dfltP .fld)).value⟩
theorem Qxrh {b : List Entry} {i k : Nat} (hk : k < (b.getD i (dfltP .entry)).fields.length) : preL b i (k + 1) = preL b i k ++ [cAt b i k]:=by
 unfold preL cAt
 rw [Q1ga hk,List.append_assoc,qgD (l:=(b.getD i (dfltP .entry)).fields),qeG hk]; rfl
theorem Q2j0 {b : List Entry} {i k : Nat} (hi : i < b.length) (hk : (b.getD i (dfltP .entry)).fields.length ≤ k) : preL b i k = preL b (i + 1) 0:=by
 unfold preL
 have e : b.getD i (dfltP .entry) = b[i]:=by simp [hi]
 rw [Qth9 hk,Qx5a hi,e,List.take_zero,List.append_nil]
theorem Q5on (b : List Entry) : preL b 0 0 = []:=by simp [preL,chgs]
theorem Qi46 (b : List Entry) : preL b b.length 0 = chgs b:=by
 unfold preL
 rw [List.take_length,List.take_zero,List.append_nil]
theorem Q1gw {b : List Entry} {i k : Nat} (hi : i < b.length) (hk : k < (b.getD i (dfltP .entry)).fields.length) : ∃ post,chgs b = preL b i k ++ cAt b i k :: post:=by
 have e : b.getD i (dfltP .entry) = b[i]:=by simp [hi]
 have h1 : chgs b = chgs (b.take i) ++ (chE b[i] ++ chgs (b.drop (i + 1))):=by
  rw [← Qlwq b[i],← Q6sb,← Q6sb,List.singleton_append,← qdC hi,List.take_append_drop]
 have hk' : k < b[i].fields.length:=by rw [← e]; exact hk
 have hk2 : k < (chE b[i]).length:=by simpa [chE] using hk'
 have h2 : chE b[i] = (chE b[i]).take k ++ cAt b i k :: (chE b[i]).drop (k + 1):=by
  have h3 : (chE b[i])[k] = cAt b i k:=by
   have h4 : b[i].fields.getD k (dfltP .fld) = b[i].fields[k]:=by simp [hk']
   unfold cAt
   rw [e,h4]
   simp [chE]
  rw [← h3,← qdC hk2,List.take_append_drop]
 refine ⟨(chE b[i]).drop (k + 1) ++ chgs (b.drop (i + 1)), ?_⟩
 unfold preL
 rw [h1,e]
 conv=>lhs; rw [h2]
 simp only [List.append_assoc,List.cons_append]
theorem Qidl {b : List Entry} {i k : Nat} (hi : i < b.length) (hk : k < (b.getD i (dfltP .entry)).fields.length) : cAt b i k ∈ chgs b:=by
 obtain ⟨post,h⟩:=Q1gw hi hk
 rw [h]; simp
theorem Qa6v {ks : List Kind} {ps : List Point} {a b : List Entry} {i k : Nat} (ha : goodE ks ps a = true) (hb : goodE ks ps b = true) (hi : i < b.length) (hk : k < (b.getD i (dfltP .entry)).fields.length) (h : mgI a (preL b i k) = some (mgAt a b i k)) :
  goodE ks ps (mgAt a b i k) = true ∧ (layB (mgAt a b i k) (cAt b i k).flight = true → layF (mgAt a b i k) (cAt b i k).flight (fcF (cAt b i k)) = mgAt a b i (k + 1) ∧ mgI a (preL b i (k + 1)) = some (mgAt a b i (k + 1))) ∧
   (layB (mgAt a b i k) (cAt b i k).flight = false → ¬ (mgS a b).length ≤ 12):=by
 have ha':=ha
 have hb':=hb
 simp only [goodE,goodB,qaT] at ha' hb'
 have hall : ∀ c ∈ chgs b,Qs7k ks ps c = true ∧ szV c.value = true:=fun c hc=>⟨(Qef7 hb'.1 c hc).1,Q6cq hb'.2.1 c hc⟩
 obtain ⟨post,hp⟩:=Q1gw hi hk
 have hg:=Q51g ha (fun c hc=>hall c (by rw [hp]; exact List.mem_append_left _ hc)) h
 have hc:=hall _ (Qidl hi hk)
 have he : mgAt a b i (k + 1) = putC (mgAt a b i k) (cAt b i k):=by
  show (preL b i (k + 1)).foldl putC a = _
  rw [Qxrh hk,List.foldl_append]; rfl
 refine ⟨hg,fun hB=>?_,fun hB hle=>?_⟩
 ·refine ⟨by rw [he]; exact (Q7p4 hg hc.1 hc.2 hB).2, ?_⟩
  rw [Qxrh hk,Qjlu,h,Option.bind_some,he]
  simp only [mgI,hB,if_true]
 ·have h1:=Ql15 (l:=chgs b) (Qwk3 ha'.1) (Qm34 ha'.1).1
  rw [if_pos (show ((chgs b).foldl putC a).length ≤ 12 from hle),hp,Qjlu,h,Option.bind_some] at h1
  simp only [mgI,hB] at h1
  simp at h1
theorem Q4jp {a b : List Entry} {i k : Nat} (hk : k < (b.getD i (dfltP .entry)).fields.length) : putS (mgAt a b i k) (b.getD i (dfltP .entry)).name ((b.getD i (dfltP .entry)).fields.getD k (dfltP .fld)) = mgAt a b i (k + 1):=by
 rw [Q9w3 hk,qgD (l:=(b.getD i (dfltP .entry)).fields),qeG hk]; rfl
theorem Q5l7 {ks : List Kind} {ps : List Point} {es es2 : List Entry} (h1 : Qn0o ks ps es = true) (h2 : Qn0o ks ps es2 = true) (h3 : ¬ (mgS es es2).length ≤ 12) : Qjop ks ps es ks ps es2 = ⟨[],[],[],3⟩:=by
 unfold Qjop
 rw [if_pos ⟨h1,h2⟩,if_pos ⟨rfl,rfl⟩,if_neg h3]
theorem Qd1f {ks : List Kind} {ps : List Point} {es : List Entry} {ks2 : List Kind} {ps2 : List Point} {es2 : List Entry} (h : ¬ (Qn0o ks ps es = true ∧ Qn0o ks2 ps2 es2 = true)) : Qjop ks ps es ks2 ps2 es2 = ⟨[],[],[],1⟩:=by
 unfold Qjop
 rw [if_neg h]
theorem Qx92 {ks : List Kind} {ps : List Point} {es : List Entry} {ks2 : List Kind} {ps2 : List Point} {es2 : List Entry} (h1 : Qn0o ks ps es = true) (h2 : Qn0o ks2 ps2 es2 = true) (h : ¬ (ks = ks2 ∧ ps = ps2)) : Qjop ks ps es ks2 ps2 es2 = ⟨[],[],[],2⟩:=by
 unfold Qjop
 rw [if_pos ⟨h1,h2⟩,if_neg h]
theorem Q0yy {ks : List Kind} {ps : List Point} {es : List Entry} {w : Int} (h : goodE ks ps es = true) (hw : inR w 1 5 = true) : layK ks ps es w = true:=by
 simp only [goodE,qaT] at h
 simp only [inR,qaT,qdT] at hw
 simp only [layK,h.1,h.2,inR,Bool.true_and,qaT,qdT]
 omega
end Lx
namespace Lx
open Go Go.Proofs
noncomputable def Q0mz : RE Ty El:=⟨Tryz.prog,CP,[],Tryz.f144,0,[],[(4,[(0,.any),(1,.any),(12,.any),(13,.any)])]⟩
theorem Qz3q : REOK Q0mz Qd84:=⟨CP_ok,Qye1,by kernel_rfl,by kernel_rfl⟩
theorem Qk2e (a b : List Kind) : aRun Q0mz 600 false (body0 Q0mz.fn) (Q4gm Q0mz.fn [.sl .kind a,.sl .kind b] []) =
 ifb ((↑a.length : Int) != (↑b.length : Int)) (some (.ret (.bool false) [])) (some (.go (Qu6t Q0mz.fn 4) [.sl .kind a,.sl .kind b,.int .i64 (↑a.length : Int),.int .i64 0] [])):=by kernel_rfl
theorem Qphv (x0 : List (El .kind)) (x1 : List (El .kind)) (x2 : Int) (x3 : Int) : aRun Q0mz 600 true (Qu6t Q0mz.fn 4) (cutSt Q0mz.fn (Q1m4 Q0mz (Qu6t Q0mz.fn 4)) [.sl .kind x0,.sl .kind x1,.int .i64 x2,.int .i64 x3] []) =
 ifb (decide (x3 < x2)) (ifb (inb x3 x0.length) (ifb (inb x3 x1.length) (ifb (!((x0.getD x3.toNat (Q0mz.C.dflt Ty.kind)).name == (x1.getD x3.toNat (Q0mz.C.dflt Ty.kind)).name && ((x0.getD x3.toNat (Q0mz.C.dflt Ty.kind)).quick == (x1.getD x3.toNat (Q0mz.C.dflt Ty.kind)).quick && ((x0.getD x3.toNat (Q0mz.C.dflt Ty.kind)).slow == (x1.getD x3.toNat (Q0mz.C.dflt Ty.kind)).slow && true)))) (some (.ret (.bool false) [])) (some (.go (Qu6t Q0mz.fn 4) [.sl .kind x0,.sl .kind x1,.int .i64 x2,.int .i64 (IntKind.i64.wrap (x3 + 1))] []))) (none)) (none)) (some (.ret (.bool true) [])):=by kernel_rfl
theorem Qp1a (a b : List Kind) (g : a.length ≤ 1000000000) (e : a.length = b.length) : ∀ (d i : Nat),i + d = a.length → Cut Q0mz Qd84 4 [.sl .kind a,.sl .kind b,.int .i64 (a.length : Int),.int .i64 (i : Int)] [] (.bool (decide (a.drop i = b.drop i))) []:=by
 intro d
 induction d with
 | zero =>
  intro i hi
  refine Cut.of Qz3q rfl (Qphv a b a.length i) ?_
  rw [show decide ((i : Int) < (a.length : Int)) = false from decide_eq_false (by omega),List.drop_of_length_le (show a.length ≤ i by omega),List.drop_of_length_le (show b.length ≤ i by omega)]
  exact Sat.ret rfl rfl
 | succ d ih =>
  intro i hi
  refine Cut.of Qz3q rfl (Qphv a b a.length i) ?_
  have hlt : i < a.length:=by omega
  have hw : IntKind.wrap .i64 ((i : Int) + 1) = ((i + 1 : Nat) : Int):=by rw [Qbrg] <;> omega
  have hx : a.getD (i : Int).toNat (Q0mz.C.dflt .kind) = a[i]:=by simp [hlt]
  have hin : inb (i : Int) a.length = true:=by simp only [inb,qaT,qdT]; omega
  have hlo : decide ((i : Int) < (a.length : Int)) = true:=decide_eq_true (by omega)
  have hlt2 : i < b.length:=by omega
  have hin2 : inb (i : Int) b.length = true:=by simp only [inb,qaT,qdT]; omega
  have hx2 : b.getD (i : Int).toNat (Q0mz.C.dflt .kind) = b[i]:=by simp [hlt2]
  have nx:=ih (i + 1) (by omega)
  rw [hlo,hin,hin2,hx,hx2,hw,Qnrr hlt hlt2]
  simp only [Qd8q]
  generalize a[i] = x at *
  generalize b[i] = y at *
  obtain ⟨x1,x2,x3⟩:=x
  obtain ⟨y1,y2,y3⟩:=y
  refine Sat.ifb (fun h=>?_) (fun h=>?_)
  ·have hne : ¬ (Kind.mk x1 x2 x3 : Kind) = Kind.mk y1 y2 y3:=fun e=>by
    simp only [Kind.mk.injEq] at e
    obtain ⟨rfl,rfl,rfl⟩:=e
    simp at h
   rw [decide_eq_false hne]
   exact Sat.ret rfl rfl
  ·have he : (Kind.mk x1 x2 x3 : Kind) = Kind.mk y1 y2 y3:=by
    simp only [Bool.not_eq_false',qaT,beq_iff_eq,and_true] at h
    rw [h.1,h.2.1,h.2.2]
   rw [decide_eq_true he,Bool.true_and]
   exact Sat.cut nx
theorem Qgtw (a b : List Kind) (hg : decide (a.length ≤ 1000000000) = true) : Qewq Tryz.prog CP Qd84 [.sl .kind a,.sl .kind b] [] (.bool (decide (a = b))) []:=by
 refine Qewq.of Qz3q (by kernel_rfl) (Qk2e a b) ?_
 have hg:=of_decide_eq_true hg
 refine Sat.ifb (fun h=>?_) (fun h=>?_)
 ·have : ¬ a = b:=fun e=>by rw [e] at h; simp at h
  rw [decide_eq_false this]; exact Sat.ret rfl rfl
 ·have e1 : a.length = b.length:=by
   have : (a.length : Int) = b.length:=by simpa using h
   omega
  exact Sat.cut (Qp1a a b hg e1 a.length 0 (by omega))
theorem Qt0y : EntOK Tryz.prog CP Qd84 Q7d2:=by
 refine ⟨eob (by kernel_rfl),fun _ _ _ _ h=>?_⟩
 simp only [Q7d2] at h
 split at h
 ·obtain ⟨hg,rfl,rfl⟩:=eoh h
  exact Qgtw _ _ hg
 ·cases h

noncomputable def Qe2v : RE Ty El:=⟨Tryz.prog,CP,[],Tryz.f145,0,[],[(4,[(0,.any),(1,.any),(12,.any),(13,.any)])]⟩
theorem Q5ep : REOK Qe2v Qikb:=⟨CP_ok,Qye1,by kernel_rfl,by kernel_rfl⟩
theorem Q32n (a b : List Point) : aRun Qe2v 600 false (body0 Qe2v.fn) (Q4gm Qe2v.fn [.sl .point a,.sl .point b] []) =
 ifb ((↑a.length : Int) != (↑b.length : Int)) (some (.ret (.bool false) [])) (some (.go (Qu6t Qe2v.fn 4) [.sl .point a,.sl .point b,.int .i64 (↑a.length : Int),.int .i64 0] [])):=by kernel_rfl
theorem Qhmk (x0 : List (El .point)) (x1 : List (El .point)) (x2 : Int) (x3 : Int) : aRun Qe2v 600 true (Qu6t Qe2v.fn 4) (cutSt Qe2v.fn (Q1m4 Qe2v (Qu6t Qe2v.fn 4)) [.sl .point x0,.sl .point x1,.int .i64 x2,.int .i64 x3] []) =
 ifb (decide (x3 < x2)) (ifb (inb x3 x0.length) (ifb (inb x3 x1.length) (ifb (!((x0.getD x3.toNat (Qe2v.C.dflt Ty.point)).name == (x1.getD x3.toNat (Qe2v.C.dflt Ty.point)).name && ((x0.getD x3.toNat (Qe2v.C.dflt Ty.point)).x == (x1.getD x3.toNat (Qe2v.C.dflt Ty.point)).x && ((x0.getD x3.toNat (Qe2v.C.dflt Ty.point)).y == (x1.getD x3.toNat (Qe2v.C.dflt Ty.point)).y && true)))) (some (.ret (.bool false) [])) (some (.go (Qu6t Qe2v.fn 4) [.sl .point x0,.sl .point x1,.int .i64 x2,.int .i64 (IntKind.i64.wrap (x3 + 1))] []))) (none)) (none)) (some (.ret (.bool true) [])):=by kernel_rfl
theorem Qt1t (a b : List Point) (g : a.length ≤ 1000000000) (e : a.length = b.length) : ∀ (d i : Nat),i + d = a.length → Cut Qe2v Qikb 4 [.sl .point a,.sl .point b,.int .i64 (a.length : Int),.int .i64 (i : Int)] [] (.bool (decide (a.drop i = b.drop i))) []:=by
 intro d
 induction d with
 | zero =>
  intro i hi
  refine Cut.of Q5ep rfl (Qhmk a b a.length i) ?_
  rw [show decide ((i : Int) < (a.length : Int)) = false from decide_eq_false (by omega),List.drop_of_length_le (show a.length ≤ i by omega),List.drop_of_length_le (show b.length ≤ i by omega)]
  exact Sat.ret rfl rfl
 | succ d ih =>
  intro i hi
  refine Cut.of Q5ep rfl (Qhmk a b a.length i) ?_
  have hlt : i < a.length:=by omega
  have hw : IntKind.wrap .i64 ((i : Int) + 1) = ((i + 1 : Nat) : Int):=by rw [Qbrg] <;> omega
  have hx : a.getD (i : Int).toNat (Qe2v.C.dflt .point) = a[i]:=by simp [hlt]
  have hin : inb (i : Int) a.length = true:=by simp only [inb,qaT,qdT]; omega
  have hlo : decide ((i : Int) < (a.length : Int)) = true:=decide_eq_true (by omega)
  have hlt2 : i < b.length:=by omega
  have hin2 : inb (i : Int) b.length = true:=by simp only [inb,qaT,qdT]; omega
  have hx2 : b.getD (i : Int).toNat (Qe2v.C.dflt .point) = b[i]:=by simp [hlt2]
  have nx:=ih (i + 1) (by omega)
  rw [hlo,hin,hin2,hx,hx2,hw,Qnrr hlt hlt2]
  simp only [Qd8q]
  generalize a[i] = x at *
  generalize b[i] = y at *
  obtain ⟨x1,x2,x3⟩:=x
  obtain ⟨y1,y2,y3⟩:=y
  refine Sat.ifb (fun h=>?_) (fun h=>?_)
  ·have hne : ¬ (Point.mk x1 x2 x3 : Point) = Point.mk y1 y2 y3:=fun e=>by
    simp only [Point.mk.injEq] at e
    obtain ⟨rfl,rfl,rfl⟩:=e
    simp at h
   rw [decide_eq_false hne]
   exact Sat.ret rfl rfl
  ·have he : (Point.mk x1 x2 x3 : Point) = Point.mk y1 y2 y3:=by
    simp only [Bool.not_eq_false',qaT,beq_iff_eq,and_true] at h
    rw [h.1,h.2.1,h.2.2]
   rw [decide_eq_true he,Bool.true_and]
   exact Sat.cut nx
theorem Qubj (a b : List Point) (hg : decide (a.length ≤ 1000000000) = true) : Qewq Tryz.prog CP Qikb [.sl .point a,.sl .point b] [] (.bool (decide (a = b))) []:=by
 refine Qewq.of Q5ep (by kernel_rfl) (Q32n a b) ?_
 have hg:=of_decide_eq_true hg
 refine Sat.ifb (fun h=>?_) (fun h=>?_)
 ·have : ¬ a = b:=fun e=>by rw [e] at h; simp at h
  rw [decide_eq_false this]; exact Sat.ret rfl rfl
 ·have e1 : a.length = b.length:=by
   have : (a.length : Int) = b.length:=by simpa using h
   omega
  exact Sat.cut (Qt1t a b hg e1 a.length 0 (by omega))
theorem Q24n : EntOK Tryz.prog CP Qikb Qs83:=by
 refine ⟨eob (by kernel_rfl),fun _ _ _ _ h=>?_⟩
 simp only [Qs83] at h
 split at h
 ·obtain ⟨hg,rfl,rfl⟩:=eoh h
  exact Qubj _ _ hg
 ·cases h

noncomputable def Q7lw : RE Ty El:=⟨Tryz.prog,CP,[(Qdfk,Q124),(Q4ja,Qe8a),(Qfx9,Qc1o),(Q7kf,Qe10)],Tryz.f53,0,[.agg [.own .kind,.own .point,.own .entry],.any],[(7,[(3,.any),(4,.any),(6,.any),(7,.any)]),(10,[(3,.any),(4,.any),(6,.any),(7,.any),(8,.any)])]⟩
theorem Qzc2 : REOK Q7lw Qb03:=⟨CP_ok,(TabOK.cons Q8cq (TabOK.cons Qw0g (TabOK.cons Qaka (TabOK.cons Qt3t Qye1)))),by kernel_rfl,by kernel_rfl⟩
theorem Qjbq (ks : List Kind) (ps : List Point) (es : List Entry) (ks2 : List Kind) (ps2 : List Point) (es2 : List Entry) : aRun Q7lw 600 false (body0 Q7lw.fn) (Q4gm Q7lw.fn [.agg [.sl .kind ks,.sl .point ps,.sl .entry es],.agg [.sl .kind ks2,.sl .point ps2,.sl .entry es2]] []) =
 ifb (szB es) (ifb (!Qn0o ks ps es) (some (.ret (.tup [.agg [.own 0 [] 0,.own 1 [] 0,.own 2 [] 0],.int .i64 1]) [.row .kind [] 0 0 0 .no,.row .point [] 0 0 0 .no,.row .entry [] 1 0 0 .no])) (ifb (szB es2) (ifb (!Qn0o ks2 ps2 es2) (some (.ret (.tup [.agg [.own 0 [] 0,.own 1 [] 0,.own 2 [] 0],.int .i64 1]) [.row .kind [] 0 0 0 .no,.row .point [] 0 0 0 .no,.row .entry [] 1 0 0 .no])) (ifb (decide (ks.length ≤ (1000000000 : Nat)) && decide (ps.length ≤ (1000000000 : Nat))) (ifb (!(decide (ks = ks2) && decide (ps = ps2))) (some (.ret (.tup [.agg [.own 0 [] 0,.own 1 [] 0,.own 2 [] 0],.int .i64 2]) [.row .kind [] 0 0 0 .no,.row .point [] 0 0 0 .no,.row .entry [] 1 0 0 .no])) (ifb (Q8cx ks ps es) (some (.go (Qu6t Q7lw.fn 7) [.ptr 0 0,.ptr 1 0,.ptr 2 0,.int .i64 0] [.box [.sl .kind ks2,.sl .point ps2,.sl .entry es2],.box [.nils,.nils,.nils],.box [.own 3 [] 0,.own 4 [] 0,.own 5 [] 0],.row .kind ks 0 0 0 .no,.row .point ps 0 0 0 .no,.row .entry es 1 0 0 .no])) (none))) (none))) (none))) (none):=by kernel_rfl
theorem Qq94 (x0 : Int) (x1 : List (El .kind)) (x2 : List (El .point)) (x3 : List (El .entry)) (x4 : List (El .kind)) (x5 : List (El .point)) (x6 : List (El .entry)) : aRun Q7lw 600 true (Qu6t Q7lw.fn 7) (cutSt Q7lw.fn (Q1m4 Q7lw (Qu6t Q7lw.fn 7)) [.ptr 0 0,.ptr 1 0,.ptr 2 0,.int .i64 x0] [.box [.sl .kind x1,.sl .point x2,.sl .entry x3],.box [.nils,.nils,.nils],.box [.own 3 [] 0,.own 4 [] 0,.own 5 [] 0],.row .kind x4 0 0 0 .no,.row .point x5 0 0 0 .no,.row .entry x6 1 0 0 .no]) =
 ifb (decide (x0 < (↑x3.length : Int))) (some (.go (Qu6t Q7lw.fn 10) [.ptr 0 0,.ptr 1 0,.ptr 2 0,.int .i64 x0,.int .i64 0] [.box [.sl .kind x1,.sl .point x2,.sl .entry x3],.box [.nils,.nils,.nils],.box [.own 3 [] 0,.own 4 [] 0,.own 5 [] 0],.row .kind x4 0 0 0 .no,.row .point x5 0 0 0 .no,.row .entry x6 1 0 0 .no])) (ifb (decide ((↑x6.length : Int) > (12 : Int))) (some (.ret (.tup [.agg [.own 0 [] 0,.own 1 [] 0,.own 2 [] 0],.int .i64 3]) [.row .kind [] 0 0 0 .no,.row .point [] 0 0 0 .no,.row .entry [] 1 0 0 .no])) (ifb (Q8cx x4 x5 x6) (some (.ret (.tup [.agg [.own 0 [] 0,.own 1 [] 0,.own 2 [] 0],.int .i64 0]) [.row .kind x4 0 0 0 .no,.row .point x5 0 0 0 .no,.row .entry x6 1 0 0 .no])) (none))):=by kernel_rfl
theorem Qkf3 (x0 : Int) (x1 : Int) (x2 : List (El .kind)) (x3 : List (El .point)) (x4 : List (El .entry)) (x5 : List (El .kind)) (x6 : List (El .point)) (x7 : List (El .entry)) : aRun Q7lw 600 true (Qu6t Q7lw.fn 10) (cutSt Q7lw.fn (Q1m4 Q7lw (Qu6t Q7lw.fn 10)) [.ptr 0 0,.ptr 1 0,.ptr 2 0,.int .i64 x0,.int .i64 x1] [.box [.sl .kind x2,.sl .point x3,.sl .entry x4],.box [.nils,.nils,.nils],.box [.own 3 [] 0,.own 4 [] 0,.own 5 [] 0],.row .kind x5 0 0 0 .no,.row .point x6 0 0 0 .no,.row .entry x7 1 0 0 .no]) =
 ifb (inb x0 x4.length) (ifb (decide (x1 < (↑(x4.getD x0.toNat (Q7lw.C.dflt Ty.entry)).fields.length : Int))) (ifb (inb x0 x4.length) (ifb (inb x0 x4.length) (ifb (inb x1 (x4.getD x0.toNat (Q7lw.C.dflt Ty.entry)).fields.length) (ifb (putOk x7) (some (.go (Qu6t Q7lw.fn 10) [.ptr 0 0,.ptr 1 0,.ptr 2 0,.int .i64 x0,.int .i64 (IntKind.i64.wrap (x1 + 1))] [.box [.sl .kind x2,.sl .point x3,.sl .entry x4],.box [.nils,.nils,.nils],.box [.own 3 [] 0,.own 4 [] 0,.own 5 [] 0],.row .kind x5 0 0 0 .no,.row .point x6 0 0 0 .no,.row .entry (putF x7 (x4.getD x0.toNat (Q7lw.C.dflt Ty.entry)).name ((x4.getD x0.toNat (Q7lw.C.dflt Ty.entry)).fields.getD x1.toNat (Q7lw.C.dflt Ty.fld))) 1 0 0 .no])) (none)) (none)) (none)) (none)) (some (.go (Qu6t Q7lw.fn 7) [.ptr 0 0,.ptr 1 0,.ptr 2 0,.int .i64 (IntKind.i64.wrap (x0 + 1))] [.box [.sl .kind x2,.sl .point x3,.sl .entry x4],.box [.nils,.nils,.nils],.box [.own 3 [] 0,.own 4 [] 0,.own 5 [] 0],.row .kind x5 0 0 0 .no,.row .point x6 0 0 0 .no,.row .entry x7 1 0 0 .no]))) (none):=by kernel_rfl
theorem Qiau (ks : List Kind) (ps : List Point) (es es2 : List Entry) (ha : goodE ks ps es = true) (hb : goodE ks ps es2 = true) (res : V) (H' : List O) (i : Nat) (hi : i < es2.length)
  (nx : Cut Q7lw Qb03 7 [.ptr 0 0,.ptr 1 0,.ptr 2 0,.int .i64 ((i + 1 : Nat) : Int)] [.box [.sl .kind ks,.sl .point ps,.sl .entry es2],.box [.nils,.nils,.nils],.box [.own 3 [] 0,.own 4 [] 0,.own 5 [] 0],.row .kind ks 0 0 0 .no,.row .point ps 0 0 0 .no,.row .entry (mgAt es es2 (i + 1) 0) 1 0 0 .no] res H') : ∀ (d k : Nat),k + d = (es2.getD i (dfltP .entry)).fields.length →
  Cut Q7lw Qb03 10 [.ptr 0 0,.ptr 1 0,.ptr 2 0,.int .i64 (i : Int),.int .i64 (k : Int)] [.box [.sl .kind ks,.sl .point ps,.sl .entry es2],.box [.nils,.nils,.nils],.box [.own 3 [] 0,.own 4 [] 0,.own 5 [] 0],.row .kind ks 0 0 0 .no,.row .point ps 0 0 0 .no,.row .entry (mgAt es es2 i k) 1 0 0 .no] res H':=by
 have hx : es2.getD (i : Int).toNat (Q7lw.C.dflt .entry) = es2.getD i (dfltP .entry):=rfl
 have hin : inb (i : Int) es2.length = true:=by simp only [inb,qaT,qdT]; omega
 have hl2 : es2.length ≤ 12:=by simp only [goodE,qaT] at hb; exact (Qm34 hb.1).1
 have hw : IntKind.wrap .i64 ((i : Int) + 1) = ((i + 1 : Nat) : Int):=by rw [Qbrg] <;> omega
 have hf5 : (es2.getD i (dfltP .entry)).fields.length ≤ 5:=by
  simp only [goodE,qaT] at hb
  have e : es2.getD i (dfltP .entry) = es2[i]:=by simp [hi]
  rw [e]; exact (Qm34 hb.1).2 _ (List.getElem_mem hi)
 have hbo : Qn0o ks ps es = true ∧ Qn0o ks ps es2 = true:=by
  simp only [goodE,qaT] at ha hb; exact ⟨ha.1,hb.1⟩
 intro d
 induction d with
 | zero =>
  intro k hk
  refine Cut.of Qzc2 rfl (Qkf3 i k ks ps es2 ks ps _) ?_
  rw [hin,hx,show decide ((k : Int) < ((es2.getD i (dfltP .entry)).fields.length : Int)) = false from decide_eq_false (by omega),hw,Qw1j hi (by omega)]
  exact Sat.cut nx
 | succ d ih =>
  intro k hk
  refine Cut.of Qzc2 rfl (Qkf3 i k ks ps es2 ks ps _) ?_
  have hlt : k < (es2.getD i (dfltP .entry)).fields.length:=by omega
  have hf : (es2.getD i (dfltP .entry)).fields.getD (k : Int).toNat (Q7lw.C.dflt .fld) = (es2.getD i (dfltP .entry)).fields.getD k (dfltP .fld):=rfl
  have hwk : IntKind.wrap .i64 ((k : Int) + 1) = ((k + 1 : Nat) : Int):=by rw [Qbrg] <;> omega
  have hik : inb (k : Int) (es2.getD i (dfltP .entry)).fields.length = true:=by simp only [inb,qaT,qdT]; omega
  have hlo : decide ((k : Int) < ((es2.getD i (dfltP .entry)).fields.length : Int)) = true:=decide_eq_true (by omega)
  have hp:=Qsz7 (es2.getD i (dfltP .entry)).name ((es2.getD i (dfltP .entry)).fields.getD k (dfltP .fld)) (Qozu es2 i k (Qwk3 hbo.1)).1
  rw [Q4jp hlt] at hp
  rw [hin,hx,hf,hlo,hik,Qohh (Q7xc hbo.1 hbo.2 i k),hwk,hp]
  exact Sat.cut (ih (k + 1) (by omega))
theorem Qnlz (ks : List Kind) (ps : List Point) (es es2 : List Entry) (ha : goodE ks ps es = true) (hb : goodE ks ps es2 = true) : ∀ (d i : Nat),i + d = es2.length → Cut Q7lw Qb03 7 [.ptr 0 0,.ptr 1 0,.ptr 2 0,.int .i64 (i : Int)] [.box [.sl .kind ks,.sl .point ps,.sl .entry es2],.box [.nils,.nils,.nils],.box [.own 3 [] 0,.own 4 [] 0,.own 5 [] 0],.row .kind ks 0 0 0 .no,.row .point ps 0 0 0 .no,.row .entry (mgAt es es2 i 0) 1 0 0 .no] (.tup [.agg [.own 0 [] 0,.own 1 [] 0,.own 2 [] 0],.int .i64 (Qjop ks ps es ks ps es2).code]) [.row .kind (Qjop ks ps es ks ps es2).ks 0 0 0 .no,.row .point (Qjop ks ps es ks ps es2).ps 0 0 0 .no,.row .entry (Qjop ks ps es ks ps es2).es 1 0 0 .no]:=by
 have hbo : Qn0o ks ps es = true ∧ Qn0o ks ps es2 = true:=by
  simp only [goodE,qaT] at ha hb; exact ⟨ha.1,hb.1⟩
 intro d
 induction d with
 | zero =>
  intro i hi
  obtain rfl : i = es2.length:=by omega
  refine Cut.of Qzc2 rfl (Qq94 _ ks ps es2 ks ps _) ?_
  rw [decide_eq_false (Int.lt_irrefl _),Qbtf]
  by_cases h : (mgS es es2).length ≤ 12
  ·obtain ⟨q,_⟩:=Q8k1 ha hb h (l:=chgs es2) (fun c hc=>hc) rfl
   simp only [goodE,goodB,qaT] at q
   rw [Qrsb hbo.1 hbo.2 h,decide_eq_false (show ¬ ((mgS es es2).length : Int) > 12 by omega),q.2.2]
   exact Sat.ret rfl rfl
  ·rw [Q5l7 hbo.1 hbo.2 h,decide_eq_true (show ((mgS es es2).length : Int) > 12 by omega)]
   exact Sat.ret rfl rfl
 | succ d ih =>
  intro i hi
  refine Cut.of Qzc2 rfl (Qq94 _ ks ps es2 ks ps _) ?_
  rw [decide_eq_true (show (i : Int) < (es2.length : Int) by omega)]
  exact Sat.cut (Qiau ks ps es es2 ha hb _ _ i (by omega) (ih (i + 1) (by omega)) _ 0 (Nat.zero_add _))
theorem Qbpf (ks : List Kind) (ps : List Point) (es : List Entry) (ks2 : List Kind) (ps2 : List Point) (es2 : List Entry) (hg : mgK ks ps es ks2 ps2 es2 = true) : Qewq Tryz.prog CP Qb03 [.agg [.sl .kind ks,.sl .point ps,.sl .entry es],.agg [.sl .kind ks2,.sl .point ps2,.sl .entry es2]] [] (.tup [.agg [.own 0 [] 0,.own 1 [] 0,.own 2 [] 0],.int .i64 (Qjop ks ps es ks2 ps2 es2).code]) [.row .kind (Qjop ks ps es ks2 ps2 es2).ks 0 0 0 .no,.row .point (Qjop ks ps es ks2 ps2 es2).ps 0 0 0 .no,.row .entry (Qjop ks ps es ks2 ps2 es2).es 1 0 0 .no]:=by
 refine Qewq.of Qzc2 (by kernel_rfl) (Qjbq ks ps es ks2 ps2 es2) ?_
 simp only [mgK,qaT] at hg
 obtain ⟨g1,g2⟩:=hg
 have a1:=g1
 have a2:=g2
 simp only [goodB,Q8cx,Q6lz,Qjyp,qaT,qdT,and_true] at a1 a2
 have ht : Q8cx ks ps es = true:=by simp only [goodB,qaT] at g1; exact g1.2
 rw [a1.1,a2.1,ht,decide_eq_true a1.2.1,decide_eq_true a1.2.2.1]
 simp only [Qd8q,Bool.and_self]
 by_cases h1 : Qn0o ks ps es = true
 case neg =>
  rw [Qd1f (fun h=>h1 h.1),show Qn0o ks ps es = false by simpa using h1]
  exact Sat.ret rfl rfl
 by_cases h2 : Qn0o ks2 ps2 es2 = true
 case neg =>
  rw [Qd1f (fun h=>h2 h.2),h1,show Qn0o ks2 ps2 es2 = false by simpa using h2]
  exact Sat.ret rfl rfl
 rw [h1,h2]
 simp only [Bool.not_true,Qk7y]
 by_cases e1 : ks = ks2
 case neg =>
  rw [Qx92 h1 h2 (fun h=>e1 h.1),decide_eq_false e1]
  exact Sat.ret rfl rfl
 by_cases e2 : ps = ps2
 case neg =>
  rw [Qx92 h1 h2 (fun h=>e2 h.2),decide_eq_true e1,decide_eq_false e2]
  exact Sat.ret rfl rfl
 subst e1
 subst e2
 simp only [decide_true,Bool.and_self,Bool.not_true,Qk7y]
 exact Sat.cut (by have:=Qnlz ks ps es es2 (by rw [goodE,h1,g1]; rfl) (by rw [goodE,h2,g2]; rfl) es2.length 0 (Nat.zero_add _); rw [Qyo9] at this; exact this)
theorem Qyq0 : EntOK Tryz.prog CP Qb03 Q7dj:=by
 refine ⟨eob (by kernel_rfl),fun _ _ _ _ h=>?_⟩
 simp only [Q7dj] at h
 split at h
 ·obtain ⟨hg,rfl,rfl⟩:=eoh h
  exact Qbpf _ _ _ _ _ _ hg
 ·cases h

noncomputable def Q5i4 : RE Ty El:=⟨Tryz.prog,CP,[(Qaev,Qjv4),(Qd84,Q7d2),(Qikb,Qs83),(Qlpu,Q2gg),(Qg00,Q7p0)],Tryz.f52,0,[.agg [.own .kind,.own .point,.own .entry],.any],[(7,[(4,.any),(6,.any),(42,.any),(43,.any),(44,.any)]),(10,[(4,.any),(6,.any),(8,.any),(42,.any),(43,.any),(44,.any),(49,.any),(50,.any),(51,.any)])]⟩
theorem Qc5f : REOK Q5i4 Qqd1:=⟨CP_ok,(TabOK.cons Qwza (TabOK.cons Qt0y (TabOK.cons Q24n (TabOK.cons Qusr (TabOK.cons Qtc1 Qye1))))),by kernel_rfl,by kernel_rfl⟩
theorem Q5tg (ks : List Kind) (ps : List Point) (es : List Entry) (ks2 : List Kind) (ps2 : List Point) (es2 : List Entry) : aRun Q5i4 600 false (body0 Q5i4.fn) (Q4gm Q5i4.fn [.agg [.sl .kind ks,.sl .point ps,.sl .entry es],.agg [.sl .kind ks2,.sl .point ps2,.sl .entry es2]] []) =
 ifb (szB es) (ifb (!Qn0o ks ps es) (some (.ret (.tup [.agg [.own 0 [] 0,.own 1 [] 0,.own 2 [] 0],.int .i64 1]) [.row .kind [] 0 0 0 .no,.row .point [] 0 0 0 .no,.row .entry [] 1 0 0 .no])) (ifb (szB es2) (ifb (!Qn0o ks2 ps2 es2) (some (.ret (.tup [.agg [.own 0 [] 0,.own 1 [] 0,.own 2 [] 0],.int .i64 1]) [.row .kind [] 0 0 0 .no,.row .point [] 0 0 0 .no,.row .entry [] 1 0 0 .no])) (ifb (decide (ks.length ≤ (1000000000 : Nat))) (ifb (!decide (ks = ks2)) (some (.ret (.tup [.agg [.own 0 [] 0,.own 1 [] 0,.own 2 [] 0],.int .i64 2]) [.row .kind [] 0 0 0 .no,.row .point [] 0 0 0 .no,.row .entry [] 1 0 0 .no])) (ifb (decide (ps.length ≤ (1000000000 : Nat))) (ifb (!decide (ps = ps2)) (some (.ret (.tup [.agg [.own 0 [] 0,.own 1 [] 0,.own 2 [] 0],.int .i64 2]) [.row .kind [] 0 0 0 .no,.row .point [] 0 0 0 .no,.row .entry [] 1 0 0 .no])) (ifb (Q8cx ks ps es) (some (.go (Qu6t Q5i4.fn 7) [.ptr 0 0,.ptr 1 0,.sl .entry es2,.int .i64 (↑es2.length : Int),.int .i64 0] [.box [.nils,.nils,.nils],.box [.own 2 [] 0,.own 3 [] 0,.own 4 [] 0],.row .kind ks 0 0 0 .no,.row .point ps 0 0 0 .no,.row .entry es 1 0 0 .no])) (none))) (none))) (none))) (none))) (none):=by kernel_rfl
theorem Qjba (x0 : List (El .entry)) (x1 : Int) (x2 : Int) (x3 : List (El .kind)) (x4 : List (El .point)) (x5 : List (El .entry)) : aRun Q5i4 600 true (Qu6t Q5i4.fn 7) (cutSt Q5i4.fn (Q1m4 Q5i4 (Qu6t Q5i4.fn 7)) [.ptr 0 0,.ptr 1 0,.sl .entry x0,.int .i64 x1,.int .i64 x2] [.box [.nils,.nils,.nils],.box [.own 2 [] 0,.own 3 [] 0,.own 4 [] 0],.row .kind x3 0 0 0 .no,.row .point x4 0 0 0 .no,.row .entry x5 1 0 0 .no]) =
 ifb (decide (x2 < x1)) (ifb (inb x2 x0.length) (some (.go (Qu6t Q5i4.fn 10) [.ptr 0 0,.ptr 1 0,.ptr 5 0,.sl .entry x0,.int .i64 x1,.int .i64 x2,.sl .fld ((x0.getD x2.toNat (Q5i4.C.dflt Ty.entry)).fields),.int .i64 ((↑(x0.getD x2.toNat (Q5i4.C.dflt Ty.entry)).fields.length : Int)),.int .i64 0] [.box [.nils,.nils,.nils],.box [.own 2 [] 0,.own 3 [] 0,.own 4 [] 0],.row .kind x3 0 0 0 .no,.row .point x4 0 0 0 .no,.row .entry x5 1 0 0 .no,.box [.str ((x0.getD x2.toNat (Q5i4.C.dflt Ty.entry)).name),.sl .fld ((x0.getD x2.toNat (Q5i4.C.dflt Ty.entry)).fields)]])) (none)) (some (.ret (.tup [.agg [.own 0 [] 0,.own 1 [] 0,.own 2 [] 0],.int .i64 0]) [.row .kind x3 0 0 0 .no,.row .point x4 0 0 0 .no,.row .entry x5 1 0 0 .no])):=by kernel_rfl
theorem Qe5a (x0 : List (El .entry)) (x1 : Int) (x2 : Int) (x3 : List (El .fld)) (x4 : Int) (x5 : Int) (x6 : List (El .kind)) (x7 : List (El .point)) (x8 : List (El .entry)) (x9 : Str) (x10 : List (El .fld)) : aRun Q5i4 600 true (Qu6t Q5i4.fn 10) (cutSt Q5i4.fn (Q1m4 Q5i4 (Qu6t Q5i4.fn 10)) [.ptr 0 0,.ptr 1 0,.ptr 5 0,.sl .entry x0,.int .i64 x1,.int .i64 x2,.sl .fld x3,.int .i64 x4,.int .i64 x5] [.box [.nils,.nils,.nils],.box [.own 2 [] 0,.own 3 [] 0,.own 4 [] 0],.row .kind x6 0 0 0 .no,.row .point x7 0 0 0 .no,.row .entry x8 1 0 0 .no,.box [.str x9,.sl .fld x10]]) =
 ifb (decide (x5 < x4)) (ifb (inb x5 x3.length) (ifb (layK x6 x7 x8 (x3.getD x5.toNat (Q5i4.C.dflt Ty.fld)).what) (ifb (!layB x8 x9) (some (.ret (.tup [.agg [.own 0 [] 0,.own 1 [] 0,.own 2 [] 0],.int .i64 3]) [.row .kind [] 0 0 0 .no,.row .point [] 0 0 0 .no,.row .entry [] 1 0 0 .no])) (some (.go (Qu6t Q5i4.fn 10) [.ptr 0 0,.ptr 1 0,.ptr 5 0,.sl .entry x0,.int .i64 x1,.int .i64 x2,.sl .fld x3,.int .i64 x4,.int .i64 (IntKind.i64.wrap (x5 + 1))] [.box [.nils,.nils,.nils],.box [.own 2 [] 0,.own 3 [] 0,.own 4 [] 0],.row .kind x6 0 0 0 .no,.row .point x7 0 0 0 .no,.row .entry (layF x8 x9 (x3.getD x5.toNat (Q5i4.C.dflt Ty.fld))) 1 0 0 .no,.box [.str x9,.sl .fld x10]]))) (none)) (none)) (some (.go (Qu6t Q5i4.fn 7) [.ptr 0 0,.ptr 1 0,.sl .entry x0,.int .i64 x1,.int .i64 (IntKind.i64.wrap (x2 + 1))] [.box [.nils,.nils,.nils],.box [.own 2 [] 0,.own 3 [] 0,.own 4 [] 0],.row .kind x6 0 0 0 .no,.row .point x7 0 0 0 .no,.row .entry x8 1 0 0 .no])):=by kernel_rfl
theorem Q7qp (ks : List Kind) (ps : List Point) (es es2 : List Entry) (ha : goodE ks ps es = true) (hb : goodE ks ps es2 = true) (i : Nat) (hi : i < es2.length)
  (nx : mgI es (preL es2 (i + 1) 0) = some (mgAt es es2 (i + 1) 0) → Cut Q5i4 Qqd1 7 [.ptr 0 0,.ptr 1 0,.sl .entry es2,.int .i64 (es2.length : Int),.int .i64 ((i + 1 : Nat) : Int)] [.box [.nils,.nils,.nils],.box [.own 2 [] 0,.own 3 [] 0,.own 4 [] 0],.row .kind ks 0 0 0 .no,.row .point ps 0 0 0 .no,.row .entry (mgAt es es2 (i + 1) 0) 1 0 0 .no] (.tup [.agg [.own 0 [] 0,.own 1 [] 0,.own 2 [] 0],.int .i64 (Qjop ks ps es ks ps es2).code]) [.row .kind (Qjop ks ps es ks ps es2).ks 0 0 0 .no,.row .point (Qjop ks ps es ks ps es2).ps 0 0 0 .no,.row .entry (Qjop ks ps es ks ps es2).es 1 0 0 .no]) : ∀ (d k : Nat),k + d = (es2.getD i (dfltP .entry)).fields.length → mgI es (preL es2 i k) = some (mgAt es es2 i k) →
  Cut Q5i4 Qqd1 10 [.ptr 0 0,.ptr 1 0,.ptr 5 0,.sl .entry es2,.int .i64 (es2.length : Int),.int .i64 (i : Int),.sl .fld (es2.getD i (dfltP .entry)).fields,.int .i64 ((es2.getD i (dfltP .entry)).fields.length : Int),.int .i64 (k : Int)] [.box [.nils,.nils,.nils],.box [.own 2 [] 0,.own 3 [] 0,.own 4 [] 0],.row .kind ks 0 0 0 .no,.row .point ps 0 0 0 .no,.row .entry (mgAt es es2 i k) 1 0 0 .no,.box [.str (es2.getD i (dfltP .entry)).name,.sl .fld (es2.getD i (dfltP .entry)).fields]] (.tup [.agg [.own 0 [] 0,.own 1 [] 0,.own 2 [] 0],.int .i64 (Qjop ks ps es ks ps es2).code]) [.row .kind (Qjop ks ps es ks ps es2).ks 0 0 0 .no,.row .point (Qjop ks ps es ks ps es2).ps 0 0 0 .no,.row .entry (Qjop ks ps es ks ps es2).es 1 0 0 .no]:=by
 have hx : es2.getD (i : Int).toNat (Q5i4.C.dflt .entry) = es2.getD i (dfltP .entry):=rfl
 have hin : inb (i : Int) es2.length = true:=by simp only [inb,qaT,qdT]; omega
 have hl2 : es2.length ≤ 12:=by simp only [goodE,qaT] at hb; exact (Qm34 hb.1).1
 have hw : IntKind.wrap .i64 ((i : Int) + 1) = ((i + 1 : Nat) : Int):=by rw [Qbrg] <;> omega
 have hf5 : (es2.getD i (dfltP .entry)).fields.length ≤ 5:=by
  simp only [goodE,qaT] at hb
  have e : es2.getD i (dfltP .entry) = es2[i]:=by simp [hi]
  rw [e]; exact (Qm34 hb.1).2 _ (List.getElem_mem hi)
 have hbo : Qn0o ks ps es = true ∧ Qn0o ks ps es2 = true:=by
  simp only [goodE,qaT] at ha hb; exact ⟨ha.1,hb.1⟩
 intro d
 induction d with
 | zero =>
  intro k hk hI
  refine Cut.of Qc5f rfl (Qe5a es2 _ i _ _ k ks ps _ _ _) ?_
  have e:=Qw1j (a:=es) hi (show (es2.getD i (dfltP .entry)).fields.length ≤ k by omega)
  rw [Q2j0 hi (by omega),e] at hI
  rw [show decide ((k : Int) < ((es2.getD i (dfltP .entry)).fields.length : Int)) = false from decide_eq_false (by omega),hw,e]
  exact Sat.cut (nx hI)
 | succ d ih =>
  intro k hk hI
  refine Cut.of Qc5f rfl (Qe5a es2 _ i _ _ k ks ps _ _ _) ?_
  have hlt : k < (es2.getD i (dfltP .entry)).fields.length:=by omega
  have hf : (es2.getD i (dfltP .entry)).fields.getD (k : Int).toNat (Q5i4.C.dflt .fld) = (es2.getD i (dfltP .entry)).fields.getD k (dfltP .fld):=rfl
  have hwk : IntKind.wrap .i64 ((k : Int) + 1) = ((k + 1 : Nat) : Int):=by rw [Qbrg] <;> omega
  have hik : inb (k : Int) (es2.getD i (dfltP .entry)).fields.length = true:=by simp only [inb,qaT,qdT]; omega
  have hlo : decide ((k : Int) < ((es2.getD i (dfltP .entry)).fields.length : Int)) = true:=decide_eq_true (by omega)
  obtain ⟨hg,hy,hn⟩:=Qa6v ha hb hi hlt hI
  have hc:=(Qef7 hbo.2 _ (Qidl hi hlt)).2
  have hlk : layK ks ps (mgAt es es2 i k) ((es2.getD i (dfltP .entry)).fields.getD k (dfltP .fld)).what = true:=Q0yy hg hc
  rw [hlo,hik,hf,hwk,hlk]
  cases hB : layB (mgAt es es2 i k) (es2.getD i (dfltP .entry)).name with
  | true =>
   obtain ⟨h1,h2⟩:=hy hB
   have h1' : layF (mgAt es es2 i k) (es2.getD i (dfltP .entry)).name ((es2.getD i (dfltP .entry)).fields.getD k (dfltP .fld)) = mgAt es es2 i (k + 1):=h1
   rw [h1']
   exact Sat.cut (ih (k + 1) (by omega) h2)
  | false =>
   rw [Q5l7 hbo.1 hbo.2 (hn hB)]
   exact Sat.ret rfl rfl
theorem Qsz6 (ks : List Kind) (ps : List Point) (es es2 : List Entry) (ha : goodE ks ps es = true) (hb : goodE ks ps es2 = true) : ∀ (d i : Nat),i + d = es2.length → mgI es (preL es2 i 0) = some (mgAt es es2 i 0) → Cut Q5i4 Qqd1 7 [.ptr 0 0,.ptr 1 0,.sl .entry es2,.int .i64 (es2.length : Int),.int .i64 (i : Int)] [.box [.nils,.nils,.nils],.box [.own 2 [] 0,.own 3 [] 0,.own 4 [] 0],.row .kind ks 0 0 0 .no,.row .point ps 0 0 0 .no,.row .entry (mgAt es es2 i 0) 1 0 0 .no] (.tup [.agg [.own 0 [] 0,.own 1 [] 0,.own 2 [] 0],.int .i64 (Qjop ks ps es ks ps es2).code]) [.row .kind (Qjop ks ps es ks ps es2).ks 0 0 0 .no,.row .point (Qjop ks ps es ks ps es2).ps 0 0 0 .no,.row .entry (Qjop ks ps es ks ps es2).es 1 0 0 .no]:=by
 have hbo : Qn0o ks ps es = true ∧ Qn0o ks ps es2 = true:=by
  simp only [goodE,qaT] at ha hb; exact ⟨ha.1,hb.1⟩
 intro d
 induction d with
 | zero =>
  intro i hi hI
  obtain rfl : i = es2.length:=by omega
  refine Cut.of Qc5f rfl (Qjba es2 _ _ ks ps _) ?_
  rw [Qi46,Qbtf,Ql15 (Qwk3 hbo.1) (Qm34 hbo.1).1] at hI
  have h : (mgS es es2).length ≤ 12:=by
   by_cases h : (mgS es es2).length ≤ 12
   ·exact h
   ·rw [if_neg (show ¬ ((chgs es2).foldl putC es).length ≤ 12 from h)] at hI; cases hI
  rw [decide_eq_false (Int.lt_irrefl _),Qbtf,Qrsb hbo.1 hbo.2 h]
  exact Sat.ret rfl rfl
 | succ d ih =>
  intro i hi hI
  refine Cut.of Qc5f rfl (Qjba es2 _ i ks ps _) ?_
  have hin : inb (i : Int) es2.length = true:=by simp only [inb,qaT,qdT]; omega
  rw [decide_eq_true (show (i : Int) < (es2.length : Int) by omega),hin]
  exact Sat.cut (Q7qp ks ps es es2 ha hb i (by omega) (fun h=>ih (i + 1) (by omega) h) _ 0 (Nat.zero_add _) hI)
theorem Q2m6 (ks : List Kind) (ps : List Point) (es : List Entry) (ks2 : List Kind) (ps2 : List Point) (es2 : List Entry) (hg : mgK ks ps es ks2 ps2 es2 = true) : Qewq Tryz.prog CP Qqd1 [.agg [.sl .kind ks,.sl .point ps,.sl .entry es],.agg [.sl .kind ks2,.sl .point ps2,.sl .entry es2]] [] (.tup [.agg [.own 0 [] 0,.own 1 [] 0,.own 2 [] 0],.int .i64 (Qjop ks ps es ks2 ps2 es2).code]) [.row .kind (Qjop ks ps es ks2 ps2 es2).ks 0 0 0 .no,.row .point (Qjop ks ps es ks2 ps2 es2).ps 0 0 0 .no,.row .entry (Qjop ks ps es ks2 ps2 es2).es 1 0 0 .no]:=by
 refine Qewq.of Qc5f (by kernel_rfl) (Q5tg ks ps es ks2 ps2 es2) ?_
 simp only [mgK,qaT] at hg
 obtain ⟨g1,g2⟩:=hg
 have a1:=g1
 have a2:=g2
 simp only [goodB,Q8cx,Q6lz,Qjyp,qaT,qdT,and_true] at a1 a2
 have ht : Q8cx ks ps es = true:=by simp only [goodB,qaT] at g1; exact g1.2
 rw [a1.1,a2.1,ht,decide_eq_true a1.2.1,decide_eq_true a1.2.2.1]
 simp only [Qd8q,Bool.and_self]
 by_cases h1 : Qn0o ks ps es = true
 case neg =>
  rw [Qd1f (fun h=>h1 h.1),show Qn0o ks ps es = false by simpa using h1]
  exact Sat.ret rfl rfl
 by_cases h2 : Qn0o ks2 ps2 es2 = true
 case neg =>
  rw [Qd1f (fun h=>h2 h.2),h1,show Qn0o ks2 ps2 es2 = false by simpa using h2]
  exact Sat.ret rfl rfl
 rw [h1,h2]
 simp only [Bool.not_true,Qk7y]
 by_cases e1 : ks = ks2
 case neg =>
  rw [Qx92 h1 h2 (fun h=>e1 h.1),decide_eq_false e1]
  exact Sat.ret rfl rfl
 by_cases e2 : ps = ps2
 case neg =>
  rw [Qx92 h1 h2 (fun h=>e2 h.2),decide_eq_true e1,decide_eq_false e2]
  exact Sat.ret rfl rfl
 subst e1
 subst e2
 simp only [decide_true,Bool.and_self,Bool.not_true,Qk7y]
 exact Sat.cut (by have:=Qsz6 ks ps es es2 (by rw [goodE,h1,g1]; rfl) (by rw [goodE,h2,g2]; rfl) es2.length 0 (Nat.zero_add _) (by rw [Q5on,Qyo9]; rfl); rw [Qyo9] at this; exact this)
theorem Qg6m : EntOK Tryz.prog CP Qqd1 Q1mq:=by
 refine ⟨eob (by kernel_rfl),fun _ _ _ _ h=>?_⟩
 simp only [Q1mq,Q7dj] at h
 split at h
 ·obtain ⟨hg,rfl,rfl⟩:=eoh h
  exact Q2m6 _ _ _ _ _ _ hg
 ·cases h
end Lx
namespace Lx
open Go Go.Proofs
structure TkD where
 ks : List Kind
 ps : List Point
 es : List Entry
 c : Chg
 deriving Inhabited
end Lx
namespace Lx
open Go Go.Proofs
end Lx
namespace Lx
open Go Go.Proofs
end Lx
namespace Lx
open Go Go.Proofs
end Lx
namespace Lx
open Go Go.Proofs
noncomputable def Qzij (bs : List Int) (p : Int) (ks : List Kind) (ps : List Point) (m : Int) : ChgsP:=drawn (fun x=>Qewq Tryz.prog CP Q43w [.ptr 0 0,.agg [.sl .kind ks,.sl .point ps],.int .i64 m] [.box [.sl .u8 bs,.int .i64 p]] (.own 1 [] 0) [.box [.sl .u8 bs,.int .i64 x.p],.row .chg x.l 0 0 0 .no] ∧ Q4tv p x)
noncomputable def Qhq9 : Ent Ty El:=⟨[.io,.ro,.ro],1,fun a h=>match a,h with
 | [.ptr 0 0,.agg [.sl .kind ks,.sl .point ps],.int .i64 m],[.box [.sl .u8 bs,.int .i64 p]]=>some (chgsK bs p ks ps m,.own 1 [] 0,[.box [.sl .u8 bs,.int .i64 (Qzij bs p ks ps m).p],.row .chg (Qzij bs p ks ps m).l 0 0 0 .no])
 | _,_=>none⟩
structure TaD where
 ks : List Kind
 ps : List Point
 es : List Entry
 l : List Chg
 deriving Inhabited
def Qq0a (x : TaD) : Prop:=goodS x.ks x.ps x.es = true ∧ x.l.length ≤ 24 ∧ x.l.all (fun c=>szV c.value) = true
noncomputable def Qzux (c : List Int) : TaD:=drawn (fun x=>Qewq Tryz.prog CP Qr6y [.sl .u8 c] [] (.tup [.agg [.sl .kind x.ks,.sl .point x.ps,.sl .entry x.es],.sl .chg x.l]) [] ∧ Qq0a x)
noncomputable def Qsrq : Ent Ty El:=⟨[.ro],0,fun a h=>match a,h with
 | [.sl .u8 c],[]=>some (Qf9o c,.tup [.agg [.sl .kind (Qzux c).ks,.sl .point (Qzux c).ps,.sl .entry (Qzux c).es],.sl .chg (Qzux c).l],[])
 | _,_=>none⟩
end Lx
namespace Lx
open Go Go.Proofs
noncomputable def Qoz1 : RE Ty El:=⟨Tryz.prog,CP,[(Qpxs,Q7v2),(Qhy2,Qiyn)],Tryz.f150,1,[.own .chg],[(3,[(0,.any),(4,.any),(7,.any),(8,.any)])]⟩
theorem Qss7 : REOK Qoz1 Q43w:=⟨CP_ok,(TabOK.cons Q0e7 (TabOK.cons Q3dh Qye1)),by kernel_rfl,by kernel_rfl⟩
theorem Qnb3 (bs : List Int) (p : Int) (ks : List Kind) (ps : List Point) (m : Int) : aRun Qoz1 600 false (body0 Qoz1.fn) (Q4gm Qoz1.fn [.ptr 0 0,.agg [.sl .kind ks,.sl .point ps],.int .i64 m] [.box [.sl .u8 bs,.int .i64 p]]) =
 ifb (posOk p) (some (.go (Qu6t Qoz1.fn 3) [.ptr 0 0,.ptr 1 0,.own 2 [] 0,.int .i64 (pickV bs p m)] [.box [.sl .u8 bs,.int .i64 (p + 1)],.box [.sl .kind ks,.sl .point ps],.row .chg [] 0 0 0 .no])) (none):=by kernel_rfl
theorem Q08h (x0 : Int) (x1 : List (El .u8)) (x2 : Int) (x3 : List (El .kind)) (x4 : List (El .point)) (x5 : List (El .chg)) : aRun Qoz1 600 true (Qu6t Qoz1.fn 3) (cutSt Qoz1.fn (Q1m4 Qoz1 (Qu6t Qoz1.fn 3)) [.ptr 0 0,.ptr 1 0,.own 2 [] 0,.int .i64 x0] [.box [.sl .u8 x1,.int .i64 x2],.box [.sl .kind x3,.sl .point x4],.row .chg x5 0 0 0 .no]) =
 ifb (decide (x0 > 0)) (ifb (chgK x1 x2 x3 x4) (ifb (decide ((x5.length + [(dChg x1 x2 x3 x4).c].length) * Qbhn Qoz1.P (51 : Nat) ≤ (140737488355328 : Nat))) (some (.go (Qu6t Qoz1.fn 3) [.ptr 0 0,.ptr 1 0,.own 2 [] 0,.int .i64 (IntKind.i64.wrap (x0 - 1))] [.box [.sl .u8 x1,.int .i64 ((dChg x1 x2 x3 x4).p)],.box [.sl .kind x3,.sl .point x4],.row .chg (x5 ++ [(dChg x1 x2 x3 x4).c]) 0 0 0 .no])) (none)) (none)) (some (.ret (.own 1 [] 0) [.box [.sl .u8 x1,.int .i64 x2],.row .chg x5 0 0 0 .no])):=by kernel_rfl
theorem Qu6v (bs : List Int) (ks : List Kind) (ps : List Point) (hbs : Qf9o bs = true) (hb : Qib4 ks ps = true) (h1 : 1 ≤ ps.length) : ∀ (d : Nat) (l : List Chg) (q : Int),0 ≤ q → q + 30 * d ≤ 890000 → l.length + d ≤ 24 → l.all (fun c=>szV c.value) = true →
  CutE Qoz1 Q43w 3 [.ptr 0 0,.ptr 1 0,.own 2 [] 0,.int .i64 (d : Int)] [.box [.sl .u8 bs,.int .i64 q],.box [.sl .kind ks,.sl .point ps],.row .chg l 0 0 0 .no] (fun v h=>∃ x : ChgsP,v = .own 1 [] 0 ∧ h = [.box [.sl .u8 bs,.int .i64 x.p],.row .chg x.l 0 0 0 .no] ∧ x.l.length ≤ 24 ∧ x.l.all (fun c=>szV c.value) = true ∧ q ≤ x.p ∧ x.p ≤ q + 30 * d):=by
 have hbb : Qbhn Qoz1.P 51 ≤ 256:=of_decide_eq_true (by kernel_rfl)
 intro d
 induction d with
 | zero =>
  intro l q h0 hq hl hz
  refine CutE.of Qss7 rfl (Q08h (0 : Nat) bs q ks ps l) ?_
  exact SatE.ret ⟨⟨l,q⟩,rfl,rfl,by simpa using hl,hz,by simp,by simp⟩
 | succ d ih =>
  intro l q h0 hq hl hz
  refine CutE.of Qss7 rfl (Q08h ((d + 1 : Nat) : Int) bs q ks ps l) ?_
  have hw : IntKind.i64.wrap (((d + 1 : Nat) : Int) - 1) = (d : Int):=by rw [Qbrg] <;> omega
  have hc : chgK bs q ks ps = true:=by simp only [chgK,qaT,qdT]; exact ⟨hbs,h0,by omega,(Qd1y hb).1,(Qd1y hb).2,h1⟩
  obtain ⟨c1,c2,c3⟩:=(Qnhc bs q ks ps hc).2
  rw [show decide (((d + 1 : Nat) : Int) > 0) = true from decide_eq_true (by omega),hc,hw]
  simp only [Qd8q]
  refine SatE.need (Q1mk hbb (by simp; omega)) (SatE.mono (SatE.cut (ih (l ++ [(dChg bs q ks ps).c]) (dChg bs q ks ps).p (by omega) (by omega) (by simp; omega) (by rw [List.all_append,hz]; simpa using c1))) ?_)
  rintro v h ⟨x,rfl,rfl,a1,a2,a3,a4⟩
  exact ⟨x,rfl,rfl,a1,a2,by omega,by omega⟩
theorem Qa0k (bs : List Int) (p : Int) (ks : List Kind) (ps : List Point) (m : Int) (hg : chgsK bs p ks ps m = true) : Qewq Tryz.prog CP Q43w [.ptr 0 0,.agg [.sl .kind ks,.sl .point ps],.int .i64 m] [.box [.sl .u8 bs,.int .i64 p]] (.own 1 [] 0) [.box [.sl .u8 bs,.int .i64 (Qzij bs p ks ps m).p],.row .chg (Qzij bs p ks ps m).l 0 0 0 .no] ∧ Q4tv p (Qzij bs p ks ps m):=by
 simp only [chgsK,qaT,qdT] at hg
 obtain ⟨hbs,h0,h9,hb,h1,hm,hm2⟩:=hg
 have hE : CallE Qoz1.P Qoz1.C Q43w [.ptr 0 0,.agg [.sl .kind ks,.sl .point ps],.int .i64 m] [.box [.sl .u8 bs,.int .i64 p]] (fun v h=>∃ x : ChgsP,v = .own 1 [] 0 ∧ h = [.box [.sl .u8 bs,.int .i64 x.p],.row .chg x.l 0 0 0 .no] ∧ Q4tv p x):=by
  refine CallE.of Qss7 (by kernel_rfl) (Qnb3 bs p ks ps m) ?_
  obtain ⟨a1,a2⟩:=Q5va (n:=m) hbs (Q8s4 (q:=p) (by omega) (by omega)) hm
  refine SatE.need (Q8s4 (by omega) (by omega)) ?_
  obtain ⟨d,hd⟩:=Int.eq_ofNat_of_zero_le a1
  rw [hd]
  refine SatE.mono (SatE.cut (Qu6v bs ks ps hbs hb h1 d [] (p + 1) (by omega) (by omega) (by simp; omega) rfl)) ?_
  rintro v h ⟨x,rfl,rfl,b1,b2,b3,b4⟩
  exact ⟨x,rfl,rfl,b1,b2,by omega,by omega⟩
 obtain ⟨v,H',h,x,rfl,rfl,hx⟩:=hE
 unfold Qzij
 exact Qk78 (p:=fun x : ChgsP=>Qewq Tryz.prog CP Q43w [.ptr 0 0,.agg [.sl .kind ks,.sl .point ps],.int .i64 m] [.box [.sl .u8 bs,.int .i64 p]] (.own 1 [] 0) [.box [.sl .u8 bs,.int .i64 x.p],.row .chg x.l 0 0 0 .no] ∧ Q4tv p x) ⟨x,h,hx⟩
theorem Qed6 (bs : List Int) (p : Int) (ks : List Kind) (ps : List Point) (m : Int) (hg : chgsK bs p ks ps m = true) : Qewq Tryz.prog CP Q43w [.ptr 0 0,.agg [.sl .kind ks,.sl .point ps],.int .i64 m] [.box [.sl .u8 bs,.int .i64 p]] (.own 1 [] 0) [.box [.sl .u8 bs,.int .i64 (Qzij bs p ks ps m).p],.row .chg (Qzij bs p ks ps m).l 0 0 0 .no]:=by
 exact (Qa0k bs p ks ps m hg).1
theorem Qvnu : EntOK Tryz.prog CP Q43w Qhq9:=by
 refine ⟨eob (by kernel_rfl),fun _ _ _ _ h=>?_⟩
 simp only [Qhq9] at h
 split at h
 ·obtain ⟨hg,rfl,rfl⟩:=eoh h
  exact Qed6 _ _ _ _ _ hg
 ·cases h

noncomputable def Qk3p : RE Ty El:=⟨Tryz.prog,CP,[(Qajm,Qqtq),(Qwua,Qu46),(Q604,Qnfe),(Q43w,Qhq9),(Qpxs,Q7v2),(Qpj2,Qxsi),(Qvef,Qsb4)],Tryz.f58,0,[.agg [.ro .kind,.ro .point,.ro .entry],.ro .chg],[(6,[(2,.any),(4,.any),(6,.any),(7,.any),(8,.any)])]⟩
theorem Q4ni : REOK Qk3p Qr6y:=⟨CP_ok,(TabOK.cons Q3w2 (TabOK.cons Ql5k (TabOK.cons Qtpw (TabOK.cons Qvnu (TabOK.cons Q0e7 (TabOK.cons Qie6 (TabOK.cons Qql7 Qye1))))))),by kernel_rfl,by kernel_rfl⟩
theorem Q1p3 (c : List Int) : aRun Qk3p 600 false (body0 Qk3p.fn) (Q4gm Qk3p.fn [.sl .u8 c] []) =
 ifb (rdK (List.take (2000 : Nat) c) (0 : Int)) (ifb (bkK (List.take (2000 : Nat) c) (dBase (List.take (2000 : Nat) c) (0 : Int)).p (dBase (List.take (2000 : Nat) c) (0 : Int)).ks (dBase (List.take (2000 : Nat) c) (0 : Int)).ps) (ifb (chgsK (List.take (2000 : Nat) c) (dBook (List.take (2000 : Nat) c) (dBase (List.take (2000 : Nat) c) (0 : Int)).p (dBase (List.take (2000 : Nat) c) (0 : Int)).ks (dBase (List.take (2000 : Nat) c) (0 : Int)).ps).p (dBase (List.take (2000 : Nat) c) (0 : Int)).ks (dBase (List.take (2000 : Nat) c) (0 : Int)).ps (20 : Int)) (some (.go (Qu6t Qk3p.fn 6) [.ptr 0 0,.ptr 1 0,.ptr 2 0,.own 3 [] 0,.int .i64 0] [.box [.nils,.nils,.nils],.box [.sl .u8 (List.take (2000 : Nat) c),.int .i64 ((Qzij (List.take (2000 : Nat) c) (dBook (List.take (2000 : Nat) c) (dBase (List.take (2000 : Nat) c) (0 : Int)).p (dBase (List.take (2000 : Nat) c) (0 : Int)).ks (dBase (List.take (2000 : Nat) c) (0 : Int)).ps).p (dBase (List.take (2000 : Nat) c) (0 : Int)).ks (dBase (List.take (2000 : Nat) c) (0 : Int)).ps (20 : Int)).p)],.box [.sl .kind ((dBase (List.take (2000 : Nat) c) (0 : Int)).ks),.sl .point ((dBase (List.take (2000 : Nat) c) (0 : Int)).ps),.sl .entry ((dBook (List.take (2000 : Nat) c) (dBase (List.take (2000 : Nat) c) (0 : Int)).p (dBase (List.take (2000 : Nat) c) (0 : Int)).ks (dBase (List.take (2000 : Nat) c) (0 : Int)).ps).es)],.row .chg ((Qzij (List.take (2000 : Nat) c) (dBook (List.take (2000 : Nat) c) (dBase (List.take (2000 : Nat) c) (0 : Int)).p (dBase (List.take (2000 : Nat) c) (0 : Int)).ks (dBase (List.take (2000 : Nat) c) (0 : Int)).ps).p (dBase (List.take (2000 : Nat) c) (0 : Int)).ks (dBase (List.take (2000 : Nat) c) (0 : Int)).ps (20 : Int)).l) 0 0 0 .no])) (none)) (none)) (none):=by kernel_rfl
theorem Qthj (x0 : Int) (x1 : List (El .u8)) (x2 : Int) (x3 : List (El .kind)) (x4 : List (El .point)) (x5 : List (El .entry)) (x6 : List (El .chg)) : aRun Qk3p 600 true (Qu6t Qk3p.fn 6) (cutSt Qk3p.fn (Q1m4 Qk3p (Qu6t Qk3p.fn 6)) [.ptr 0 0,.ptr 1 0,.ptr 2 0,.own 3 [] 0,.int .i64 x0] [.box [.nils,.nils,.nils],.box [.sl .u8 x1,.int .i64 x2],.box [.sl .kind x3,.sl .point x4,.sl .entry x5],.row .chg x6 0 0 0 .no]) =
 ifb (decide (x0 < (↑x6.length : Int))) (ifb (posOk x2) (ifb (pickV x1 x2 (12 : Int) == (0 : Int)) (ifb (inb x0 x6.length) (ifb (spcK x1 (x2 + 1) (x6.getD x0.toNat (Qk3p.C.dflt Ty.chg)).value) (ifb (inb x0 x6.length) (some (.go (Qu6t Qk3p.fn 6) [.ptr 0 0,.ptr 1 0,.ptr 2 0,.own 3 [] 0,.int .i64 (IntKind.i64.wrap (x0 + 1))] [.box [.nils,.nils,.nils],.box [.sl .u8 x1,.int .i64 ((dSpC x1 (x2 + 1) (x6.getD x0.toNat (Qk3p.C.dflt Ty.chg))).p)],.box [.sl .kind x3,.sl .point x4,.sl .entry x5],.row .chg (x6.set x0.toNat (dSpC x1 (x2 + 1) (x6.getD x0.toNat (Qk3p.C.dflt Ty.chg))).c) 0 0 0 .no])) (none)) (none)) (none)) (some (.go (Qu6t Qk3p.fn 6) [.ptr 0 0,.ptr 1 0,.ptr 2 0,.own 3 [] 0,.int .i64 (IntKind.i64.wrap (x0 + 1))] [.box [.nils,.nils,.nils],.box [.sl .u8 x1,.int .i64 (x2 + 1)],.box [.sl .kind x3,.sl .point x4,.sl .entry x5],.row .chg x6 0 0 0 .no]))) (none)) (ifb (posOk x2) (ifb (pickV x1 x2 (20 : Int) == (0 : Int)) (ifb (slK x1 (x2 + 1) x3 x4 x5) (some (.ret (.tup [.agg [.sl .kind ((Qkav x1 (x2 + 1) x3 x4 x5).ks),.sl .point ((Qkav x1 (x2 + 1) x3 x4 x5).ps),.sl .entry ((Qkav x1 (x2 + 1) x3 x4 x5).es)],.sl .chg x6]) [])) (none)) (some (.ret (.tup [.agg [.sl .kind x3,.sl .point x4,.sl .entry x5],.sl .chg x6]) []))) (none)):=by kernel_rfl
theorem Qjqh (bs : List Int) (ks : List Kind) (ps : List Point) (es : List Entry) (hbs : Qf9o bs = true) (h1 : 1 ≤ ks.length) (h2 : 1 ≤ ps.length) (h3 : goodE ks ps es = true) : ∀ (d i : Nat) (l : List Chg) (q : Int),i + d = l.length → 0 ≤ q → q + 40 * d ≤ 860000 → l.length ≤ 24 → l.all (fun c=>szV c.value) = true →
  CutE Qk3p Qr6y 6 [.ptr 0 0,.ptr 1 0,.ptr 2 0,.own 3 [] 0,.int .i64 (i : Int)] [.box [.nils,.nils,.nils],.box [.sl .u8 bs,.int .i64 q],.box [.sl .kind ks,.sl .point ps,.sl .entry es],.row .chg l 0 0 0 .no] (fun v h=>∃ x : TaD,v = (.tup [.agg [.sl .kind x.ks,.sl .point x.ps,.sl .entry x.es],.sl .chg x.l]) ∧ h = [] ∧ Qq0a x):=by
 intro d
 induction d with
 | zero =>
  intro i l q hi h0 hq h24 hz
  refine CutE.of Q4ni rfl (Qthj i bs q ks ps es l) ?_
  rw [show decide ((i : Int) < (l.length : Int)) = false from decide_eq_false (by omega)]
  have hs : slK bs (q + 1) ks ps es = true:=by simp only [slK,qaT,qdT]; exact ⟨hbs,by omega,by omega,h1,h2,h3⟩
  obtain ⟨d1,d2,d3⟩:=(Qzxv bs (q + 1) ks ps es hs).2
  exact SatE.need (Q8s4 (by omega) (by omega)) (SatE.ifb (fun _=>SatE.need hs (SatE.ret ⟨⟨_,_,_,l⟩,rfl,rfl,d1,h24,hz⟩)) (fun _=>SatE.ret ⟨⟨_,_,_,l⟩,rfl,rfl,Qj7a h3,h24,hz⟩))
 | succ d ih =>
  intro i l q hi h0 hq h24 hz
  refine CutE.of Q4ni rfl (Qthj i bs q ks ps es l) ?_
  have hlt : i < l.length:=by omega
  have hw : IntKind.wrap .i64 ((i : Int) + 1) = ((i + 1 : Nat) : Int):=by rw [Qbrg] <;> omega
  have hx : l.getD (i : Int).toNat (Qk3p.C.dflt .chg) = l[i]:=by simp [hlt]
  have hin : inb (i : Int) l.length = true:=by simp only [inb,qaT,qdT]; omega
  have hlo : decide ((i : Int) < (l.length : Int)) = true:=decide_eq_true (by omega)
  rw [hlo,hin,hx,hw]
  simp only [Qd8q]
  have hv : szV l[i].value = true:=qlA.1 hz l[i] (List.getElem_mem hlt)
  refine SatE.need (Q8s4 (by omega) (by omega)) (SatE.ifb (fun _=>?_) (fun _=>?_))
  ·have hk : spcK bs (q + 1) l[i].value = true:=by simp only [spcK,qaT,qdT]; exact ⟨hbs,by omega,by omega,hv⟩
   obtain ⟨d1,d2,d3⟩:=(Qz1w bs (q + 1) l[i].flight l[i].what l[i].number l[i].value hk).2
   rw [show (⟨l[i].flight,l[i].what,l[i].number,l[i].value⟩ : Chg) = l[i] from rfl] at d1 d2 d3
   refine SatE.need hk (SatE.cut (ih (i + 1) _ _ (by simp; omega) (by omega) (by omega) (by simpa using h24) ?_))
   rw [qlA] at hz ⊢
   intro x hxm
   rcases List.mem_or_eq_of_mem_set hxm with h | h
   ·exact hz x h
   ·subst h; exact d1
  ·exact SatE.cut (ih (i + 1) l (q + 1) (by omega) (by omega) (by omega) h24 hz)
theorem Qs6v (c : List Int) (hg : Qf9o c = true) : Qewq Tryz.prog CP Qr6y [.sl .u8 c] [] (.tup [.agg [.sl .kind (Qzux c).ks,.sl .point (Qzux c).ps,.sl .entry (Qzux c).es],.sl .chg (Qzux c).l]) [] ∧ Qq0a (Qzux c):=by
 have hbs:=Qz2g hg 2000
 have hr : rdK (c.take 2000) 0 = true:=by simp only [rdK,qaT,qdT]; exact ⟨hbs,by omega,by omega⟩
 obtain ⟨b1,b2,b3,b4,b5⟩:=(Q46n (c.take 2000) 0 hr).2
 have hE : CallE Qk3p.P Qk3p.C Qr6y [.sl .u8 c] [] (fun v h=>∃ x : TaD,v = (.tup [.agg [.sl .kind x.ks,.sl .point x.ps,.sl .entry x.es],.sl .chg x.l]) ∧ h = [] ∧ Qq0a x):=by
  refine CallE.of Q4ni (by kernel_rfl) (Q1p3 c) ?_
  generalize dBase (c.take 2000) 0 = z at *
  have hk : bkK (c.take 2000) z.p z.ks z.ps = true:=by simp only [bkK,qaT,qdT]; exact ⟨hbs,by omega,by omega,b1,b3⟩
  obtain ⟨c1,c2,c3⟩:=(Q4mo (c.take 2000) z.p z.ks z.ps hk).2
  generalize dBook (c.take 2000) z.p z.ks z.ps = y at *
  have hc : chgsK (c.take 2000) y.p z.ks z.ps 20 = true:=by simp only [chgsK,qaT,qdT]; exact ⟨hbs,by omega,by omega,b1,b3,by omega,by omega⟩
  obtain ⟨d1,d2,d3,d4⟩:=(Qa0k (c.take 2000) y.p z.ks z.ps 20 hc).2
  generalize Qzij (c.take 2000) y.p z.ks z.ps 20 = x at *
  exact SatE.need hr (SatE.need hk (SatE.need hc (SatE.cut (Qjqh (c.take 2000) z.ks z.ps y.es hbs b2 b3 c1 x.l.length 0 x.l x.p (by omega) (by omega) (by omega) d1 d2))))
 obtain ⟨v,H',h,x,rfl,rfl,hx⟩:=hE
 unfold Qzux
 exact Qk78 (p:=fun x : TaD=>Qewq Tryz.prog CP Qr6y [.sl .u8 c] [] (.tup [.agg [.sl .kind x.ks,.sl .point x.ps,.sl .entry x.es],.sl .chg x.l]) [] ∧ Qq0a x) ⟨x,h,hx⟩
theorem Qpdb (c : List Int) (hg : Qf9o c = true) : Qewq Tryz.prog CP Qr6y [.sl .u8 c] [] (.tup [.agg [.sl .kind (Qzux c).ks,.sl .point (Qzux c).ps,.sl .entry (Qzux c).es],.sl .chg (Qzux c).l]) []:=by
 exact (Qs6v c hg).1
theorem Q9p5 : EntOK Tryz.prog CP Qr6y Qsrq:=by
 refine ⟨eob (by kernel_rfl),fun _ _ _ _ h=>?_⟩
 simp only [Qsrq] at h
 split at h
 ·obtain ⟨hg,rfl,rfl⟩:=eoh h
  exact Qpdb _ hg
 ·cases h
end Lx
