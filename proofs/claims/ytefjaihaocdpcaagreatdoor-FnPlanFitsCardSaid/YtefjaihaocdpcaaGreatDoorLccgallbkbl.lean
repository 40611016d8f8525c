/- Numbers read; lists of numbers. -/
import Derived.Lib.Bytealg
import Derived.Sort.Statements
import Derived.Shelf.GgSortFunc.InsertionK
import Derived.Shelf.SlSortCmp.Insertion
import Derived.Lib.Walk
import Derived.Lib.ItoaNum
import Derived.Shelf.LaysM
import Derived.Shelf.Strconv.Itoa3
import Derived.Shelf.Strconv.Clone
import Derived.Shelf.Strings.Search3
import Derived.Test.YtefjaihaocdpcaaGreatDoorProg
import Derived.KernelRfl
import Derived.Lib.IndexLaws
import Derived.Test.YtefjaihaocdpcaaGreatDoorLhilejdmacj
set_option linter.unusedVariables false
set_option linter.unusedSimpArgs false
set_option maxRecDepth 4000
namespace Lx
open Go Go.Proofs
noncomputable def Qhnv : RE Ty El:=⟨Tryz.prog,CP,[(Q409,Q028),(Q6ji,Qrl7)],Tryz.f104,0,[],[]⟩
theorem Qmyy : REOK Qhnv Q8l1:=⟨CP_ok,(TabOK.cons Qgq4 (TabOK.cons Qabz Qye1)),by kernel_rfl,by kernel_rfl⟩
theorem Qqay (s : Str) (m : Int) : aRun Qhnv 600 false (body0 Qhnv.fn) (Q4gm Qhnv.fn [.str s,.int .i64 m] []) =
 ifb (s == #[].toList) (some (.ret (.tup [.int .i64 0,.bool false]) [])) (ifb (decide ((↑(List.length s) : Int) > m)) (some (.ret (.tup [.int .i64 0,.bool false]) [])) (ifb (decide (#[(48 : UInt8),(49 : UInt8),(50 : UInt8),(51 : UInt8),(52 : UInt8),(53 : UInt8),(54 : UInt8),(55 : UInt8),(56 : UInt8),(57 : UInt8)].toList = Qy27) && (decide ((0 : Nat) < List.length s) && szS s)) (ifb (!Lib.trimS s Qy27 == #[].toList) (some (.ret (.tup [.int .i64 0,.bool false]) [])) (ifb (inb (0 : Int) (List.length s)) (ifb ((↑(List.getD s (Int.toNat (0 : Int)) (0 : UInt8)).toNat : Int) == (48 : Int)) (ifb (!s == #[(48 : UInt8)].toList) (some (.ret (.tup [.int .i64 0,.bool false]) [])) (ifb (decide (List.length s ≤ (18 : Nat)) && (Lib.atoi s).isSome) (some (.ret (.tup [.int .i64 ((Lib.atoi s).getD (0 : Int)),.bool true]) [])) (none))) (ifb (decide (List.length s ≤ (18 : Nat)) && (Lib.atoi s).isSome) (some (.ret (.tup [.int .i64 ((Lib.atoi s).getD (0 : Int)),.bool true]) [])) (none))) (none))) (none))):=by kernel_rfl
theorem Qxag (s : Str) (m : Int) (hg : decide (m = 7) = true) : Qewq Tryz.prog CP Q8l1 [.str s,.int .i64 m] [] (.tup [.int .i64 (decV s),.bool (decB s)]) []:=by
 refine Qewq.of Qmyy (by kernel_rfl) (Qqay s m) ?_
 have hm : m = 7:=of_decide_eq_true hg
 subst hm
 have no : numF s = -1 → Sat Qhnv Q8l1 (.tup [.int .i64 (decV s),.bool (decB s)]) [] (some (.ret (.tup [.int .i64 (0 : Int),.bool false]) [])):=fun h=>by
  refine Sat.ret ?_ rfl
  simp [decV,decB,h]
  decide
 have hdig : decide (#[(48 : UInt8),49,50,51,52,53,54,55,56,57].toList = Qy27) = true:=rfl
 rw [hdig]
 by_cases h0 : s = []
 ·subst h0
  exact no rfl
 ·have hl0 : 0 < s.length:=List.length_pos_iff.2 h0
  have e0 : (s == #[].toList) = false:=by simpa using h0
  rw [e0]
  simp only [Qk7y]
  by_cases h7 : s.length ≤ 7
  ·have hz : szS s = true:=decide_eq_true (by omega)
   rw [decide_eq_false (by omega),decide_eq_true hl0,hz,Qm0m]
   simp only [Qk7y,Bool.and_self,Qd8q]
   cases hd : s.all isDig with
   | false =>
    refine no ?_
    unfold numF
    by_cases hc : 1 ≤ s.length ∧ s.length ≤ 7 ∧ ¬ (1 < s.length ∧ ((s.getD 0 0).toNat : Int) = 48)
    ·rw [if_pos hc,Qz12 hd]
    ·rw [if_neg hc]
   | true =>
    have hat:=Qf1l hl0 hd
    have hg0:=Qk3r hd
    have hin : inb (0 : Int) s.length = true:=by simp only [inb,qaT,qdT]; omega
    have h18 : (decide (s.length ≤ 18) && (Lib.atoi s).isSome) = true:=by rw [hat,decide_eq_true (by omega)]; rfl
    have yes : ¬ (1 < s.length ∧ ((s.getD 0 0).toNat : Int) = 48) → Sat Qhnv Q8l1 (.tup [.int .i64 (decV s),.bool (decB s)]) [] (some (.ret (.tup [.int .i64 ((Lib.atoi s).getD (0 : Int)),.bool true]) [])):=fun h=>by
     have hn : numF s = numGo 0 s:=by unfold numF; rw [if_pos ⟨hl0,h7,h⟩]
     refine Sat.ret ?_ rfl
     rw [hat]
     have e1 : decV s = numGo 0 s:=by unfold decV; rw [hn]; omega
     have e2 : decB s = true:=by unfold decB; rw [hn]; exact decide_eq_true hg0
     rw [e1,e2]; rfl
    rw [hin,h18]
    simp only [Bool.not_true,Qk7y,Qd8q]
    have ez : s.getD (Int.toNat 0) 0 = s.getD 0 0:=rfl
    rw [ez]
    by_cases hz0 : ((s.getD 0 0).toNat : Int) = 48
    ·rw [hz0]
     simp only [beq_self_eq_true,Qd8q]
     by_cases h1 : 1 < s.length
     ·have hne : (s == #[(48 : UInt8)].toList) = false:=by
       apply beq_eq_false_iff_ne.2
       intro e
       rw [e] at h1; simp at h1
      rw [hne]
      refine no ?_
      unfold numF
      rw [if_neg (fun hc=>hc.2.2 ⟨h1,hz0⟩)]
     ·have hne : (s == #[(48 : UInt8)].toList) = true:=by
       cases s with
       | nil=>simp at hl0
       | cons b t =>
        have ht : t = []:=List.eq_nil_of_length_eq_zero (by simp only [List.length_cons] at h1; omega)
        subst ht
        have : b = 48:=UInt8.toNat_inj.1 (by have : ((b.toNat : Nat) : Int) = 48:=hz0; show b.toNat = 48; omega)
        subst this; rfl
      rw [hne]
      exact yes (fun hc=>h1 hc.1)
    ·rw [beq_eq_false_iff_ne.2 hz0]
     exact yes (fun hc=>hz0 hc.2)
  ·rw [decide_eq_true (by omega)]
   refine no ?_
   unfold numF
   rw [if_neg (by omega)]
theorem Qbi7 : EntOK Tryz.prog CP Q8l1 Q18u:=by
 refine ⟨eob (by kernel_rfl),fun _ _ _ _ h=>?_⟩
 simp only [Q18u] at h
 split at h
 ·obtain ⟨hg,rfl,rfl⟩:=eoh h
  exact Qxag _ _ hg
 ·cases h

noncomputable def Qhfx : RE Ty El:=⟨Tryz.prog,CP,[(Q8l1,Q18u)],Tryz.f167,0,[.ro .int,.any],[(3,[(1,.any),(6,.any),(11,.any),(12,.any),(13,.any)])]⟩
theorem Qker : REOK Qhfx Q0gt:=⟨CP_ok,(TabOK.cons Qbi7 Qye1),by kernel_rfl,by kernel_rfl⟩
theorem Qu7l (w : List Str) (m : Int) : aRun Qhfx 600 false (body0 Qhfx.fn) (Q4gm Qhfx.fn [.sl .str w,.int .i64 m] []) =
 some (.go (Qu6t Qhfx.fn 3) [.int .i64 m,.own 0 [] 0,.sl .str w,.int .i64 (↑w.length : Int),.int .i64 0] [.row .int [] 0 0 0 .no]):=by kernel_rfl
theorem Qfs1 (x0 : Int) (x1 : List (El .str)) (x2 : Int) (x3 : Int) (x4 : List (El .int)) : aRun Qhfx 600 true (Qu6t Qhfx.fn 3) (cutSt Qhfx.fn (Q1m4 Qhfx (Qu6t Qhfx.fn 3)) [.int .i64 x0,.own 0 [] 0,.sl .str x1,.int .i64 x2,.int .i64 x3] [.row .int x4 0 0 0 .no]) =
 ifb (decide (x3 < x2)) (ifb (inb x3 x1.length) (ifb (decide (x0 = (7 : Int))) (ifb (!decB (x1.getD x3.toNat (Qhfx.C.dflt Ty.str))) (some (.ret (.tup [.sl .int [],.bool false]) [])) (ifb (decide ((x4.length + [decV (x1.getD x3.toNat (Qhfx.C.dflt Ty.str))].length) * Qbhn Qhfx.P (3 : Nat) ≤ (140737488355328 : Nat))) (some (.go (Qu6t Qhfx.fn 3) [.int .i64 x0,.own 0 [] 0,.sl .str x1,.int .i64 x2,.int .i64 (IntKind.i64.wrap (x3 + 1))] [.row .int (x4 ++ [decV (x1.getD x3.toNat (Qhfx.C.dflt Ty.str))]) 0 0 0 .no])) (none))) (none)) (none)) (some (.ret (.tup [.sl .int x4,.bool true]) [])):=by kernel_rfl
theorem Qjoa (w : List Str) (hw : w.length ≤ 2000000000) : ∀ (d i : Nat),i + d = w.length → (w.take i).all decB = true → Cut Qhfx Q0gt 3 [.int .i64 7,.own 0 [] 0,.sl .str w,.int .i64 (w.length : Int),.int .i64 (i : Int)] [.row .int ((w.take i).map decV) 0 0 0 .no] (.tup [.sl .int (decsV w),.bool (w.all decB)]) []:=by
 intro d
 have hb : Qbhn Qhfx.P 3 = 8:=by kernel_rfl
 induction d with
 | zero =>
  intro i hi ha
  refine Cut.of Qker rfl (Qfs1 7 w w.length i _) ?_
  rw [decide_eq_false (by omega)]
  have : w.take i = w:=List.take_of_length_le (by omega)
  rw [this] at ha ⊢
  refine Sat.ret ?_ rfl
  unfold decsV
  rw [if_pos ha,ha]
 | succ d ih =>
  intro i hi ha
  refine Cut.of Qker rfl (Qfs1 7 w w.length i _) ?_
  have hlt : i < w.length:=by omega
  have hwr : IntKind.wrap .i64 ((i : Int) + 1) = ((i + 1 : Nat) : Int):=by rw [Qbrg] <;> omega
  have hx : w.getD (i : Int).toNat (Qhfx.C.dflt .str) = w[i]:=by simp [hlt]
  have hin : inb (i : Int) w.length = true:=by simp only [inb,qaT,qdT]; omega
  have htk:=qtS hlt
  have hroom : decide ((((w.take i).map decV).length + [decV w[i]].length) * 8 ≤ 140737488355328) = true:=decide_eq_true (by simp; omega)
  rw [decide_eq_true (by omega),hin,hx,hwr,hb,hroom,show decide ((7 : Int) = 7) = true from rfl]
  simp only [Qd8q]
  cases hd : decB w[i] with
  | false =>
   have : w.all decB = false:=by
    apply Bool.eq_false_iff.2
    intro h
    have:=qlA.1 h w[i] (List.getElem_mem hlt)
    rw [hd] at this; cases this
   refine Sat.ret ?_ rfl
   unfold decsV
   rw [this]; rfl
  | true =>
   have:=ih (i + 1) (by omega) (by rw [htk,List.all_append,ha]; simp [hd])
   rw [htk,List.map_append] at this
   exact Sat.cut this
theorem Qlk2 (w : List Str) (m : Int) (hg : (decide (m = 7) && decide (w.length ≤ 2000000000)) = true) : Qewq Tryz.prog CP Q0gt [.sl .str w,.int .i64 m] [] (.tup [.sl .int (decsV w),.bool (w.all decB)]) []:=by
 refine Qewq.of Qker (by kernel_rfl) (Qu7l w m) ?_
 simp only [qaT,qdT] at hg
 obtain ⟨rfl,hw⟩:=hg
 exact Sat.cut (Qjoa w hw w.length 0 (by omega) rfl)
theorem Q6fz : EntOK Tryz.prog CP Q0gt Qroy:=by
 refine ⟨eob (by kernel_rfl),fun _ _ _ _ h=>?_⟩
 simp only [Qroy] at h
 split at h
 ·obtain ⟨hg,rfl,rfl⟩:=eoh h
  exact Qlk2 _ _ hg
 ·cases h
end Lx
namespace Lx
open Go Go.Proofs
def ptOf (ps : List Point) (n : Str) : Point:=ps.getD (Qigq ps n).toNat (dfltP .point)
def Q51t (ps : List Point) (w : List Str) : List Point:=if Qyhl ps w then w.map (ptOf ps) else []
def Qbsc : Ent Ty El:=⟨[.ro,.ro],0,fun a h=>match a,h with
 | [.agg [.sl .kind ks,.sl .point ps],.sl .str w],[]=>some (decide (ps.length < 1000000000),.tup [.sl .point (Q51t ps w),.bool (Qyhl ps w)],[])
 | _,_=>none⟩
def Qmiz : Ent Ty El:=⟨[.ro,.ro,.ro],0,fun a h=>match a,h with
 | [.agg [.sl .kind ks,.sl .point ps],.int .i64 what,.str v],[]=>some (szV v && (decide (ks.length < 1000000000) && decide (ps.length < 1000000000)),.bool (fitsV ks ps what v),[])
 | _,_=>none⟩
def Qna9 : Ent Ty El:=⟨[.ro,.ro],0,fun a h=>match a,h with
 | [.agg [.sl .kind ks,.sl .point ps],.agg [.str fl,.int .i64 what,.int .i64 num,.str v]],[]=>some (szV v && (decide (ks.length < 1000000000) && decide (ps.length < 1000000000)),.bool (Qh2h ks ps fl what num v),[])
 | _,_=>none⟩
def Qwxf : Ent Ty El:=Quoo
def Qjv4 : Ent Ty El:=Q124
theorem Qtox (c : Int) : ∀ s : Str,(cutS c s).length ≤ s.length + 1
 | []=>by simp [cutS]
 | b :: s=>by
  have:=Qtox c s
  simp only [cutS]
  split
  ·simp; omega
  ·split
   ·simp
   ·rename_i w ws h
    rw [h] at this
    simp at this ⊢; omega
theorem Qrzz {ks : List Kind} {ps : List Point} (h : Qib4 ks ps = true) : ks.length ≤ 6 ∧ ps.length ≤ 16:=by
 simp only [Qib4,qaT,qdT] at h
 exact ⟨h.1,h.2.1⟩
theorem Qxkm {ks : List Kind} {ps : List Point} {n : Str} {prev : Option Int} {f : Fld} {fs : List Fld} : Qt03 ks ps n prev (f :: fs) = (Qh2h ks ps n f.what f.number f.value && ((match prev with | none=>true | some q=>decide (q < f.what)) && Qt03 ks ps n (some f.what) fs)):=by cases prev <;> rfl
theorem Qvuh {ks : List Kind} {ps : List Point} {e : Entry} (h : ¬ e.fields.length = 0) : Q7i7 ks ps e = Qt03 ks ps e.name none e.fields:=by
 unfold Q7i7
 rw [decide_eq_false h]
 cases hf : e.fields with
 | nil=>rw [hf] at h; simp at h
 | cons f fs =>
  simp only [Qt03,Qh2h,Bool.not_false,Bool.true_and]
  cases Q2rq e.name <;> simp
end Lx
namespace Lx
open Go Go.Proofs
noncomputable def Qe0d : RE Ty El:=⟨Tryz.prog,CP,[(Qn2h,Q0vx),(Q8ie,Q4q8)],Tryz.f121,0,[.ro .point,.any],[(5,[(1,.any),(2,.any),(6,.any),(14,.any),(15,.any),(16,.any)])]⟩
theorem Qtsk : REOK Qe0d Qwtz:=⟨CP_ok,(TabOK.cons Qfgu (TabOK.cons Q5yh Qye1)),by kernel_rfl,by kernel_rfl⟩
theorem Qwrn (ks : List Kind) (ps : List Point) (w : List Str) : aRun Qe0d 600 false (body0 Qe0d.fn) (Q4gm Qe0d.fn [.agg [.sl .kind ks,.sl .point ps],.sl .str w] []) =
 ifb (!inR (↑w.length : Int) (2 : Int) (8 : Int)) (some (.ret (.tup [.sl .point [],.bool false]) [])) (some (.go (Qu6t Qe0d.fn 5) [.sl .str w,.ptr 0 0,.own 1 [] 0,.sl .str w,.int .i64 (↑w.length : Int),.int .i64 0] [.box [.sl .kind ks,.sl .point ps],.row .point [] 0 0 0 .no])):=by kernel_rfl
theorem Qpoy (x0 : List (El .str)) (x1 : List (El .str)) (x2 : Int) (x3 : Int) (x4 : List (El .kind)) (x5 : List (El .point)) (x6 : List (El .point)) : aRun Qe0d 600 true (Qu6t Qe0d.fn 5) (cutSt Qe0d.fn (Q1m4 Qe0d (Qu6t Qe0d.fn 5)) [.sl .str x0,.ptr 0 0,.own 1 [] 0,.sl .str x1,.int .i64 x2,.int .i64 x3] [.box [.sl .kind x4,.sl .point x5],.row .point x6 0 0 0 .no]) =
 ifb (decide (x3 < x2)) (ifb (inb x3 x1.length) (ifb (decide (x5.length < (1000000000 : Nat))) (ifb (decide (idxF (fun p=>p.name == x1.getD x3.toNat (Qe0d.C.dflt Ty.str)) x5 < 0)) (some (.ret (.tup [.sl .point [],.bool false]) [])) (ifb (decide (x3 > 0)) (ifb (inb (IntKind.i64.wrap (x3 - 1)) x0.length) (ifb (x1.getD x3.toNat (Qe0d.C.dflt Ty.str) == x0.getD (IntKind.i64.wrap (x3 - 1)).toNat (Qe0d.C.dflt Ty.str)) (some (.ret (.tup [.sl .point [],.bool false]) [])) (ifb (inb (idxF (fun p=>p.name == x1.getD x3.toNat (Qe0d.C.dflt Ty.str)) x5) x5.length) (ifb (decide ((x6.length + [x5.getD (idxF (fun p=>p.name == x1.getD x3.toNat (Qe0d.C.dflt Ty.str)) x5).toNat (Qe0d.C.dflt Ty.point)].length) * Qbhn Qe0d.P (160 : Nat) ≤ (140737488355328 : Nat))) (some (.go (Qu6t Qe0d.fn 5) [.sl .str x0,.ptr 0 0,.own 1 [] 0,.sl .str x1,.int .i64 x2,.int .i64 (IntKind.i64.wrap (x3 + 1))] [.box [.sl .kind x4,.sl .point x5],.row .point (x6 ++ [x5.getD (idxF (fun p=>p.name == x1.getD x3.toNat (Qe0d.C.dflt Ty.str)) x5).toNat (Qe0d.C.dflt Ty.point)]) 0 0 0 .no])) (none)) (none))) (none)) (ifb (inb (idxF (fun p=>p.name == x1.getD x3.toNat (Qe0d.C.dflt Ty.str)) x5) x5.length) (ifb (decide ((x6.length + [x5.getD (idxF (fun p=>p.name == x1.getD x3.toNat (Qe0d.C.dflt Ty.str)) x5).toNat (Qe0d.C.dflt Ty.point)].length) * Qbhn Qe0d.P (160 : Nat) ≤ (140737488355328 : Nat))) (some (.go (Qu6t Qe0d.fn 5) [.sl .str x0,.ptr 0 0,.own 1 [] 0,.sl .str x1,.int .i64 x2,.int .i64 (IntKind.i64.wrap (x3 + 1))] [.box [.sl .kind x4,.sl .point x5],.row .point (x6 ++ [x5.getD (idxF (fun p=>p.name == x1.getD x3.toNat (Qe0d.C.dflt Ty.str)) x5).toNat (Qe0d.C.dflt Ty.point)]) 0 0 0 .no])) (none)) (none)))) (none)) (none)) (some (.ret (.tup [.sl .point x6,.bool true]) [])):=by kernel_rfl
theorem Qf4k (ks : List Kind) (ps : List Point) (w : List Str) (hps : ps.length < 1000000000) (hw8 : inR w.length 2 8 = true) : ∀ (d i : Nat),i + d = w.length → Qyhl ps w = Qyf3 ps (w.take i).getLast? (w.drop i) →
  Cut Qe0d Qwtz 5 [.sl .str w,.ptr 0 0,.own 1 [] 0,.sl .str w,.int .i64 (w.length : Int),.int .i64 (i : Int)] [.box [.sl .kind ks,.sl .point ps],.row .point ((w.take i).map (ptOf ps)) 0 0 0 .no] (.tup [.sl .point (Q51t ps w),.bool (Qyhl ps w)]) []:=by
 intro d
 have hb : Qbhn Qe0d.P 160 = 32:=by kernel_rfl
 have hw9 : w.length ≤ 8:=by simp only [inR,qaT,qdT] at hw8; omega
 induction d with
 | zero =>
  intro i hi hr
  refine Cut.of Qtsk rfl (Qpoy w w w.length i ks ps _) ?_
  rw [decide_eq_false (by omega)]
  have e : w.take i = w:=List.take_of_length_le (by omega)
  rw [List.drop_of_length_le (by omega)] at hr
  have hr' : Qyhl ps w = true:=hr
  refine Sat.ret ?_ rfl
  rw [e,Q51t,if_pos hr',hr']
 | succ d ih =>
  intro i hi hr
  refine Cut.of Qtsk rfl (Qpoy w w w.length i ks ps _) ?_
  have hlt : i < w.length:=by omega
  have hw : IntKind.wrap .i64 ((i : Int) + 1) = ((i + 1 : Nat) : Int):=by rw [Qbrg] <;> omega
  have hw1 : IntKind.wrap .i64 ((i : Int) - 1) = (i : Int) - 1:=by rw [Qbrg] <;> omega
  have hd : w.drop i = w[i] :: w.drop (i + 1):=qdC hlt
  have hx : w.getD (i : Int).toNat (Qe0d.C.dflt .str) = w[i]:=by simp [hlt]
  have hin : inb (i : Int) w.length = true:=by simp only [inb,qaT,qdT]; omega
  have hlo : decide ((i : Int) < (w.length : Int)) = true:=decide_eq_true (by omega)
  have htk:=qtS hlt
  have hl : (w.take (i + 1)).getLast? = some w[i]:=by rw [qtS hlt,qlC]
  have no : Qyhl ps w = false → Sat Qe0d Qwtz (.tup [.sl .point (Q51t ps w),.bool (Qyhl ps w)]) [] (some (.ret (.tup [.sl .point [],.bool false]) [])):=fun h=>by
   refine Sat.ret ?_ rfl
   rw [Q51t,h]; rfl
  have hroom : decide ((((w.take i).map (ptOf ps)).length + [ps.getD (idxF (fun p=>p.name == w[i]) ps).toNat (Qe0d.C.dflt .point)].length) * 32 ≤ 140737488355328) = true:=decide_eq_true (by simp; omega)
  rw [hlo,hin,hx,hw,hw1,hb,hroom,decide_eq_true hps]
  simp only [Qd8q]
  rw [hd,Qyf3] at hr
  have hpi : idxF (fun p=>p.name == w[i]) ps = Qigq ps w[i]:=rfl
  rw [hpi]
  by_cases hp0 : Qigq ps w[i] < 0
  ·rw [decide_eq_true hp0]
   rw [decide_eq_true hp0] at hr
   exact no (by rw [hr]; rfl)
  ·rw [decide_eq_false hp0]
   rw [decide_eq_false hp0] at hr
   have hlt2:=Q1mf (p:=fun q : Point=>q.name == w[i]) (l:=ps)
   have hinp : inb (Qigq ps w[i]) ps.length = true:=by
    simp only [inb,qaT,qdT]
    have : Qigq ps w[i] = idxF (fun q : Point=>q.name == w[i]) ps:=rfl
    omega
   rw [hinp]
   simp only [Qk7y,Qd8q]
   simp only [Bool.not_false,Bool.true_and] at hr
   have go : (w.take i).getLast? ≠ some w[i] → Sat Qe0d Qwtz (.tup [.sl .point (Q51t ps w),.bool (Qyhl ps w)]) [] (some (.go (Qu6t Qe0d.fn 5) [.sl .str w,.ptr 0 0,.own 1 [] 0,.sl .str w,.int .i64 (w.length : Int),.int .i64 ((i + 1 : Nat) : Int)] [.box [.sl .kind ks,.sl .point ps],.row .point ((w.take i).map (ptOf ps) ++ [ps.getD (Qigq ps w[i]).toNat (Qe0d.C.dflt .point)]) 0 0 0 .no])):=fun h=>by
    have hne : ((w.take i).getLast? == some w[i]) = false:=beq_eq_false_iff_ne.2 h
    rw [hne] at hr
    have:=ih (i + 1) (by omega) (by rw [hl]; exact hr)
    rw [htk,List.map_append] at this
    exact Sat.cut this
   by_cases h0 : (i : Int) > 0
   ·rw [decide_eq_true h0]
    have hi1 : i - 1 < w.length:=by omega
    have hx1 : w.getD ((i : Int) - 1).toNat (Qe0d.C.dflt .str) = w[i - 1]:=by
     rw [show ((i : Int) - 1).toNat = i - 1 by omega]; simp [hi1]
    have hl1 : (w.take i).getLast? = some w[i - 1]:=by
     have:=qtS hi1
     rw [show i - 1 + 1 = i by omega] at this
     rw [this,qlC]
    have hin1 : inb ((i : Int) - 1) w.length = true:=by simp only [inb,qaT,qdT]; omega
    rw [hin1,hx1]
    simp only [Qd8q]
    rw [hl1] at hr go
    by_cases he : w[i] = w[i - 1]
    ·rw [beq_iff_eq.2 he]
     have : ((some w[i - 1] : Option Str) == some w[i]) = true:=by rw [he]; simp
     rw [this] at hr
     exact no (by rw [hr]; rfl)
    ·rw [beq_eq_false_iff_ne.2 he]
     exact go (fun e=>he (Option.some.inj e).symm)
   ·rw [decide_eq_false h0]
    have : i = 0:=by omega
    subst this
    exact go (by simp)
theorem Qpn1 (ks : List Kind) (ps : List Point) (w : List Str) (hg : decide (ps.length < 1000000000) = true) : Qewq Tryz.prog CP Qwtz [.agg [.sl .kind ks,.sl .point ps],.sl .str w] [] (.tup [.sl .point (Q51t ps w),.bool (Qyhl ps w)]) []:=by
 refine Qewq.of Qtsk (by kernel_rfl) (Qwrn ks ps w) ?_
 cases h8 : inR (w.length : Int) 2 8 with
 | false =>
  refine Sat.ret ?_ rfl
  rw [Q51t,Qyhl,h8]; rfl
 | true =>
  have:=Qf4k ks ps w (of_decide_eq_true hg) h8 w.length 0 (by omega) (by rw [Qyhl,h8]; rfl)
  exact Sat.cut this
theorem Q09u : EntOK Tryz.prog CP Qwtz Qbsc:=by
 refine ⟨eob (by kernel_rfl),fun _ _ _ _ h=>?_⟩
 simp only [Qbsc] at h
 split at h
 ·obtain ⟨hg,rfl,rfl⟩:=eoh h
  exact Qpn1 _ _ _ hg
 ·cases h

noncomputable def Qdvz : RE Ty El:=⟨Tryz.prog,CP,[(Qryc,Q123),(Q5ff,Qo07),(Q0gt,Qroy),(Q8l1,Q18u),(Qn2h,Q0vx),(Qwtz,Qbsc)],Tryz.f172,0,[],[]⟩
theorem Qpl8 : REOK Qdvz Qvlr:=⟨CP_ok,(TabOK.cons Qne7 (TabOK.cons Q8iz (TabOK.cons Q6fz (TabOK.cons Qbi7 (TabOK.cons Qfgu (TabOK.cons Q09u Qye1)))))),by kernel_rfl,by kernel_rfl⟩
theorem Ql56 (ks : List Kind) (ps : List Point) (what : Int) (v : Str) : aRun Qdvz 600 false (body0 Qdvz.fn) (Q4gm Qdvz.fn [.agg [.sl .kind ks,.sl .point ps],.int .i64 what,.str v] []) =
 ifb (szS v) (ifb (what == 1) (ifb (decide (ks.length < (1000000000 : Nat))) (some (.ret (.bool (decide (idxF (fun p=>p.name == v) ks ≥ 0))) [])) (none)) (ifb (what == 2) (ifb (decide ((7 : Int) = (7 : Int)) && decide ((cutS (↑(UInt8.toNat (32 : UInt8)) : Int) v).length ≤ (2000000000 : Nat))) (ifb ((cutS (↑(UInt8.toNat (32 : UInt8)) : Int) v).all decB) (ifb ((↑(decsV (cutS (↑(UInt8.toNat (32 : UInt8)) : Int) v)).length : Int) == (2 : Int)) (ifb (inb (0 : Int) (decsV (cutS (↑(UInt8.toNat (32 : UInt8)) : Int) v)).length) (ifb (inb (1 : Int) (decsV (cutS (↑(UInt8.toNat (32 : UInt8)) : Int) v)).length) (ifb (decide ((decsV (cutS (↑(UInt8.toNat (32 : UInt8)) : Int) v)).getD (Int.toNat (0 : Int)) (Qdvz.C.dflt Ty.int) ≤ (decsV (cutS (↑(UInt8.toNat (32 : UInt8)) : Int) v)).getD (Int.toNat (1 : Int)) (Qdvz.C.dflt Ty.int))) (ifb (inb (1 : Int) (decsV (cutS (↑(UInt8.toNat (32 : UInt8)) : Int) v)).length) (some (.ret (.bool (decide ((decsV (cutS (↑(UInt8.toNat (32 : UInt8)) : Int) v)).getD (Int.toNat (1 : Int)) (Qdvz.C.dflt Ty.int) ≤ (10000 : Int)))) [])) (none)) (some (.ret (.bool false) []))) (none)) (none)) (some (.ret (.bool false) []))) (some (.ret (.bool false) []))) (none)) (ifb (what == 3) (ifb (decB v) (some (.ret (.bool (inR (decV v) (1 : Int) (6 : Int))) [])) (some (.ret (.bool false) []))) (ifb (what == 4) (ifb (decide (ps.length < (1000000000 : Nat))) (some (.ret (.bool (Qyhl ps (cutS (↑(UInt8.toNat (32 : UInt8)) : Int) v))) [])) (none)) (ifb (what == 5) (ifb (v == #[(111 : UInt8),(112 : UInt8),(101 : UInt8),(110 : UInt8)].toList) (some (.ret (.bool true) [])) (some (.ret (.bool (v == #[(99 : UInt8),(108 : UInt8),(111 : UInt8),(115 : UInt8),(101 : UInt8),(100 : UInt8)].toList)) []))) (some (.ret (.bool false) []))))))) (none):=by kernel_rfl
theorem Qi63 {R : RE Ty El} {f : FuncId} (w : List Str) : Sat R f (.bool (Q2es w)) [] (ifb ((decide ((7 : Int) = (7 : Int)) && true)) (ifb (w.all decB) (ifb ((↑(decsV w).length : Int) == (2 : Int)) (ifb (inb (0 : Int) (decsV w).length) (ifb (inb (1 : Int) (decsV w).length) (ifb (decide ((decsV w).getD (Int.toNat (0 : Int)) (CP.dflt Ty.int) ≤ (decsV w).getD (Int.toNat (1 : Int)) (CP.dflt Ty.int))) (ifb (inb (1 : Int) (decsV w).length) (some (.ret (.bool (decide ((decsV w).getD (Int.toNat (1 : Int)) (CP.dflt Ty.int) ≤ (10000 : Int)))) [])) (none)) (some (.ret (.bool false) []))) (none)) (none)) (some (.ret (.bool false) []))) (some (.ret (.bool false) []))) (none)):=by
 rw [show decide ((7 : Int) = 7) = true from rfl]
 simp only [Bool.and_self,Qd8q]
 cases ha : w.all decB with
 | false =>
  refine Sat.retB ?_ rfl
  match w with
  | []=>rfl
  | [a]=>rfl
  | [a,b] =>
   simp only [Q2es]
   simp only [List.all_cons,List.all_nil,Bool.and_true,decB] at ha
   by_cases h1 : 0 ≤ numF a
   ·rw [decide_eq_true h1] at ha ⊢
    have h2 : ¬ 0 ≤ numF b:=of_decide_eq_false (by simpa using ha)
    have : inR (numF b) (numF a) 10000 = false:=by unfold inR; rw [decide_eq_false (by omega)]; rfl
    rw [this]; rfl
   ·rw [decide_eq_false h1]; rfl
  | a :: b :: c :: t=>rfl
 | true =>
  have hd : decsV w = w.map decV:=by unfold decsV; rw [if_pos ha]
  rw [hd]
  match w with
  | []=>exact Sat.retB rfl rfl
  | [a]=>exact Sat.retB rfl rfl
  | [a,b] =>
   simp only [List.all_cons,List.all_nil,Bool.and_true,qaT,decB,qdT] at ha
   have e1 : decV a = numF a:=by unfold decV; omega
   have e2 : decV b = numF b:=by unfold decV; omega
   show Sat R f _ _ (ifb (decide (decV a ≤ decV b)) (some (.ret (.bool (decide (decV b ≤ 10000))) [])) (some (.ret (.bool false) [])))
   rw [e1,e2]
   simp only [Q2es,inR]
   rw [decide_eq_true ha.1]
   by_cases h : numF a ≤ numF b
   ·rw [decide_eq_true h]
    exact Sat.retB rfl rfl
   ·rw [decide_eq_false h]
    exact Sat.retB rfl rfl
  | a :: b :: c :: t =>
   have : (((List.map decV (a :: b :: c :: t)).length : Int) == 2) = false:=by
    apply beq_eq_false_iff_ne.2
    simp; omega
   rw [this]
   exact Sat.retB rfl rfl
theorem Q602 (ks : List Kind) (ps : List Point) (what : Int) (v : Str) (hg : (szV v && (decide (ks.length < 1000000000) && decide (ps.length < 1000000000))) = true) : Qewq Tryz.prog CP Qvlr [.agg [.sl .kind ks,.sl .point ps],.int .i64 what,.str v] [] (.bool (fitsV ks ps what v)) []:=by
 refine Qewq.of Qpl8 (by kernel_rfl) (Ql56 ks ps what v) ?_
 simp only [qaT,qdT] at hg
 obtain ⟨hv,hks,hps⟩:=hg
 have hs : szS v = true:=hv
 have hcl : (cutS ((UInt8.toNat 32 : Nat) : Int) v).length ≤ 2000000000:=by
  have:=Qtox ((UInt8.toNat 32 : Nat) : Int) v
  have hv' : v.length ≤ 1000000000:=of_decide_eq_true hv
  omega
 rw [hs,decide_eq_true hks,decide_eq_true hps,Qd8q]
 unfold fitsV
 by_cases h1 : what = 1
 ·subst h1; exact Sat.retB rfl rfl
 rw [beq_eq_false_iff_ne.2 h1,if_neg h1,Qk7y]
 by_cases h2 : what = 2
 ·subst h2
  rw [if_pos rfl,decide_eq_true hcl,show ((2 : Int) == 2) = true from rfl,Qd8q]
  exact Qi63 (cutS 32 v)
 rw [beq_eq_false_iff_ne.2 h2,if_neg h2,Qk7y]
 by_cases h3 : what = 3
 ·subst h3
  rw [if_pos rfl,show ((3 : Int) == 3) = true from rfl,Qd8q]
  by_cases hn : 0 ≤ numF v
  ·have e1 : decB v = true:=decide_eq_true hn
   have e2 : decV v = numF v:=by unfold decV; omega
   rw [e1,e2]; exact Sat.retB rfl rfl
  ·have e1 : decB v = false:=decide_eq_false hn
   rw [e1]
   refine Sat.retB ?_ rfl
   have : inR (numF v) 1 6 = false:=by unfold inR; rw [decide_eq_false (by omega)]; rfl
   rw [this]
 rw [beq_eq_false_iff_ne.2 h3,if_neg h3,Qk7y]
 by_cases h4 : what = 4
 ·subst h4; exact Sat.retB rfl rfl
 rw [beq_eq_false_iff_ne.2 h4,if_neg h4,Qk7y]
 by_cases h5 : what = 5
 ·subst h5
  rw [if_pos rfl,show ((5 : Int) == 5) = true from rfl,Qd8q]
  have eo : (#[(111 : UInt8),112,101,110].toList) = wOpen:=rfl
  have ec : (#[(99 : UInt8),108,111,115,101,100].toList) = Qupw:=rfl
  rw [eo,ec]
  cases ho : (v == wOpen) with
  | true=>exact Sat.retB rfl rfl
  | false=>exact Sat.retB rfl rfl
 rw [beq_eq_false_iff_ne.2 h5,if_neg h5]
 exact Sat.retB rfl rfl
theorem Qp1l : EntOK Tryz.prog CP Qvlr Qmiz:=by
 refine ⟨eob (by kernel_rfl),fun _ _ _ _ h=>?_⟩
 simp only [Qmiz] at h
 split at h
 ·obtain ⟨hg,rfl,rfl⟩:=eoh h
  exact Q602 _ _ _ _ hg
 ·cases h

noncomputable def Qvjx : RE Ty El:=⟨Tryz.prog,CP,[(Q9ho,Qcc2),(Qn2h,Q0vx),(Qvlr,Qmiz)],Tryz.f93,0,[],[]⟩
theorem Qh4n : REOK Qvjx Q4bs:=⟨CP_ok,(TabOK.cons Q8k7 (TabOK.cons Qfgu (TabOK.cons Qp1l Qye1))),by kernel_rfl,by kernel_rfl⟩
theorem Q0zs (ks : List Kind) (ps : List Point) (fl : Str) (what num : Int) (v : Str) : aRun Qvjx 600 false (body0 Qvjx.fn) (Q4gm Qvjx.fn [.agg [.sl .kind ks,.sl .point ps],.agg [.str fl,.int .i64 what,.int .i64 num,.str v]] []) =
 ifb (Q2rq fl) (ifb (inR num (1 : Int) (1000000 : Int)) (ifb (szV v && (decide (ks.length < (1000000000 : Nat)) && decide (ps.length < (1000000000 : Nat)))) (some (.ret (.bool (fitsV ks ps what v)) [])) (none)) (some (.ret (.bool false) []))) (some (.ret (.bool false) [])):=by kernel_rfl
theorem Q381 (ks : List Kind) (ps : List Point) (fl : Str) (what num : Int) (v : Str) (hg : (szV v && (decide (ks.length < 1000000000) && decide (ps.length < 1000000000))) = true) : Qewq Tryz.prog CP Q4bs [.agg [.sl .kind ks,.sl .point ps],.agg [.str fl,.int .i64 what,.int .i64 num,.str v]] [] (.bool (Qh2h ks ps fl what num v)) []:=by
 refine Qewq.of Qh4n (by kernel_rfl) (Q0zs ks ps fl what num v) ?_
 rw [hg]
 unfold Qh2h
 cases Q2rq fl with
 | false=>exact Sat.retB rfl rfl
 | true =>
  cases inR num 1 1000000 with
  | false=>exact Sat.retB rfl rfl
  | true=>exact Sat.retB rfl rfl
theorem Q0ms : EntOK Tryz.prog CP Q4bs Qna9:=by
 refine ⟨eob (by kernel_rfl),fun _ _ _ _ h=>?_⟩
 simp only [Qna9] at h
 split at h
 ·obtain ⟨hg,rfl,rfl⟩:=eoh h
  exact Q381 _ _ _ _ _ _ hg
 ·cases h

noncomputable def Qcgg : RE Ty El:=⟨Tryz.prog,CP,[(Qdaf,Qzuu),(Q4bs,Qna9)],Tryz.f23,0,[],[]⟩
theorem Qytp : REOK Qcgg Qh2l:=⟨CP_ok,(TabOK.cons Qkfq (TabOK.cons Q0ms Qye1)),by kernel_rfl,by kernel_rfl⟩
theorem Qwx0 (ks : List Kind) (ps : List Point) (fl : Str) (what num : Int) (v : Str) : aRun Qcgg 600 false (body0 Qcgg.fn) (Q4gm Qcgg.fn [.agg [.sl .kind ks,.sl .point ps],.agg [.str fl,.int .i64 what,.int .i64 num,.str v]] []) =
 ifb (Qib4 ks ps) (ifb (szV v && (decide (ks.length < (1000000000 : Nat)) && decide (ps.length < (1000000000 : Nat)))) (some (.ret (.bool (Qh2h ks ps fl what num v)) [])) (none)) (some (.ret (.bool false) [])):=by kernel_rfl
theorem Q1xb (ks : List Kind) (ps : List Point) (fl : Str) (what num : Int) (v : Str) (hg : szV v = true) : Qewq Tryz.prog CP Qh2l [.agg [.sl .kind ks,.sl .point ps],.agg [.str fl,.int .i64 what,.int .i64 num,.str v]] [] (.bool (Q2rq fl && (inR num 1 1000000 && (Qib4 ks ps && fitsV ks ps what v)))) []:=by
 refine Qewq.of Qytp (by kernel_rfl) (Qwx0 ks ps fl what num v) ?_
 cases hb : Qib4 ks ps with
 | false =>
  refine Sat.retB ?_ rfl
  simp
 | true =>
  obtain ⟨hk,hp⟩:=Qrzz hb
  rw [hg,decide_eq_true (by omega : ks.length < 1000000000),decide_eq_true (by omega : ps.length < 1000000000)]
  exact Sat.retB rfl rfl
theorem Qg2h : EntOK Tryz.prog CP Qh2l Qwxf:=by
 refine ⟨eob (by kernel_rfl),fun _ _ _ _ h=>?_⟩
 simp only [Qwxf,Quoo] at h
 split at h
 ·obtain ⟨hg,rfl,rfl⟩:=eoh h
  exact Q1xb _ _ _ _ _ _ hg
 ·cases h

noncomputable def Qeph : RE Ty El:=⟨Tryz.prog,CP,[(Qdaf,Qzuu),(Q4bs,Qna9)],Tryz.f48,0,[],[(4,[(1,.any),(18,.any),(19,.any),(20,.any)]),(9,[(1,.any),(4,.any),(18,.any),(19,.any),(20,.any),(46,.any),(47,.any),(48,.any)])]⟩
theorem Qfut : REOK Qeph Qaev:=⟨CP_ok,(TabOK.cons Qkfq (TabOK.cons Q0ms Qye1)),by kernel_rfl,by kernel_rfl⟩
theorem Q066 (ks : List Kind) (ps : List Point) (es : List Entry) : aRun Qeph 600 false (body0 Qeph.fn) (Q4gm Qeph.fn [.agg [.sl .kind ks,.sl .point ps,.sl .entry es]] []) =
 ifb (!Qib4 ks ps) (some (.ret (.bool false) [])) (ifb (decide ((↑es.length : Int) > (12 : Int))) (some (.ret (.bool false) [])) (some (.go (Qu6t Qeph.fn 4) [.ptr 0 0,.sl .entry es,.int .i64 (↑es.length : Int),.int .i64 0] [.box [.sl .kind ks,.sl .point ps,.sl .entry es]]))):=by kernel_rfl
theorem Q8mz (x0 : List (El .entry)) (x1 : Int) (x2 : Int) (x3 : List (El .kind)) (x4 : List (El .point)) (x5 : List (El .entry)) : aRun Qeph 600 true (Qu6t Qeph.fn 4) (cutSt Qeph.fn (Q1m4 Qeph (Qu6t Qeph.fn 4)) [.ptr 0 0,.sl .entry x0,.int .i64 x1,.int .i64 x2] [.box [.sl .kind x3,.sl .point x4,.sl .entry x5]]) =
 ifb (decide (x2 < x1)) (ifb (inb x2 x0.length) (ifb ((↑(x0.getD x2.toNat (Qeph.C.dflt Ty.entry)).fields.length : Int) == (0 : Int)) (some (.ret (.bool false) [])) (ifb (decide (x2 > 0)) (ifb (inb (IntKind.i64.wrap (x2 - 1)) x5.length) (ifb (Q7zj (x0.getD x2.toNat (Qeph.C.dflt Ty.entry)).name (x5.getD (IntKind.i64.wrap (x2 - 1)).toNat (Qeph.C.dflt Ty.entry)).name || (x0.getD x2.toNat (Qeph.C.dflt Ty.entry)).name == (x5.getD (IntKind.i64.wrap (x2 - 1)).toNat (Qeph.C.dflt Ty.entry)).name) (some (.ret (.bool false) [])) (some (.go (Qu6t Qeph.fn 9) [.ptr 0 0,.ptr 1 0,.sl .entry x0,.int .i64 x1,.int .i64 x2,.sl .fld ((x0.getD x2.toNat (Qeph.C.dflt Ty.entry)).fields),.int .i64 ((↑(x0.getD x2.toNat (Qeph.C.dflt Ty.entry)).fields.length : Int)),.int .i64 0] [.box [.sl .kind x3,.sl .point x4,.sl .entry x5],.box [.str ((x0.getD x2.toNat (Qeph.C.dflt Ty.entry)).name),.sl .fld ((x0.getD x2.toNat (Qeph.C.dflt Ty.entry)).fields)]]))) (none)) (some (.go (Qu6t Qeph.fn 9) [.ptr 0 0,.ptr 1 0,.sl .entry x0,.int .i64 x1,.int .i64 x2,.sl .fld ((x0.getD x2.toNat (Qeph.C.dflt Ty.entry)).fields),.int .i64 ((↑(x0.getD x2.toNat (Qeph.C.dflt Ty.entry)).fields.length : Int)),.int .i64 0] [.box [.sl .kind x3,.sl .point x4,.sl .entry x5],.box [.str ((x0.getD x2.toNat (Qeph.C.dflt Ty.entry)).name),.sl .fld ((x0.getD x2.toNat (Qeph.C.dflt Ty.entry)).fields)]])))) (none)) (some (.ret (.bool true) [])):=by kernel_rfl
theorem Qev7 (x0 : List (El .entry)) (x1 : Int) (x2 : Int) (x3 : List (El .fld)) (x4 : Int) (x5 : Int) (x6 : List (El .kind)) (x7 : List (El .point)) (x8 : List (El .entry)) (x9 : Str) (x10 : List (El .fld)) : aRun Qeph 600 true (Qu6t Qeph.fn 9) (cutSt Qeph.fn (Q1m4 Qeph (Qu6t Qeph.fn 9)) [.ptr 0 0,.ptr 1 0,.sl .entry x0,.int .i64 x1,.int .i64 x2,.sl .fld x3,.int .i64 x4,.int .i64 x5] [.box [.sl .kind x6,.sl .point x7,.sl .entry x8],.box [.str x9,.sl .fld x10]]) =
 ifb (decide (x5 < x4)) (ifb (inb x5 x3.length) (ifb (szV (x3.getD x5.toNat (Qeph.C.dflt Ty.fld)).value && (decide (x6.length < (1000000000 : Nat)) && decide (x7.length < (1000000000 : Nat)))) (ifb (!Qh2h x6 x7 x9 (x3.getD x5.toNat (Qeph.C.dflt Ty.fld)).what (x3.getD x5.toNat (Qeph.C.dflt Ty.fld)).number (x3.getD x5.toNat (Qeph.C.dflt Ty.fld)).value) (some (.ret (.bool false) [])) (ifb (decide (x5 > 0)) (ifb (inb (IntKind.i64.wrap (x5 - 1)) x10.length) (ifb (decide ((x3.getD x5.toNat (Qeph.C.dflt Ty.fld)).what ≤ (x10.getD (IntKind.i64.wrap (x5 - 1)).toNat (Qeph.C.dflt Ty.fld)).what)) (some (.ret (.bool false) [])) (some (.go (Qu6t Qeph.fn 9) [.ptr 0 0,.ptr 1 0,.sl .entry x0,.int .i64 x1,.int .i64 x2,.sl .fld x3,.int .i64 x4,.int .i64 (IntKind.i64.wrap (x5 + 1))] [.box [.sl .kind x6,.sl .point x7,.sl .entry x8],.box [.str x9,.sl .fld x10]]))) (none)) (some (.go (Qu6t Qeph.fn 9) [.ptr 0 0,.ptr 1 0,.sl .entry x0,.int .i64 x1,.int .i64 x2,.sl .fld x3,.int .i64 x4,.int .i64 (IntKind.i64.wrap (x5 + 1))] [.box [.sl .kind x6,.sl .point x7,.sl .entry x8],.box [.str x9,.sl .fld x10]])))) (none)) (none)) (some (.go (Qu6t Qeph.fn 4) [.ptr 0 0,.sl .entry x0,.int .i64 x1,.int .i64 (IntKind.i64.wrap (x2 + 1))] [.box [.sl .kind x6,.sl .point x7,.sl .entry x8]])):=by kernel_rfl
theorem Q5ka (ks : List Kind) (ps : List Point) (es : List Entry) (hb : Qib4 ks ps = true) (n : Str) (fs : List Fld) (hfs : fs.length ≤ 1000000000) (hsz : fs.all (fun f=>szV f.value) = true) (i : Nat) (hi : i < 1000) (nx : Bool) (h4 : Cut Qeph Qaev 4 [.ptr 0 0,.sl .entry es,.int .i64 (es.length : Int),.int .i64 ((i + 1 : Nat) : Int)] [.box [.sl .kind ks,.sl .point ps,.sl .entry es]] (.bool nx) []) : ∀ (d k : Nat),k + d = fs.length →
  Cut Qeph Qaev 9 [.ptr 0 0,.ptr 1 0,.sl .entry es,.int .i64 (es.length : Int),.int .i64 (i : Int),.sl .fld fs,.int .i64 (fs.length : Int),.int .i64 (k : Int)] [.box [.sl .kind ks,.sl .point ps,.sl .entry es],.box [.str n,.sl .fld fs]] (.bool (Qt03 ks ps n ((fs.take k).getLast?.map (·.what)) (fs.drop k) && nx)) []:=by
 have hwi : IntKind.wrap .i64 ((i : Int) + 1) = ((i + 1 : Nat) : Int):=by rw [Qbrg] <;> omega
 obtain ⟨hkl,hpl⟩:=Qrzz hb
 intro d
 induction d with
 | zero =>
  intro k hk
  refine Cut.of Qfut rfl (Qev7 es es.length i fs fs.length k ks ps es n fs) ?_
  rw [decide_eq_false (by omega),List.drop_of_length_le (by omega),hwi]
  exact Sat.cut h4
 | succ d ih =>
  intro k hk
  refine Cut.of Qfut rfl (Qev7 es es.length i fs fs.length k ks ps es n fs) ?_
  have hlt : k < fs.length:=by omega
  have hw : IntKind.wrap .i64 ((k : Int) + 1) = ((k + 1 : Nat) : Int):=by rw [Qbrg] <;> omega
  have hw1 : IntKind.wrap .i64 ((k : Int) - 1) = (k : Int) - 1:=by rw [Qbrg] <;> omega
  have hd : fs.drop k = fs[k] :: fs.drop (k + 1):=qdC hlt
  have hx : fs.getD (k : Int).toNat (Qeph.C.dflt .fld) = fs[k]:=by simp [hlt]
  have hin : inb (k : Int) fs.length = true:=by simp only [inb,qaT,qdT]; omega
  have hlo : decide ((k : Int) < (fs.length : Int)) = true:=decide_eq_true (by omega)
  have hl : (fs.take (k + 1)).getLast? = some fs[k]:=by rw [qtS hlt,qlC]
  have hv : szV fs[k].value = true:=qlA.1 hsz _ (List.getElem_mem hlt)
  have ih':=ih (k + 1) (by omega)
  rw [hl,Option.map_some] at ih'
  rw [hlo,hin,hx,hv,hw,hw1,hd,Qxkm,decide_eq_true (by omega : ks.length < 1000000000),decide_eq_true (by omega : ps.length < 1000000000)]
  simp only [Qd8q,Bool.and_self]
  cases hc : Qh2h ks ps n fs[k].what fs[k].number fs[k].value with
  | false=>exact Sat.retB rfl rfl
  | true =>
   simp only [Bool.not_true,Qk7y,Bool.true_and]
   by_cases h0 : (k : Int) > 0
   ·rw [decide_eq_true h0]
    have hi1 : k - 1 < fs.length:=by omega
    have hx1 : fs.getD ((k : Int) - 1).toNat (Qeph.C.dflt .fld) = fs[k - 1]:=by
     rw [show ((k : Int) - 1).toNat = k - 1 by omega]; simp [hi1]
    have hl1 : (fs.take k).getLast? = some fs[k - 1]:=by
     have:=qtS hi1
     rw [show k - 1 + 1 = k by omega] at this
     rw [this,qlC]
    have hin1 : inb ((k : Int) - 1) fs.length = true:=by simp only [inb,qaT,qdT]; omega
    rw [hin1,hx1,hl1]
    simp only [Qd8q,Option.map_some]
    by_cases hq : fs[k - 1].what < fs[k].what
    ·rw [decide_eq_true hq,decide_eq_false (by omega)]
     exact Sat.cut ih'
    ·rw [decide_eq_false hq,decide_eq_true (by omega)]
     exact Sat.retB rfl rfl
   ·rw [decide_eq_false h0]
    have : k = 0:=by omega
    subst this
    exact Sat.cut ih'
theorem Qrwz (ks : List Kind) (ps : List Point) (es : List Entry) (hb : Qib4 ks ps = true) (h12 : es.length ≤ 12) (hsz : es.all szE = true) : ∀ (d i : Nat),i + d = es.length →
  Cut Qeph Qaev 4 [.ptr 0 0,.sl .entry es,.int .i64 (es.length : Int),.int .i64 (i : Int)] [.box [.sl .kind ks,.sl .point ps,.sl .entry es]] (.bool (Qgea ks ps ((es.take i).getLast?.map (·.name)) (es.drop i))) []:=by
 intro d
 induction d with
 | zero =>
  intro i hi
  refine Cut.of Qfut rfl (Q8mz es es.length i ks ps es) ?_
  rw [decide_eq_false (by omega),List.drop_of_length_le (by omega)]
  exact Sat.retB rfl rfl
 | succ d ih =>
  intro i hi
  refine Cut.of Qfut rfl (Q8mz es es.length i ks ps es) ?_
  have hlt : i < es.length:=by omega
  have hw1 : IntKind.wrap .i64 ((i : Int) - 1) = (i : Int) - 1:=by rw [Qbrg] <;> omega
  have hd : es.drop i = es[i] :: es.drop (i + 1):=qdC hlt
  have hx : es.getD (i : Int).toNat (Qeph.C.dflt .entry) = es[i]:=by simp [hlt]
  have hin : inb (i : Int) es.length = true:=by simp only [inb,qaT,qdT]; omega
  have hlo : decide ((i : Int) < (es.length : Int)) = true:=decide_eq_true (by omega)
  have hl : (es.take (i + 1)).getLast? = some es[i]:=by rw [qtS hlt,qlC]
  have hz:=qlA.1 hsz _ (List.getElem_mem hlt)
  simp only [szE,qaT,qdT] at hz
  have ih':=ih (i + 1) (by omega)
  rw [hl,Option.map_some] at ih'
  have inner:=Q5ka ks ps es hb es[i].name es[i].fields hz.1 hz.2 i (by omega) _ ih' es[i].fields.length 0 (by omega)
  rw [List.drop_zero] at inner
  rw [hlo,hin,hx,hw1,hd,Qgea]
  simp only [Qd8q]
  by_cases hf0 : es[i].fields.length = 0
  ·have e1 : ((es[i].fields.length : Int) == 0) = true:=by simp [hf0]
   rw [e1]
   refine Sat.retB ?_ rfl
   simp [Q7i7,hf0]
  ·have e1 : ((es[i].fields.length : Int) == 0) = false:=by simp; intro e; exact hf0 (by rw [e]; rfl)
   rw [e1,Qvuh hf0]
   simp only [Qk7y]
   by_cases h0 : (i : Int) > 0
   ·rw [decide_eq_true h0]
    have hi1 : i - 1 < es.length:=by omega
    have hx1 : es.getD ((i : Int) - 1).toNat (Qeph.C.dflt .entry) = es[i - 1]:=by
     rw [show ((i : Int) - 1).toNat = i - 1 by omega]; simp [hi1]
    have hl1 : (es.take i).getLast? = some es[i - 1]:=by
     have:=qtS hi1
     rw [show i - 1 + 1 = i by omega] at this
     rw [this,qlC]
    have hin1 : inb ((i : Int) - 1) es.length = true:=by simp only [inb,qaT,qdT]; omega
    rw [hin1,hx1,hl1,le_lt]
    simp only [Qd8q,Option.map_some,Qe7t]
    cases hq : Q7zj es[i - 1].name es[i].name with
    | false =>
     refine Sat.retB ?_ rfl
     simp
    | true =>
     simp only [Bool.not_true,Qk7y,Bool.true_and]
     exact Sat.cut inner
   ·rw [decide_eq_false h0]
    have : i = 0:=by omega
    subst this
    exact Sat.cut inner
theorem Qgs9 (ks : List Kind) (ps : List Point) (es : List Entry) (hg : szB es = true) : Qewq Tryz.prog CP Qaev [.agg [.sl .kind ks,.sl .point ps,.sl .entry es]] [] (.bool (Qn0o ks ps es)) []:=by
 refine Qewq.of Qfut (by kernel_rfl) (Q066 ks ps es) ?_
 simp only [szB,qaT,qdT] at hg
 cases hb : Qib4 ks ps with
 | false =>
  refine Sat.retB ?_ rfl
  simp [Qn0o,hb]
 | true =>
  simp only [Bool.not_true,Qk7y]
  by_cases h12 : es.length ≤ 12
  ·rw [decide_eq_false (by omega)]
   have:=Qrwz ks ps es hb h12 hg.2 es.length 0 (by omega)
   rw [show Qn0o ks ps es = Qgea ks ps ((es.take 0).getLast?.map (·.name)) (es.drop 0) by simp [Qn0o,hb,h12]]
   exact Sat.cut this
  ·rw [decide_eq_true (by omega)]
   refine Sat.retB ?_ rfl
   simp [Qn0o,h12]
theorem Qwza : EntOK Tryz.prog CP Qaev Qjv4:=by
 refine ⟨eob (by kernel_rfl),fun _ _ _ _ h=>?_⟩
 simp only [Qjv4,Q124] at h
 split at h
 ·obtain ⟨hg,rfl,rfl⟩:=eoh h
  exact Qgs9 _ _ _ hg
 ·cases h
end Lx
namespace Lx
open Go Go.Proofs
def entIx (es : List Entry) (n : Str) : Int:=idxF (fun e=>e.name == n) es
theorem Qx66 {ks : List Kind} {ps : List Point} {n : Str} : ∀ {fs : List Fld} {prev : Option Int},Qt03 ks ps n prev fs = true → ∀ f ∈ fs,fitsV ks ps f.what f.value = true
 | [],_,_,f,hf=>by simp at hf
 | g :: fs,prev,h,f,hf=>by
  rw [Qxkm] at h
  simp only [qaT,Qh2h] at h
  simp only [List.mem_cons] at hf
  rcases hf with rfl | hf
  ·exact h.1.2.2
  ·exact Qx66 h.2.2 f hf
theorem Qohw {es : List Entry} {n : Str} (h : 0 ≤ entIx es n) : inb (entIx es n) es.length = true:=by
 have h2:=Q1mf (p:=fun k : Entry=>k.name == n) (l:=es)
 have h3 : entIx es n = idxF (fun k : Entry=>k.name == n) es:=rfl
 simp only [inb,qaT,qdT]; omega
theorem Q4rj {ks : List Kind} {ps : List Point} : ∀ {es : List Entry} {prev : Option Str},Qgea ks ps prev es = true → ∀ e ∈ es,Q7i7 ks ps e = true
 | [],_,_,e,he=>by simp at he
 | a :: es,prev,h,e,he=>by
  rw [Qgea] at h
  simp only [qaT] at h
  simp only [List.mem_cons] at he
  rcases he with rfl | he
  ·exact h.1
  ·exact Q4rj h.2.2 e he
theorem Qg6k {ks : List Kind} {ps : List Point} {es : List Entry} (h : Qn0o ks ps es = true) : Qib4 ks ps = true ∧ es.length ≤ 12 ∧ ∀ e ∈ es,Q7i7 ks ps e = true:=by
 simp only [Qn0o,qaT,qdT] at h
 exact ⟨h.1,h.2.1,Q4rj h.2.2⟩
theorem Qhwx {es : List Entry} {n : Str} (h : 0 ≤ entIx es n) : es.getD (entIx es n).toNat (dfltP .entry) ∈ es:=by
 have h2:=Q1mf (p:=fun k : Entry=>k.name == n) (l:=es)
 have h3 : entIx es n = idxF (fun k : Entry=>k.name == n) es:=rfl
 have hlt : (entIx es n).toNat < es.length:=by omega
 rw [qgD,qeG hlt]
 exact List.getElem_mem hlt
theorem Qur7 {α : Type} (p : α → Bool) (d : α) : ∀ (l : List α),(idxF p l < 0 ∧ l.find? p = none) ∨ (0 ≤ idxF p l ∧ l.find? p = some (l.getD (idxF p l).toNat d))
 | []=>.inl ⟨by show (-1 : Int) < 0; decide,rfl⟩
 | a :: l=>by
  by_cases ha : p a = true
  ·have : idxF p (a :: l) = 0:=Qjgx (i:=0) rfl ha (fun k hk=>by omega)
   rw [this,List.find?_cons_of_pos ha]
   exact .inr ⟨by omega,rfl⟩
  ·rw [List.find?_cons_of_neg ha]
   have hs : idxF p (a :: l) = if idxF p l < 0 then -1 else idxF p l + 1:=by
    have hf : p a = false:=by simpa using ha
    unfold idxF
    rw [List.findIdx?_cons,hf]
    cases l.findIdx? p with
    | none=>rfl
    | some i =>
     have : ¬ ((i : Int) < 0):=by omega
     simp [this]
   rcases Qur7 p d l with ⟨h1,h2⟩ | ⟨h1,h2⟩
   ·rw [hs,if_pos h1]; exact .inl ⟨by decide,h2⟩
   ·rw [hs,if_neg (by omega)]
    refine .inr ⟨by omega, ?_⟩
    rw [h2]
    have : (idxF p l + 1).toNat = (idxF p l).toNat + 1:=by omega
    rw [this]; rfl

end Lx
namespace Lx
open Go Go.Proofs
end Lx
namespace Lx
open Go
section
variable {Ty : Type} {El : Ty → Type}
def SatE (R : RE Ty El) (f : FuncId) (Q : AV Ty El → List (AObj Ty El) → Prop) (T : Option (Leaf Ty El)) : Prop:=∃ res H',Sat R f res H' T ∧ Q res H'
variable {R : RE Ty El} {f : FuncId} {Q : AV Ty El → List (AObj Ty El) → Prop}
theorem SatE.ifb {c : Bool} {A B : Option (Leaf Ty El)} (h1 : c = true → SatE R f Q A) (h2 : c = false → SatE R f Q B) : SatE R f Q (Lx.ifb c A B):=by
 cases c with
 | true=>exact h1 rfl
 | false=>exact h2 rfl
theorem SatE.need {c : Bool} {A : Option (Leaf Ty El)} (h : c = true) (h1 : SatE R f Q A) : SatE R f Q (Lx.ifb c A none):=by
 subst h; exact h1
theorem SatE.ret {v : AV Ty El} {h : List (AObj Ty El)} (hq : Q v h) : SatE R f Q (some (.ret v h)):=⟨v,h,Sat.ret rfl rfl,hq⟩
def CutE (R : RE Ty El) (f : FuncId) (id : Nat) (vals : List (AV Ty El)) (h : List (AObj Ty El)) (Q : AV Ty El → List (AObj Ty El) → Prop) : Prop:=∃ res H',Cut R f id vals h res H' ∧ Q res H'
theorem SatE.cut {id : Nat} {vals : List (AV Ty El)} {h : List (AObj Ty El)} (hg : CutE R f id vals h Q) : SatE R f Q (some (.go (Qu6t R.fn id) vals h)):=by
 obtain ⟨res,H',h1,h2⟩:=hg
 exact ⟨res,H',Sat.cut h1,h2⟩
theorem CutE.of (hR : REOK R f) {id : Nat} {vals : List (AV Ty El)} {h : List (AObj Ty El)} {live : List (Nat × Sh Ty)} {fuel : Nat} {T : Option (Leaf Ty El)} (hl : Q1m4 R (Qu6t R.fn id) = live) (ht : aRun R fuel true (Qu6t R.fn id) (cutSt R.fn live vals h) = T) (hs : SatE R f Q T) : CutE R f id vals h Q:=by
 obtain ⟨res,H',h1,h2⟩:=hs
 exact ⟨res,H',Cut.of hR hl ht h1,h2⟩
def CallE (P : Program) (C : Cod Ty El) (g : FuncId) (args : List (AV Ty El)) (H : List (AObj Ty El)) (Q : AV Ty El → List (AObj Ty El) → Prop) : Prop:=∃ res H',Qewq P C g args H res H' ∧ Q res H'
theorem CallE.of (hR : REOK R f) {args : List (AV Ty El)} {H : List (AObj Ty El)} {fuel : Nat} {T : Option (Leaf Ty El)} (hfit : fitsB R args H = true) (ht : aRun R fuel false (body0 R.fn) (Q4gm R.fn args H) = T) (hs : SatE R f Q T) : CallE R.P R.C f args H Q:=by
 obtain ⟨res,H',h1,h2⟩:=hs
 exact ⟨res,H',Qewq.of hR hfit ht h1,h2⟩
theorem SatE.mono {Q' : AV Ty El → List (AObj Ty El) → Prop} {T : Option (Leaf Ty El)} (h : SatE R f Q T) (hq : ∀ v h,Q v h → Q' v h) : SatE R f Q' T:=by
 obtain ⟨v,H',h1,h2⟩:=h; exact ⟨v,H',h1,hq _ _ h2⟩
noncomputable def drawn {α : Type} [Inhabited α] (p : α → Prop) : α:=Classical.epsilon p
theorem Qk78 {α : Type} [Inhabited α] {p : α → Prop} (h : ∃ a,p a) : p (drawn p):=Classical.epsilon_spec h
end
end Lx
namespace Lx
open Go
section
variable {Ty : Type} {El : Ty → Type} {C : Cod Ty El} {P : Program}
def noNm (k : Nat) : Nat → AV Ty El → Bool
 | 0,_=>false
 | n + 1,v=>match v with
  | .own r _ _=>r != k
  | .view r _ _ _ _ _=>r != k
  | .ptr r _=>r != k
  | .eptr r _ _ _ _ _=>r != k
  | .mapr r=>r != k
  | .agg cs | .tup cs | .rop cs _ | .fn _ cs=>cs.all (noNm k n)
  | _=>true
def objNm (k : Nat) : AObj Ty El → Bool
 | .box cs=>cs.all (noNm k 6)
 | .mp ..=>false
 | _=>true
theorem Qn0f {k : Nat} {c : AV Ty El} (h : Qvgi c = true) : noNm k 1 c = true:=by
 cases c <;> simp [Qvgi] at h <;> rfl
theorem RepA.noNm (hC : CodOK P C) {N N' : Nm} {w : World} {k : Nat} (hG : ∀ r p v u,r ≠ k → N.G r p v u → N'.G r p v u) (hro : ∀ b,N.ro b → N'.ro b) {v : Value} {x : AV Ty El} (h : RepA C N w v x) : ∀ n,Lx.noNm k n x = true → RepA C N' w v x:=by
 have kids : ∀ {n : Nat} {cs : List (AV Ty El)},cs.all (Lx.noNm k n) = true → ∀ (j : Nat) c,cs[j]? = some c → Lx.noNm k n c = true:=fun h j c hj=>qlA.1 h c (qmG hj)
 induction h with
 | int k n=>exact fun _ _=>.int k n
 | bool b=>exact fun _ _=>.bool b
 | str s l h=>exact fun _ _=>.str s l h
 | sl0 T a cap=>exact fun _ _=>.sl0 T a cap
 | sl T xs b o n cap f hn hc hr hcell _ ih =>
  exact fun _ _=>.sl T xs b o n cap f hn hc (hro b hr) hcell (fun i j c hi hj=>ih i j c hi hj 1 (Qn0f (hC.cell _ _ c (qmG hj))))
 | nils=>exact fun _ _=>.nils
 | own r p v u h =>
  intro n hn
  cases n with
  | zero=>simp [Lx.noNm] at hn
  | succ n=>exact .own r p v u (hG _ _ _ _ (by simpa [Lx.noNm] using hn) h)
 | view r p v wd lo m n cap a h hb =>
  intro n hn
  cases n with
  | zero=>simp [Lx.noNm] at hn
  | succ n=>exact .view r p v wd lo m _ cap a (hG _ _ _ _ (by simpa [Lx.noNm] using hn) h) hb
 | ptr r b off h =>
  intro n hn
  cases n with
  | zero=>simp [Lx.noNm] at hn
  | succ n=>exact .ptr r b off (hG _ _ _ _ (by simpa [Lx.noNm] using hn) h)
 | eptr r p v wd i j b n cap h hi =>
  intro n hn
  cases n with
  | zero=>simp [Lx.noNm] at hn
  | succ n=>exact .eptr r p v wd i j b _ cap (hG _ _ _ _ (by simpa [Lx.noNm] using hn) h) hi
 | rop cs b o off f hr hcell _ ih =>
  intro n hn
  cases n with
  | zero=>simp [Lx.noNm] at hn
  | succ n=>exact .rop cs b o off f (hro b hr) hcell (fun j c hj=>ih j c hj n (kids (by simpa [Lx.noNm] using hn) j c hj))
 | nilp=>exact fun _ _=>.nilp
 | mapr r b h =>
  intro n hn
  cases n with
  | zero=>simp [Lx.noNm] at hn
  | succ n=>exact .mapr r b (hG _ _ _ _ (by simpa [Lx.noNm] using hn) h)
 | agg vs cs hl _ ih =>
  intro n hn
  cases n with
  | zero=>simp [Lx.noNm] at hn
  | succ n=>exact .agg vs cs hl (fun j v c hv hc=>ih j v c hv hc n (kids (by simpa [Lx.noNm] using hn) j c hc))
 | tup vs cs hl _ ih =>
  intro n hn
  cases n with
  | zero=>simp [Lx.noNm] at hn
  | succ n=>exact .tup vs cs hl (fun j v c hv hc=>ih j v c hv hc n (kids (by simpa [Lx.noNm] using hn) j c hc))
 | fn f vs cs hl _ ih =>
  intro n hn
  cases n with
  | zero=>simp [Lx.noNm] at hn
  | succ n=>exact .fn f vs cs hl (fun j v c hv hc=>ih j v c hv hc n (kids (by simpa [Lx.noNm] using hn) j c hc))
 | raw u h=>exact fun _ _=>.raw u h
 | lt T xs u e cells f hty ho h1 hone hr hcell _ ih =>
  exact fun _ _=>.lt T xs u e cells f hty ho h1 hone (fun b hb=>hro b (hr b hb)) hcell (fun i j c hi hc=>ih i j c hi hc 1 (Qn0f (hC.cell _ _ c (qmG hc))))
 | glob g=>exact fun _ _=>.glob g
 | dead v=>exact fun _ _=>.dead v

theorem Qf9x {H : List (AObj Ty El)} {k r : Nat} {o : AObj Ty El} (hk : k < H.length) : hpOf (H.set k o) r = if r = k then o else hpOf H r:=by
 unfold hpOf
 rw [qgD,qgD,List.getElem?_set]
 by_cases h : k = r
 ·subst h; simp [hk]
 ·rw [if_neg h,if_neg (fun e=>h e.symm)]
theorem Q13r {H : List (AObj Ty El)} {r : Nat} {o : AObj Ty El} (h : hpOf H r = o) (hg : o ≠ .gone) : o ∈ H:=by
 unfold hpOf at h
 rw [qgD] at h
 cases e : H[r]? with
 | none=>rw [e] at h; exact absurd h.symm hg
 | some x=>rw [e] at h; simp at h; subst h; exact qmG e

theorem Qewq.drop (hC : CodOK P C) {g : FuncId} {args : List (AV Ty El)} {H : List (AObj Ty El)} {res : AV Ty El} {H' : List (AObj Ty El)} (h : Qewq P C g args H res H') (k : Nat) (hk : k < H'.length) (hres : noNm k 6 res = true) (hobj : H'.all (objNm k) = true) :
  Qewq P C g args H res (H'.set k .out):=by
 intro w N vs hN hsz hrep
 refine (h w N vs hN hsz hrep).mono ?_
 rintro en w' ⟨v,N',rfl,hH,hv,hio,hroI,hroO,hfr,hF⟩
 let N2 : Nm:={ ν:=N'.ν,F:=fun r b=>r ≠ k ∧ N'.F r b,G:=fun r p v u=>r ≠ k ∧ N'.G r p v u,ro:=N'.ro }
 refine ⟨v,N2,rfl, ?_,hv.noNm hC (N':=N2) (fun r p v u hr hg=>⟨hr,hg⟩) (fun _ h=>h) 6 hres,fun r hr hs=>?_,hroI,hroO,hfr,fun r b hb=>hF r b hb.2⟩
 ·refine ⟨fun r=>?_,fun r p v u hg=>?_,fun r=>?_,fun r p v u hg=>hH.one r p v u hg.2,fun r r' b h1 h2=>hH.dist r r' b h1.2 h2.2,fun r b h1 h2=>hH.roNot r b h1.2 h2,hH.roLt,hH.glTo hC (fun _ h=>h) (fun _ _=>rfl)⟩
  ·rw [Qf9x hk]
   by_cases hr : r = k
   ·rw [if_pos hr]; exact fun b hb=>hb.1 hr
   ·rw [if_neg hr]
    have ho:=hH.obj r
    cases e : hpOf H' r with
    | box cs =>
     rw [e] at ho
     have hm:=Q13r e (by simp)
     have hn:=qlA.1 hobj _ hm
     obtain ⟨b,arr,t,h1,h2,h3,h4,h5,h6⟩:=ho
     exact ⟨b,arr,t,h1,h2,h3,h4,fun j v c hj hc=>(h5 j v c hj hc).noNm hC (N':=N2) (fun r p v u hr hg=>⟨hr,hg⟩) (fun _ h=>h) 6 (qlA.1 hn c (qmG hc)),fun b'=>⟨fun hb=>(h6 b').1 hb.2,fun hb=>⟨hr,(h6 b').2 hb⟩⟩⟩
    | row T xs d vr vn m =>
     rw [e] at ho
     exact ⟨ho.1,(Deep.cast (N:=N') (N':=N2) hC (fun _ h=>h) (fun _ _=>rfl) _ _ _ _ _ _ ho.2 (fun _ _=>rfl)).blkEq (fun b=>⟨fun hb=>hb.2,fun hb=>⟨hr,hb⟩⟩)⟩
    | mp K V es =>
     have hm:=Q13r e (by simp)
     have hn:=qlA.1 hobj _ hm
     simp [objNm] at hn
    | gone=>rw [e] at ho; exact fun b hb=>ho b hb.2
    | out=>rw [e] at ho; exact fun b hb=>ho b hb.2
  ·rw [Qf9x hk,if_neg hg.1]; exact hH.reg r p v u hg.2
  ·rw [Qf9x hk]
   by_cases hr : r = k
   ·rw [if_pos hr]; trivial
   ·rw [if_neg hr]
    have hf:=hH.full r
    cases e : hpOf H' r with
    | box cs=>rw [e] at hf; exact ⟨hr,hf⟩
    | mp K V es=>rw [e] at hf; exact ⟨hr,hf⟩
    | row T xs d vr vn m=>rw [e] at hf; exact ⟨⟨hr,hf.1⟩,fun p u h1 h2 h3 h4=>⟨hr,hf.2 p u h1 h2 h3 h4⟩⟩
    | gone=>trivial
    | out=>trivial
 ·refine hio r hr ?_
  by_cases e : r = k
  ·have : hpOf (H'.set k (.out : AObj Ty El)) r = .out:=by rw [Qf9x hk,if_pos e]
   simp [stays,this] at hs
  ·have : hpOf (H'.set k (.out : AObj Ty El)) r = hpOf H' r:=by rw [Qf9x hk,if_neg e]
   simpa only [stays,this] using hs

theorem Qewq.move (hC : CodOK P C) {g : FuncId} {args : List (AV Ty El)} {o0 : AObj Ty El} {T : Ty} {xs : List (El T)} {d : Nat} (h : Qewq P C g args [o0] (.own 0 [] 0) [.row T xs d 0 0 .no]) :
  Qewq P C g args [o0] (.own 1 [] 0) [.out,.row T xs d 0 0 .no]:=by
 intro w N vs hN hsz hrep
 refine (h w N vs hN hsz hrep).mono ?_
 rintro en w' ⟨v,N',rfl,hH,hv,hio,hroI,hroO,hfr,hF⟩
 let N2 : Nm:={ ν:=fun _=>N'.ν 0,F:=fun r b=>r = 1 ∧ N'.F 0 b,G:=fun r p v u=>r = 1 ∧ N'.G 0 p v u,ro:=N'.ro }
 have e0 : ∀ r,hpOf ([.out,.row T xs d 0 0 .no] : List (AObj Ty El)) (r + 2) = .gone:=fun r=>by simp [hpOf]
 refine ⟨v,N2,rfl,⟨fun r=>?_,fun r p v u hg=>?_,fun r=>?_,fun r p v u hg=>hH.one 0 p v u hg.2,fun r r' b h1 h2=>h1.1.trans h2.1.symm,fun r b h1 h2=>hH.roNot 0 b h1.2 h2,hH.roLt,hH.glTo hC (fun _ h=>h) (fun _ _=>rfl)⟩,.own 1 [] 0 v ⟨rfl,hv.inv_own⟩,fun r hr hs=>?_,hroI,hroO,hfr,fun r b hb=>hF 0 b hb.2⟩
 ·match r with
  | 0=>exact fun b hb=>by cases hb.1
  | 1 =>
   have ho:=hH.obj 0
   exact ⟨ho.1,(Deep.cast (N:=N') (N':=N2) hC (fun _ h=>h) (fun _ _=>rfl) _ _ _ _ _ _ ho.2 (fun _ _=>rfl)).blkEq (fun b=>⟨fun hb=>hb.2,fun hb=>⟨rfl,hb⟩⟩)⟩
  | r + 2=>rw [e0]; exact fun b hb=>by have:=hb.1; omega
 ·obtain ⟨rfl,hg⟩:=hg
  exact hH.reg 0 p v u hg
 ·match r with
  | 0=>trivial
  | 1 =>
   have hf:=hH.full 0
   exact ⟨⟨rfl,hf.1⟩,fun p u h1 h2 h3 h4=>⟨rfl,hf.2 p u h1 h2 h3 h4⟩⟩
  | r + 2=>rw [e0]; trivial
 ·match r,hr with
  | 0,_=>simp [hpOf,stays] at hs
end
end Lx
namespace Lx
open Go Go.Proofs
def Qul0 : List Fld → Fld → List Fld
 | [],f=>[f]
 | g :: r,f=>if g.what < f.what then g :: Qul0 r f else if g.what = f.what then (if Fld.later f g = true then f :: r else g :: r) else f :: g :: r
def insE : List Entry → Str → Fld → List Entry
 | [],n,f=>[⟨n,[f]⟩]
 | e :: r,n,f=>if Q7zj e.name n = true then e :: insE r n f else ⟨n,[f]⟩ :: e :: r
def putF (es : List Entry) (n : Str) (f : Fld) : List Entry :=
 if 0 ≤ entIx es n then es.set (entIx es n).toNat ⟨(es.getD (entIx es n).toNat (dfltP .entry)).name,Qul0 (es.getD (entIx es n).toNat (dfltP .entry)).fields f⟩ else insE es n f
def Qs7k (ks : List Kind) (ps : List Point) (c : Chg) : Bool:=Q2rq c.flight && (inR c.number 1 1000000 && (Qib4 ks ps && fitsV ks ps c.what c.value))
structure BookR where
 ks : List Kind
 ps : List Point
 es : List Entry
 code : Int
 deriving Inhabited
def takeF (ks : List Kind) (ps : List Point) (es : List Entry) (c : Chg) : BookR :=
 if Qn0o ks ps es = true then
  if Qs7k ks ps c = true then (if entIx es c.flight < 0 ∧ 12 ≤ es.length then ⟨ks,ps,es,3⟩ else ⟨ks,ps,putF es c.flight ⟨c.what,c.number,c.value⟩,0⟩) else ⟨ks,ps,es,2⟩
 else ⟨[],[],[],1⟩
def Qf5p : Ent Ty El:=⟨[.ro],2,fun a h=>match a,h with
 | [.agg [.sl .kind ks,.sl .point ps]],[]=>some (Qzta ks ps,.agg [.own 0 [] 0,.own 1 [] 0],[.row .kind ks 0 0 0 .no,.row .point ps 0 0 0 .no])
 | _,_=>none⟩
def Qc1o : Ent Ty El:=⟨[.ro],3,fun a h=>match a,h with
 | [.agg [.sl .kind ks,.sl .point ps,.sl .entry es]],[]=>some (Q8cx ks ps es,.agg [.own 0 [] 0,.own 1 [] 0,.own 2 [] 0],[.row .kind ks 0 0 0 .no,.row .point ps 0 0 0 .no,.row .entry es 1 0 0 .no])
 | _,_=>none⟩
theorem Q1mk {b n : Nat} (hb : b ≤ 256) (hn : n ≤ 500000000000) : decide (n * b ≤ 140737488355328) = true:=by
 have h : n * b ≤ 500000000000 * 256:=Nat.mul_le_mul hn hb
 exact decide_eq_true (by omega)
theorem Qp68 {r : List Fld} {g f : Fld} (h : g.what < f.what) : Qul0 (g :: r) f = g :: Qul0 r f:=by rw [Qul0,if_pos h]
end Lx
namespace Lx
open Go Go.Proofs
end Lx
namespace Lx
open Go Go.Proofs
theorem Q5v6 {es : List Entry} {n : Str} {f : Fld} (h : 0 ≤ entIx es n) : putF es n f = es.set (entIx es n).toNat ⟨(es.getD (entIx es n).toNat (dfltP .entry)).name,Qul0 (es.getD (entIx es n).toNat (dfltP .entry)).fields f⟩:=if_pos h
theorem Qk9v {es : List Entry} {n : Str} {f : Fld} (h : ¬ 0 ≤ entIx es n) : putF es n f = insE es n f:=if_neg h
end Lx
namespace Lx
open Go
section
variable {Ty : Type} {El : Ty → Type} {C : Cod Ty El} {P : Program}
theorem Qewq.frz (hC : CodOK P C) {g : FuncId} {args : List (AV Ty El)} {H : List (AObj Ty El)} {res : AV Ty El} {H' : List (AObj Ty El)} {r d d' : Nat} {T : Ty} {xs : List (El T)} (hk : r < H.length) (hr : hpOf H r = .row T xs d 0 0 .no) (hd : d' ≤ d)
  (h : Qewq P C g args (H.set r (.row T xs d' 0 0 .no)) res H') : Qewq P C g args H res H':=by
 intro w N vs hN hsz hrep
 have ho:=hN.obj r
 rw [hr] at ho
 obtain ⟨B',h1,h2,h3⟩:=Deep.freeze hC d' d _ _ _ _ _ hd ho.2 (fun _ h=>h)
 have hs : Step C (fun k=>k = r) N (N.upd r (N.ν r) B' (rowG C w T xs (N.ν r) d' 0 0 .no) (fun b=>N.F r b ∧ ¬ B' b)) (hpOf H) (setH (hpOf H) r (.row T xs d' 0 0 .no)) w w:=by
  refine Step.row hC hN (fun _ _ _=>rfl) (Nat.le_refl _) ho.1 (fun hL=>h3 _ hL (fun b hb hn=>.inr ⟨hb,hn⟩)) (fun p v u hg=>?_) (fun b hb=>.inl (h1 b hb)) (fun b hb=>.inr hb.1) (fun b hb hn=>hn.2 hb) rfl rfl rfl
  have:=hN.reg r p v u hg
  rw [hr] at this
  cases p with
  | nil=>exact this
  | cons q p=>exact ⟨this.1,fun hm e hl=>this.2 rfl e (Nat.le_trans hl hd)⟩
 have he : hpOf (H.set r (.row T xs d' 0 0 .no)) = setH (hpOf H) r (.row T xs d' 0 0 .no):=by
  funext k
  rw [Qf9x hk]
  by_cases e : k = r
  ·subst e; simp [Q3el]
  ·rw [if_neg e,Que0 _ _ e]
 have hF2 : ∀ k b,(N.upd r (N.ν r) B' (rowG C w T xs (N.ν r) d' 0 0 .no) (fun b=>N.F r b ∧ ¬ B' b)).F k b → N.F k b:=fun k b hb=>by
  by_cases e : k = r
  ·subst e; simp only [Nm.upd_F_self] at hb; exact h1 b hb
  ·simpa [Nm.upd,e] using hb
 have hν2 : ∀ k,(N.upd r (N.ν r) B' (rowG C w T xs (N.ν r) d' 0 0 .no) (fun b=>N.F r b ∧ ¬ B' b)).ν k = N.ν k:=fun k=>by
  by_cases e : k = r
  ·subst e; simp
  ·simp [Nm.upd,e]
 refine (h w _ vs (by rw [he]; exact hN.step hC hs) hsz (fun j v x hv hx=>(hrep j v x hv hx).mono (hs.le hN))).mono ?_
 rintro en w' ⟨v,N',rfl,hH,hv,hio,hroI,hroO,hfr,hF⟩
 refine ⟨v,N',rfl,hH,hv,fun k hk hst=>(hio k (by simpa using hk) hst).trans (hν2 k),fun b hb=>hroI b ((hs.le hN).ro b hb),fun b hb=>?_,⟨hfr.os,hfr.tape,hfr.output,hfr.size,fun b hb hn=>hfr.block b hb (fun ⟨k,hb2⟩=>hn ⟨k,hF2 k b hb2⟩)⟩,fun k b hb=>(hF k b hb).imp id (fun ⟨k',hb'⟩=>⟨k',hF2 k' b hb'⟩)⟩
 rcases hroO b hb with h | h | ⟨k,hb'⟩
 ·rcases h with h | h
  ·exact .inl h
  ·exact .inr (.inr ⟨r,h.1⟩)
 ·exact .inr (.inl h)
 ·exact .inr (.inr ⟨k,hF2 k b hb'⟩)
variable {R : RE Ty El} {f : FuncId}
theorem Cut.frz (hC : CodOK R.P R.C) {id : Nat} {vals : List (AV Ty El)} {h : List (AObj Ty El)} {res : AV Ty El} {H' : List (AObj Ty El)} {r d d' : Nat} {T : Ty} {xs : List (El T)} (hk : r < h.length) (hr : hpOf h r = .row T xs d 0 0 .no) (hd : d' ≤ d)
  (hg : Cut R f id vals (h.set r (.row T xs d' 0 0 .no)) res H') : Cut R f id vals h res H':=by
 intro X N a w hn hm hS
 obtain ⟨N',hS',_⟩:=hS.freeze hC (r:=r) (T:=T) (xs:=xs) (d:=d) (d':=d') (vr:=0) (vn:=0) (vn':=0) hr hd (Nat.le_refl _)
 refine hg X N' a w hn hm ?_
 have he : (cutSt R.fn (Q1m4 R (Qu6t R.fn id)) vals (h.set r (.row T xs d' 0 0 .no))).hpF = setH (cutSt R.fn (Q1m4 R (Qu6t R.fn id)) vals h).hpF r (.row T xs d' 0 0 .no):=by
  funext k
  have e1 : hpOf (h.set r (.row T xs d' 0 0 .no)) k = if k = r then .row T xs d' 0 0 .no else hpOf h k:=Qf9x hk
  by_cases e : k = r
  ·subst e; rw [Q3el]; exact e1.trans (if_pos rfl)
  ·rw [Que0 _ _ e]; exact e1.trans (if_neg e)
 rw [he]
 exact hS'
theorem CutE.frz (hC : CodOK R.P R.C) {id : Nat} {vals : List (AV Ty El)} {h : List (AObj Ty El)} {Q : AV Ty El → List (AObj Ty El) → Prop} {r d d' : Nat} {T : Ty} {xs : List (El T)} (hk : r < h.length) (hr : hpOf h r = .row T xs d 0 0 .no) (hd : d' ≤ d)
  (hg : CutE R f id vals (h.set r (.row T xs d' 0 0 .no)) Q) : CutE R f id vals h Q:=by
 obtain ⟨res,H',h1,h2⟩:=hg
 exact ⟨res,H',Cut.frz hC hk hr hd h1,h2⟩
end
end Lx
namespace Lx
open Go Go.Proofs
end Lx
namespace Lx
open Go Go.Proofs
theorem Q3ut {ks : List Kind} {ps : List Point} {w : Int} {v : Str} (h : fitsV ks ps w v = true) : 1 ≤ w ∧ w ≤ 5:=by
 unfold fitsV at h
 split at h
 ·omega
 ·split at h
  ·omega
  ·split at h
   ·omega
   ·split at h
    ·omega
    ·split at h
     ·omega
     ·cases h
theorem Qd0v {ks : List Kind} {ps : List Point} {n : Str} : ∀ (fs : List Fld) (q : Int),Qt03 ks ps n (some q) fs = true → q ≤ 5 → (fs.length : Int) + q ≤ 5
 | [],q,_,h=>by simpa using h
 | f :: fs,q,h,hq=>by
  simp only [Qt03,Qh2h,qaT,qdT] at h
  obtain ⟨⟨_,_,h1⟩,h2,h3⟩:=h
  have h4:=Q3ut h1
  have:=Qd0v fs f.what h3 h4.2
  simp only [List.length_cons]; omega
theorem Q0bt {ks : List Kind} {ps : List Point} {e : Entry} (h : Q7i7 ks ps e = true) : e.fields.length ≤ 5:=by
 simp only [Q7i7,qaT] at h
 obtain ⟨_,_,h⟩:=h
 cases hf : e.fields with
 | nil=>simp
 | cons f fs =>
  rw [hf] at h
  simp only [Qt03,Qh2h,qaT,qdT] at h
  obtain ⟨⟨_,_,h1⟩,_,h3⟩:=h
  have h4:=Q3ut h1
  have:=Qd0v fs f.what h3 h4.2
  simp only [List.length_cons]; omega
theorem Qmra {ks : List Kind} {ps : List Point} : ∀ (es : List Entry) (q : Option Str),Qgea ks ps q es = true → ∀ e ∈ es,Q7i7 ks ps e = true
 | [],_,_,e,he=>by cases he
 | x :: es,q,h,e,he=>by
  simp only [Qgea,qaT] at h
  rcases List.mem_cons.1 he with rfl | he
  ·exact h.1
  ·exact Qmra es _ h.2.2 e he
theorem Qm34 {ks : List Kind} {ps : List Point} {es : List Entry} (h : Qn0o ks ps es = true) : es.length ≤ 12 ∧ ∀ e ∈ es,e.fields.length ≤ 5:=by
 simp only [Qn0o,qaT,qdT] at h
 exact ⟨h.2.1,fun e he=>Q0bt (Qmra es _ h.2.2 e he)⟩
theorem Q0pd (f : Fld) : ∀ (l : List Fld) (x : Fld),x ∈ Qul0 l f → x = f ∨ x ∈ l
 | [],x,h=>by simp [Qul0] at h; exact .inl h
 | g :: r,x,h=>by
  have ih:=Q0pd f r x
  unfold Qul0 at h
  split at h
  ·rcases List.mem_cons.1 h with h | h
   ·exact .inr (h ▸ List.mem_cons_self ..)
   ·exact (ih h).imp id (List.mem_cons_of_mem _)
  ·split at h
   ·split at h
    ·rcases List.mem_cons.1 h with h | h
     ·exact .inl h
     ·exact .inr (List.mem_cons_of_mem _ h)
    ·exact .inr h
   ·rcases List.mem_cons.1 h with h | h
    ·exact .inl h
    ·exact .inr h
theorem Qwpl (n : Str) (f : Fld) : ∀ (es : List Entry) (x : Entry),x ∈ insE es n f → x = ⟨n,[f]⟩ ∨ x ∈ es
 | [],x,h=>by simp [insE] at h; exact .inl h
 | e :: r,x,h=>by
  unfold insE at h
  split at h
  ·rcases List.mem_cons.1 h with h | h
   ·exact .inr (h ▸ List.mem_cons_self ..)
   ·exact (Qwpl n f r x h).imp id (List.mem_cons_of_mem _)
  ·rcases List.mem_cons.1 h with h | h
   ·exact .inl h
   ·exact .inr h
def goodB (ks : List Kind) (ps : List Point) (es : List Entry) : Bool:=szB es && Q8cx ks ps es
end Lx
namespace Lx
open Go Go.Proofs
end Lx
namespace Lx
open Go Go.Proofs
def Qtv6 (q : Option Int) (w : Int) : Bool:=match q with
 | none=>true
 | some q=>decide (q < w)
theorem Qg5r {ks : List Kind} {ps : List Point} {n : Str} {q : Option Int} {f : Fld} {l : List Fld} : Qt03 ks ps n q (f :: l) = (Qh2h ks ps n f.what f.number f.value && (Qtv6 q f.what && Qt03 ks ps n (some f.what) l)):=by
 cases q <;> rfl
theorem Q853 {es : List Entry} {n : Str} (h : entIx es n < 0) : ∀ e ∈ es,e.name ≠ n:=by
 intro e he hn
 unfold entIx idxF at h
 split at h
 ·omega
 ·rename_i hf
  have:=List.findIdx?_eq_none_iff.1 hf e he
  simp [hn] at this
def goodE (ks : List Kind) (ps : List Point) (es : List Entry) : Bool:=Qn0o ks ps es && goodB ks ps es
end Lx
namespace Lx
open Go Go.Proofs
theorem Q9yw : ∀ a b : Str,Lib.compareBytes a b < 0 ↔ Q7zj a b = true
 | [],[]=>by simp [Lib.compareBytes,Q7zj]
 | [],b :: y=>by simp [Lib.compareBytes,Q7zj]
 | a :: x,[]=>by simp [Lib.compareBytes,Q7zj]
 | a :: x,b :: y=>by
  have ih:=Q9yw x y
  simp only [Lib.compareBytes,Q7zj,Bool.or_eq_true,qaT,qdT,beq_iff_eq]
  by_cases h1 : a < b
  ·simp [h1]
  ·rw [if_neg h1]
   by_cases h2 : b < a
   ·rw [if_pos h2]
    have : a ≠ b:=fun e=>by subst e; exact h1 h2
    simp [h1,this]
   ·rw [if_neg h2,ih]
    have : a = b:=by
     rw [UInt8.lt_iff_toNat_lt] at h1 h2
     exact UInt8.toNat_inj.1 (by omega)
    simp [h1,this]
theorem Qqw5 : ∀ a : Str,Q7zj a a = false
 | []=>rfl
 | a :: x=>by simp [Q7zj,Qqw5 x]
theorem Qi83 {a b : Str} (h : Q7zj a b = true) : Q7zj b a = false:=by
 have:=le_lt a b
 rw [h,Bool.true_or] at this
 simpa using this.symm
theorem lt_trans : ∀ {a b c : Str},Q7zj a b = true → Q7zj b c = true → Q7zj a c = true
 | a,[],c,h1,h2=>by cases a <;> simp [Q7zj] at h1
 | a,b :: y,[],h1,h2=>by simp [Q7zj] at h2
 | [],b :: y,c :: z,h1,h2=>rfl
 | a :: x,b :: y,c :: z,h1,h2=>by
  simp only [Q7zj,Bool.or_eq_true,qaT,qdT,beq_iff_eq] at h1 h2 ⊢
  rcases h1 with h1 | ⟨rfl,h1⟩ <;> rcases h2 with h2 | ⟨rfl,h2⟩
  ·left; rw [UInt8.lt_iff_toNat_lt] at *; omega
  ·exact .inl h1
  ·exact .inl h2
  ·exact .inr ⟨rfl,lt_trans h1 h2⟩
theorem Qj9t (a b : Str) (h1 : Q7zj a b = false) (h2 : Q7zj b a = false) : a = b:=by
 have:=le_lt a b
 rw [h1,h2] at this
 simpa using this
theorem Qgb6 {α : Type} [Inhabited α] (key : α → Str) : Go.Sort.SWO (fun x y : α=>Q7zj (key x) (key y)) :=
 ⟨fun x=>Qqw5 _,fun x y z=>lt_trans,fun x y z h1 h2=>by
  by_cases h3 : Q7zj (key y) (key x) = true
  ·by_cases h4 : Q7zj (key z) (key y) = true
   ·exact Qi83 (lt_trans h4 h3)
   ·have e:=Qj9t (key y) (key z) h2 (by simpa using h4)
    rw [← e]; exact h1
  ·have e:=Qj9t (key x) (key y) h1 (by simpa using h3)
   rw [e]; exact h2⟩
theorem Qy04 {α : Type} [Inhabited α] (key : α → Int) : Go.Sort.SWO (fun x y : α=>decide (key x < key y)) :=
 ⟨fun x=>by simp,fun x y z h1 h2=>by simp only [qdT] at *; omega,fun x y z h1 h2=>by simp only [decide_eq_false_iff_not] at *; omega⟩
theorem Qrj0 {α β : Type} (key : α → β) : ∀ {l : List α},l.Pairwise (fun a b=>key a ≠ key b) → ∀ {a b : α},a ∈ l → b ∈ l → key a = key b → a = b
 | [],_,a,b,ha,_,_=>by cases ha
 | x :: l,h,a,b,ha,hb,he=>by
  rw [List.pairwise_cons] at h
  rcases List.mem_cons.1 ha with h1 | h1
  ·rcases List.mem_cons.1 hb with h2 | h2
   ·rw [h1,h2]
   ·exact absurd (by rw [← h1]; exact he) (h.1 b h2)
  ·rcases List.mem_cons.1 hb with h2 | h2
   ·exact absurd (by rw [← h2]; exact he.symm) (h.1 a h1)
   ·exact Qrj0 key h.2 h1 h2 he
theorem Qhss {α : Type} (key : α → Str) {zs ms : List α} (hm : ms.Pairwise fun a b=>Q7zj (key a) (key b) = true) (hp : zs.Perm ms) (hz : zs.Pairwise fun a b=>¬ Lib.compareBytes (key b) (key a) < 0) : zs = ms:=by
 have ne : ms.Pairwise fun a b=>key a ≠ key b:=hm.imp (fun {a b} h e=>by rw [e,Qqw5] at h; cases h)
 refine hp.eq_of_pairwise (le:=fun a b=>¬ Lib.compareBytes (key b) (key a) < 0) (fun a b ha hb h1 h2=>?_) hz (hm.imp fun {a b} h h2=>?_)
 ·rw [Q9yw] at h1 h2
  exact Qrj0 key ne (hp.mem_iff.1 ha) hb (Qj9t _ _ (by simpa using h2) (by simpa using h1))
 ·rw [Q9yw] at h2
  rw [Qi83 h] at h2; cases h2
theorem Qush {α : Type} (key : α → Int) {zs ms : List α} (hm : ms.Pairwise fun a b=>key a < key b) (hp : zs.Perm ms) (hz : zs.Pairwise fun a b=>¬ key b < key a) : zs = ms:=by
 have ne : ms.Pairwise fun a b=>key a ≠ key b:=hm.imp (fun {a b} h e=>by omega)
 refine hp.eq_of_pairwise (le:=fun a b=>¬ key b < key a) (fun a b ha hb h1 h2=>?_) hz (hm.imp fun {a b} h h2=>?_)
 ·exact Qrj0 key ne (hp.mem_iff.1 ha) hb (by omega)
 ·omega
theorem Q2xh (n : Str) (f : Fld) : ∀ es : List Entry,(insE es n f).Perm (es ++ [⟨n,[f]⟩])
 | []=>.refl _
 | e :: r=>by
  unfold insE
  split
  ·exact (Q2xh n f r).cons e
  ·exact (List.perm_append_comm (l₁:=[⟨n,[f]⟩]) (l₂:=e :: r))
theorem Q4rf {ks : List Kind} {ps : List Point} : ∀ {es : List Entry} {m : Str},Qgea ks ps (some m) es = true → ∀ e ∈ es,Q7zj m e.name = true
 | [],m,_,e,he=>by cases he
 | a :: r,m,h,e,he=>by
  simp only [Qgea,qaT] at h
  rcases List.mem_cons.1 he with rfl | he
  ·exact h.2.1
  ·exact lt_trans h.2.1 (Q4rf h.2.2 e he)
theorem Q90k {ks : List Kind} {ps : List Point} : ∀ {es : List Entry} {q : Option Str},Qgea ks ps q es = true → es.Pairwise fun a b=>Q7zj a.name b.name = true
 | [],_,_=>.nil
 | a :: r,q,h=>by
  simp only [Qgea,qaT] at h
  exact List.pairwise_cons.2 ⟨Q4rf h.2.2,Q90k h.2.2⟩
theorem Qncy (n : Str) (f : Fld) : ∀ {es : List Entry},(es.Pairwise fun a b=>Q7zj a.name b.name = true) → (∀ e ∈ es,e.name ≠ n) → (insE es n f).Pairwise fun a b=>Q7zj a.name b.name = true
 | [],_,_=>by simp [insE]
 | e :: r,h,hn=>by
  rw [List.pairwise_cons] at h
  unfold insE
  split
  ·rename_i hlt
   refine List.pairwise_cons.2 ⟨fun x hx=>?_,Qncy n f h.2 (fun e' he'=>hn e' (List.mem_cons_of_mem _ he'))⟩
   rcases Qwpl _ _ _ _ hx with rfl | hx
   ·exact hlt
   ·exact h.1 x hx
  ·rename_i hlt
   have h1 : Q7zj n e.name = true:=by
    cases h2 : Q7zj n e.name with
    | true=>rfl
    | false=>exact absurd (Qj9t _ _ (by simpa using hlt) h2) (hn e (List.mem_cons_self ..))
   refine List.pairwise_cons.2 ⟨fun x hx=>?_,List.pairwise_cons.2 h⟩
   rcases List.mem_cons.1 hx with rfl | hx
   ·exact h1
   ·exact lt_trans h1 (h.1 x hx)
theorem Qbw4 {es : List Entry} {n : Str} {f : Fld} (hs : es.Pairwise fun a b=>Q7zj a.name b.name = true) (hn : ∀ e ∈ es,e.name ≠ n) {zs : List Entry} (hp : zs.Perm (es ++ [⟨n,[f]⟩])) (hz : zs.Pairwise fun a b=>¬ Lib.compareBytes b.name a.name < 0) : zs = insE es n f :=
 Qhss Entry.name (Qncy n f hs hn) (hp.trans (Q2xh n f es).symm) hz
def Qvhg (l : List Fld) : Prop:=l.Pairwise fun a b=>a.what < b.what
theorem Qc5h {ks : List Kind} {ps : List Point} {n : Str} : ∀ {l : List Fld} {q : Int},Qt03 ks ps n (some q) l = true → ∀ f ∈ l,q < f.what
 | [],q,_,f,hf=>by cases hf
 | a :: r,q,h,f,hf=>by
  simp only [Qg5r,Qtv6,qaT,qdT] at h
  rcases List.mem_cons.1 hf with rfl | hf
  ·exact h.2.1
  ·have:=Qc5h h.2.2 f hf; omega
theorem Qh2w {ks : List Kind} {ps : List Point} {n : Str} : ∀ {l : List Fld} {q : Option Int},Qt03 ks ps n q l = true → Qvhg l
 | [],_,_=>.nil
 | a :: r,q,h=>by
  simp only [Qg5r,qaT] at h
  exact List.pairwise_cons.2 ⟨Qc5h h.2.2,Qh2w h.2.2⟩
theorem Qk3m (f : Fld) : ∀ {l : List Fld},(∀ g ∈ l,g.what ≠ f.what) → (Qul0 l f).Perm (l ++ [f])
 | [],_=>.refl _
 | g :: r,h=>by
  unfold Qul0
  split
  ·exact (Qk3m f (fun g hg=>h g (List.mem_cons_of_mem _ hg))).cons g
  ·rw [if_neg (h g (List.mem_cons_self ..))]
   exact (List.perm_append_comm (l₁:=[f]) (l₂:=g :: r))
theorem Q0fd (f : Fld) : ∀ {l : List Fld},Qvhg l → Qvhg (Qul0 l f)
 | [],_=>by simp [Qul0,Qvhg]
 | g :: r,h=>by
  have h0:=h
  unfold Qvhg at h
  rw [List.pairwise_cons] at h
  unfold Qul0
  split
  ·rename_i hlt
   refine List.pairwise_cons.2 ⟨fun x hx=>?_,Q0fd f h.2⟩
   rcases Q0pd _ _ _ hx with rfl | hx
   ·exact hlt
   ·exact h.1 x hx
  ·split
   ·rename_i he
    split
    ·exact List.pairwise_cons.2 ⟨fun x hx=>by rw [← he]; exact h.1 x hx,h.2⟩
    ·exact h0
   ·refine List.pairwise_cons.2 ⟨fun x hx=>?_,h0⟩
    rcases List.mem_cons.1 hx with rfl | hx
    ·omega
    ·have:=h.1 x hx; omega
theorem Qbxf {l : List Fld} {f : Fld} (hs : Qvhg l) (hn : ∀ g ∈ l,g.what ≠ f.what) {zs : List Fld} (hp : zs.Perm (l ++ [f])) (hz : zs.Pairwise fun a b=>¬ b.what < a.what) : zs = Qul0 l f :=
 Qush Fld.what (Q0fd f hs) (hp.trans (Qk3m f hn).symm) hz
theorem Qlnx {f : Fld} : ∀ {l : List Fld} {k : Nat} (hk : k < l.length),Qvhg l → l[k].what = f.what → Qul0 l f = if Fld.later f l[k] = true then l.set k f else l
 | g :: r,0,hk,hs,he=>by
  simp only [List.getElem_cons_zero] at he ⊢
  rw [Qul0,if_neg (by omega),if_pos he]
  split <;> rfl
 | g :: r,k + 1,hk,hs,he=>by
  unfold Qvhg at hs
  rw [List.pairwise_cons] at hs
  simp only [List.getElem_cons_succ] at he ⊢
  have hk' : k < r.length:=by simpa using hk
  have hlt : g.what < f.what:=by rw [← he]; exact hs.1 _ (List.getElem_mem hk')
  rw [Qp68 hlt,Qlnx hk' hs.2 he]
  split <;> rfl
end Lx
namespace Lx
open Go Go.Proofs
def Qurt (es : List Entry) : Prop:=es.Pairwise fun a b=>Q7zj a.name b.name = true
def mx (o : Option Fld) (f : Fld) : Fld:=match o with
 | none=>f
 | some g=>if Fld.later f g = true then f else g
def Q1re (es : List Entry) : Prop:=Qurt es ∧ ∀ e ∈ es,Qvhg e.fields ∧ e.fields ≠ []
theorem Qwk3 {ks : List Kind} {ps : List Point} {es : List Entry} (h : Qn0o ks ps es = true) : Q1re es:=by
 simp only [Qn0o,qaT] at h
 refine ⟨Q90k h.2.2,fun e he=>?_⟩
 have ho:=Qmra es _ h.2.2 e he
 simp only [Q7i7,qaT,Bool.not_eq_true',decide_eq_false_iff_not] at ho
 exact ⟨Qh2w ho.2.2,fun e2=>ho.2.1 (by rw [e2]; rfl)⟩
end Lx
namespace Lx
open Go
section
variable {Ty : Type} {El : Ty → Type} {C : Cod Ty El} {P : Program}
def swC (k L : Nat) : AV Ty El → AV Ty El
 | .own r p v=>.own (if r = k then L else r) p v
 | c=>c
def swOk : AV Ty El → Bool
 | .own .. | .int .. | .bool .. | .str .. | .nils=>true
 | _=>false
def swO (k L : Nat) : AObj Ty El → AObj Ty El
 | .box cs=>.box (cs.map (swC k L))
 | o=>o
def swBox : AObj Ty El → Bool
 | .box cs=>cs.all swOk
 | .mp ..=>false
 | _=>true
theorem Qwzt {H : List (AObj Ty El)} {r : Nat} (h : H.length ≤ r) : hpOf H r = .gone:=by
 unfold hpOf; rw [qgD,List.getElem?_eq_none h]; rfl
theorem Qewq.moveG (hC : CodOK P C) {g : FuncId} {args : List (AV Ty El)} {H : List (AObj Ty El)} {res res' : AV Ty El} {H' : List (AObj Ty El)} {T : Ty} {xs : List (El T)} {d : Nat} (h : Qewq P C g args H res H') (k : Nat) (hk : k < H'.length) (hlen : H.length ≤ H'.length)
  (hrow : hpOf H' k = .row T xs d 0 0 .no) (hres : ∀ (N N2 : Nm) (w : World) (v : Value),(∀ v c,swOk c = true → RepA C N w v c → RepA C N2 w v (swC k H'.length c)) → (∀ v x,noNm k 6 x = true → RepA C N w v x → RepA C N2 w v x) → RepA C N w v res → RepA C N2 w v res') (hbox : H'.all swBox = true) : Qewq P C g args H res' ((H'.map (swO k H'.length)).set k .out ++ [.row T xs d 0 0 .no]):=by
 intro w N vs hN hsz hrep
 refine (h w N vs hN hsz hrep).mono ?_
 rintro en w' ⟨v,N',rfl,hH,hv,hio,hroI,hroO,hfr,hF⟩
 have hL : hpOf H' H'.length = .gone:=Qwzt (Nat.le_refl _)
 have noF : ∀ b,¬ N'.F H'.length b:=fun b hb=>by
  have:=hH.obj H'.length
  rw [hL] at this
  exact this b hb
 have noG : ∀ p v u,¬ N'.G H'.length p v u:=fun p v u hg=>by
  have:=hH.reg H'.length p v u hg
  rw [hL] at this
  exact this
 have ob : ∀ r,hpOf ((H'.map (swO k H'.length)).set k .out ++ [.row T xs d 0 0 .no]) r = if r = k then .out else if r = H'.length then .row T xs d 0 0 .no else swO k H'.length (hpOf H' r):=fun r=>by
  unfold hpOf
  rw [qgD,qgD]
  by_cases h1 : r = k
  ·subst h1
   rw [List.getElem?_append_left (by simpa using hk),List.getElem?_set,if_pos rfl,if_pos (by simpa using hk),if_pos rfl]; rfl
  ·rw [if_neg h1]
   by_cases h2 : r = H'.length
   ·subst h2
    rw [if_pos rfl,List.getElem?_append_right (by simp)]
    simp
   ·rw [if_neg h2]
    by_cases h3 : r < H'.length
    ·rw [List.getElem?_append_left (by simpa using h3),List.getElem?_set,if_neg (fun e=>h1 e.symm),List.getElem?_map,qeG h3]
     rfl
    ·have : H'.length < r:=by omega
     rw [List.getElem?_append_right (by simp; omega),List.getElem?_eq_none (by simp; omega),List.getElem?_eq_none (by omega)]
     rfl
 let N2 : Nm:={ ν:=fun r=>if r = H'.length then N'.ν k else N'.ν r,F:=fun r b=>(r ≠ k ∧ r ≠ H'.length ∧ N'.F r b) ∨ (r = H'.length ∧ N'.F k b),G:=fun r p v u=>(r ≠ k ∧ r ≠ H'.length ∧ N'.G r p v u) ∨ (r = H'.length ∧ N'.G k p v u),ro:=N'.ro }
 have nek : k ≠ H'.length:=by omega
 have rC : ∀ (v : Value) (c : AV Ty El),swOk c = true → RepA C N' w' v c → RepA C N2 w' v (swC k H'.length c):=fun v c hc hr=>by
  cases hr with
  | own r p ver _ hx =>
   simp only [swC]
   by_cases e : r = k
   ·subst e; rw [if_pos rfl]; exact .own _ _ _ _ (.inr ⟨rfl,hx⟩)
   ·rw [if_neg e]
    exact .own _ _ _ _ (.inl ⟨e,fun e2=>noG p ver v (by rw [← e2]; exact hx),hx⟩)
  | int k n=>exact .int k n
  | bool b=>exact .bool b
  | str s l h=>exact .str s l h
  | nils=>exact .nils
  | _=>simp [swOk] at hc
 refine ⟨v,N2,rfl,⟨fun r=>?_,fun r p v u hg=>?_,fun r=>?_,fun r p v u hg=>?_,fun r r' b h1 h2=>?_,fun r b h1 h2=>?_,hH.roLt,hH.glTo hC (fun _ h=>h) (fun _ _=>rfl)⟩, ?_,fun r hr hst=>?_,hroI,hroO,hfr,fun r b hb=>?_⟩
 ·rw [ob]
  by_cases h1 : r = k
  ·rw [if_pos h1]
   rintro b (hb | hb)
   ·exact hb.1 h1
   ·exact nek (h1.symm.trans hb.1)
  ·rw [if_neg h1]
   by_cases h2 : r = H'.length
   ·rw [if_pos h2]
    have ho:=hH.obj k
    rw [hrow] at ho
    have eν : N2.ν r = N'.ν k:=if_pos h2
    refine ⟨by rw [eν]; exact ho.1, ?_⟩
    rw [eν]
    exact (Deep.cast (N:=N') (N':=N2) hC (fun _ h=>h) (fun _ _=>rfl) _ _ _ _ _ _ ho.2 (fun _ _=>rfl)).blkEq (fun b=>⟨fun hb=>hb.elim (fun hb=>absurd h2 hb.2.1) (fun hb=>hb.2),fun hb=>.inr ⟨h2,hb⟩⟩)
   ·rw [if_neg h2]
    have ho:=hH.obj r
    have eν : N2.ν r = N'.ν r:=if_neg h2
    have eF : ∀ b,N2.F r b ↔ N'.F r b:=fun b=>⟨fun hb=>hb.elim (fun hb=>hb.2.2) (fun hb=>absurd hb.1 h2),fun hb=>.inl ⟨h1,h2,hb⟩⟩
    cases e : hpOf H' r with
    | box cs =>
     rw [e] at ho
     have hm:=Q13r e (by simp)
     have hn : cs.all swOk = true:=qlA.1 hbox _ hm
     obtain ⟨b,arr,t,q1,q2,q3,q4,q5,q6⟩:=ho
     refine ⟨b,arr,t,eν.trans q1,q2,by rw [q3]; simp,q4,fun j v c hj hc=>?_,fun b'=>(eF b').trans (q6 b')⟩
     rw [List.getElem?_map] at hc
     cases e2 : cs[j]? with
     | none=>rw [e2] at hc; cases hc
     | some c0 =>
      rw [e2] at hc
      simp only [Option.map_some,qsI] at hc
      subst hc
      exact rC v c0 (qlA.1 hn c0 (qmG e2)) (q5 j v c0 hj e2)
    | row T' xs' d' vr vn m =>
     rw [e] at ho
     refine ⟨by rw [eν]; exact ho.1, ?_⟩
     rw [eν]
     exact (Deep.cast (N:=N') (N':=N2) hC (fun _ h=>h) (fun _ _=>rfl) _ _ _ _ _ _ ho.2 (fun _ _=>rfl)).blkEq eF
    | mp K V es =>
     have hm:=Q13r e (by simp)
     have hn:=qlA.1 hbox _ hm
     simp [swBox] at hn
    | gone=>rw [e] at ho; exact fun b hb=>ho b ((eF b).1 hb)
    | out=>rw [e] at ho; exact fun b hb=>ho b ((eF b).1 hb)
 ·rw [ob]
  rcases hg with ⟨h1,h2,hg⟩ | ⟨rfl,hg⟩
  ·have eν : N2.ν r = N'.ν r:=if_neg h2
   rw [if_neg h1,if_neg h2,eν]
   have:=hH.reg r p v u hg
   cases e : hpOf H' r <;> rw [e] at this <;> exact this
  ·have eν : N2.ν H'.length = N'.ν k:=if_pos rfl
   rw [if_neg nek.symm,if_pos rfl,eν]
   have:=hH.reg k p v u hg
   rw [hrow] at this
   exact this
 ·rw [ob]
  by_cases h1 : r = k
  ·rw [if_pos h1]; trivial
  ·rw [if_neg h1]
   by_cases h2 : r = H'.length
   ·rw [if_pos h2]
    have hf:=hH.full k
    rw [hrow] at hf
    have eν : N2.ν r = N'.ν k:=if_pos h2
    refine ⟨.inr ⟨h2,by rw [eν]; exact hf.1⟩,fun p u q1 q2 q3 q4=>.inr ⟨h2,hf.2 p u q1 q2 q3 (by rw [← eν]; exact q4)⟩⟩
   ·rw [if_neg h2]
    have eν : N2.ν r = N'.ν r:=if_neg h2
    have hf:=hH.full r
    cases e : hpOf H' r with
    | box cs=>rw [e] at hf; exact .inl ⟨h1,h2,by rw [eν]; exact hf⟩
    | mp K V es=>rw [e] at hf; exact .inl ⟨h1,h2,by rw [eν]; exact hf⟩
    | row T' xs' d' vr vn m=>rw [e] at hf; exact ⟨.inl ⟨h1,h2,by rw [eν]; exact hf.1⟩,fun p u q1 q2 q3 q4=>.inl ⟨h1,h2,hf.2 p u q1 q2 q3 (by rw [← eν]; exact q4)⟩⟩
    | gone=>trivial
    | out=>trivial
 ·rcases hg with ⟨_,_,hg⟩ | ⟨_,hg⟩
  ·exact hH.one _ _ _ _ hg
  ·exact hH.one _ _ _ _ hg
 ·rcases h1 with ⟨a1,a2,a3⟩ | ⟨a1,a3⟩ <;> rcases h2 with ⟨b1,b2,b3⟩ | ⟨b1,b3⟩
  ·exact hH.dist r r' b a3 b3
  ·exact absurd (hH.dist r k b a3 b3) a1
  ·exact absurd (hH.dist r' k b b3 a3) b1
  ·exact a1.trans b1.symm
 ·rcases h1 with ⟨_,_,a3⟩ | ⟨_,a3⟩
  ·exact hH.roNot _ _ a3 h2
  ·exact hH.roNot _ _ a3 h2
 ·exact hres N' N2 w' v rC (fun v x hx hv=>hv.noNm hC (N':=N2) (fun r p v u hr hg=>.inl ⟨hr,fun e=>noG p v u (by rw [← e]; exact hg),hg⟩) (fun _ h=>h) 6 hx) hv
 ·have hrk : r ≠ k:=fun e=>by
   have : hpOf ((H'.map (swO k H'.length)).set k .out ++ [.row T xs d 0 0 .no]) r = .out:=by rw [ob,if_pos e]
   simp [stays,this] at hst
  have hrL : r ≠ H'.length:=by omega
  have eν : N2.ν r = N'.ν r:=if_neg hrL
  rw [eν]
  refine hio r hr ?_
  have e1 : hpOf ((H'.map (swO k H'.length)).set k .out ++ [.row T xs d 0 0 .no]) r = swO k H'.length (hpOf H' r):=by rw [ob,if_neg hrk,if_neg hrL]
  simp only [stays,e1] at hst ⊢
  cases e : hpOf H' r <;> rw [e] at hst <;> exact hst
 ·rcases hb with ⟨_,_,hb⟩ | ⟨_,hb⟩
  ·exact hF _ _ hb
  ·exact hF _ _ hb
theorem Qewq.moveAt (hC : CodOK P C) {g : FuncId} {args : List (AV Ty El)} {H : List (AObj Ty El)} {res : AV Ty El} {H' : List (AObj Ty El)} {T : Ty} {xs : List (El T)} {d : Nat} (h : Qewq P C g args H res H') (k : Nat) (hk : k < H'.length) (hlen : H.length ≤ H'.length)
  (hrow : hpOf H' k = .row T xs d 0 0 .no) (hres : noNm k 6 res = true) (hbox : H'.all swBox = true) : Qewq P C g args H res ((H'.map (swO k H'.length)).set k .out ++ [.row T xs d 0 0 .no]) :=
 h.moveG hC k hk hlen hrow (fun N N2 w v _ h2 hv=>h2 v res hres hv) hbox
theorem Qewq.args {g : FuncId} {args args' : List (AV Ty El)} {H : List (AObj Ty El)} {res : AV Ty El} {H' : List (AObj Ty El)} (h : Qewq P C g args H res H') (hl : args'.length = args.length)
  (hw : ∀ (j : Nat) x x',args[j]? = some x → args'[j]? = some x' → ∀ (N : Nm) (w : World) (v : Value),RepA C N w v x' → RepA C N w v x) : Qewq P C g args' H res H':=by
 intro w N vs hN hsz hrep
 refine h w N vs hN (hsz.trans hl) (fun j v x hv hx=>?_)
 have hj : j < args'.length:=by rw [hl]; exact (qeS.1 hx).1
 exact hw j x _ hx (qeG hj) N w v (hrep j v _ hv (qeG hj))
theorem RepA.nilSl {N : Nm} {w : World} {v : Value} (T : Ty) (h : RepA C N w v .nils) : RepA C N w v (.sl T []):=by cases h; exact .sl0 T none 0
theorem RepA.aggMono {N : Nm} {w : World} {v : Value} {cs ds : List (AV Ty El)} (hl : ds.length = cs.length) (hm : ∀ (j : Nat) c d,cs[j]? = some c → ds[j]? = some d → ∀ u,RepA C N w u c → RepA C N w u d) (h : RepA C N w v (.agg cs)) : RepA C N w v (.agg ds):=by
 cases h with
 | agg vs cs hl' h =>
  refine .agg vs ds (hl'.trans hl.symm) (fun j u d hu hd=>?_)
  have hj : j < cs.length:=by rw [← hl]; exact (qeS.1 hd).1
  exact hm j _ d (qeG hj) hd u (h j u _ hu (qeG hj))
end
end Lx
namespace Lx
open Go Go.Sort Go.Proofs
section
variable {Ty : Type} {El : Ty → Type} {C : Cod Ty El} {P : Program}
def shal : AV Ty El → Value → Prop
 | .int k n,u=>u = .int k n
 | .bool b,u=>u = .bool b
 | .str l,u=>∃ s : ByteArray,u = .string s ∧ s.data.toList = l
 | .sl ..,_=>True
 | .raw ..,_=>True
 | .lt ..,_=>True
 | _,_=>False
structure SEl (C : Cod Ty El) (T : Ty) (p : El T → Bool) where
 i : Nat
 x : El T
 hp : p x = true
 vs : List Value
 len : vs.length = C.sz T
 one : ∀ v ∈ vs,v.oneCell' = true
 sh : ∀ (j : Nat) c u,(C.row T x)[j]? = some c → vs[j]? = some u → shal c u
def mkV : AV Ty El → Value
 | .int k n=>.int k n
 | .bool b=>.bool b
 | .str l=>.string ⟨⟨l⟩⟩
 | _=>.slice none 0 0
def SEl.dflt (hC : CodOK P C) (T : Ty) {p : El T → Bool} (h : p (C.dflt T) = true) : SEl C T p where
 i:=0
 x:=C.dflt T
 hp:=h
 vs:=(C.row T (C.dflt T)).map mkV
 len:=by simp [hC.len]
 one:=fun v hv=>by
  obtain ⟨c,_,rfl⟩:=List.mem_map.1 hv
  cases c <;> rfl
 sh:=fun j c u hc hu=>by
  rw [List.getElem?_map,hc] at hu
  simp only [Option.map_some,qsI] at hu
  subst hu
  have:=hC.cell T _ c (qmG hc)
  cases c <;> first | rfl | trivial | exact ⟨_,rfl,rfl⟩ | (simp [Qvgi] at this)

theorem RowI.resort (hC : CodOK P C) {w w' : World} {K K' : Nat → Nat → Value → AV Ty El → (Nat → Prop) → Prop} {B : Nat → Prop} {v : Value} {S : Ty} {xs : List (El S)} {p : El S → Bool} [Inhabited (SEl C S p)] {e : TypeId} {cells : List Value} {Fs : Nat → Nat → Nat → Prop}
  (h : RowI C w K B v S xs e cells Fs) {g cap : Nat} {cur : Array Value} (hv : v = .slice (some ⟨g,0,none⟩) xs.length cap) (hcap : xs.length ≤ cap) (hml : cap ≤ maxLen) (hsz : cur.size = cap * C.sz S)
  (D D' : Array (SEl C S p)) (hD : D.size = xs.length) (hDi : ∀ i,i < xs.length → D[i]!.i = i ∧ D[i]!.x = xs.getD i (C.dflt S) ∧ D[i]!.vs = (cells.drop (i * C.sz S)).take (C.sz S)) (hp : D'.toList.Perm D.toList)
  (hg' : w'.heap[g]? = some (.cells (putCells id 0 (Go.Sort.flatK SEl.vs (C.sz S) D') cur) e (0,0)))
  (hK : ∀ i i' j u c F,Qvgi c = true → (∀ b,F b → B b ∧ b ≠ g) → K i j u c F → K' i' j u c F) : RowD C w' K' B v S (D'.toList.map SEl.x):=by
 have pos:=hC.pos S
 have hs' : D'.size = xs.length:=by rw [← hD]; simpa using hp.length_eq
 have hcl : cells.length = xs.length * C.sz S:=h.own.1
 have el : ∀ (A : Array (SEl C S p)) (i : Nat) (hi : i < A.size),A[i]! = A[i]:=fun A i hi=>getElem!_pos A i hi
 have mem : ∀ i,i < xs.length → D'[i]!.i < xs.length ∧ D'[i]! = D[D'[i]!.i]!:=fun i hi=>by
  have h1 : D'[i]! ∈ D'.toList:=by rw [el D' i (by omega)]; simp
  obtain ⟨k,hk,hk2⟩:=List.mem_iff_getElem.1 (hp.mem_iff.1 h1)
  have hk' : k < xs.length:=by rw [← hD]; simpa using hk
  have e1 : D[k]! = D'[i]!:=by rw [el D k (by omega)]; simpa using hk2
  have e2:=(hDi k hk').1
  rw [e1] at e2
  rw [e2]; exact ⟨hk',e1.symm⟩
 have lmap : D.toList.map SEl.i = List.range xs.length:=by
  apply List.ext_getElem
  ·simp [hD]
  ·intro i h1 h2
   simp only [List.length_range] at h2
   have:=(hDi i h2).1
   rw [el D i (by omega)] at this
   simpa using this
 have nd : (D'.toList.map SEl.i).Nodup:=(hp.map SEl.i).nodup_iff.2 (by rw [lmap]; exact List.nodup_range)
 have gi : ∀ i,i < xs.length → (D'.toList.map SEl.i)[i]? = some D'[i]!.i:=fun i hi=>by
  rw [List.getElem?_map,el D' i (by omega)]
  simp [hs',hi]
 have inj : ∀ i i',i < xs.length → i' < xs.length → D'[i]!.i = D'[i']!.i → i = i':=fun i i' hi hi' he=>by
  refine (List.getElem?_inj (by simp [hs']; exact hi) nd).1 ?_
  rw [gi i hi,gi i' hi',he]
 have surj : ∀ k,k < xs.length → ∃ i,i < xs.length ∧ D'[i]!.i = k:=fun k hk=>by
  have : k ∈ D'.toList.map SEl.i:=(hp.map SEl.i).mem_iff.2 (by rw [lmap]; simpa using hk)
  obtain ⟨i,hi,hi2⟩:=List.mem_iff_getElem.1 this
  have hi' : i < xs.length:=by simpa [hs'] using hi
  refine ⟨i,hi', ?_⟩
  have:=gi i hi'
  rw [qeG hi] at this
  simp only [qsI] at this
  rw [← this]; exact hi2
 have yl : (D'.toList.map SEl.x).length = xs.length:=by simp [hs']
 have yg : ∀ i,i < xs.length → (D'.toList.map SEl.x).getD i (C.dflt S) = xs.getD D'[i]!.i (C.dflt S):=fun i hi=>by
  obtain ⟨h1,h2⟩:=mem i hi
  rw [← (hDi _ h1).2.1,← h2,el D' i (by omega)]
  simp [hs',hi]
 have fs : (Go.Sort.flatK SEl.vs (C.sz S) D').size = xs.length * C.sz S:=by rw [Go.Sort.size_flatK,hs']
 have lt : ∀ i j,i < xs.length → j < C.sz S → i * C.sz S + j < xs.length * C.sz S:=fun i j hi hj=>by
  have : (i + 1) * C.sz S ≤ xs.length * C.sz S:=Nat.mul_le_mul_right _ hi
  rw [Nat.succ_mul] at this; omega
 have fg : ∀ i j,i < xs.length → j < C.sz S → (Go.Sort.flatK SEl.vs (C.sz S) D')[i * C.sz S + j]! = D'[i]!.vs[j]!:=fun i j hi hj=>by
  rw [Go.Sort.get_flatK _ _ _ _ (by rw [hs']; exact lt i j hi hj)]
  have e1 : (i * C.sz S + j) / C.sz S = i:=(Go.Sort.blk_iff _ _ _ pos).1 ⟨by omega,by omega⟩
  have e2 : (i * C.sz S + j) % C.sz S = j:=by
   rw [Nat.add_comm,Nat.add_mul_mod_self_right]; exact Nat.mod_eq_of_lt hj
  rw [e1,e2]
 have vg : ∀ i j,i < xs.length → j < C.sz S → cells[D'[i]!.i * C.sz S + j]? = some (D'[i]!.vs[j]!):=fun i j hi hj=>by
  obtain ⟨h1,h2⟩:=mem i hi
  have h3:=(hDi _ h1).2.2
  rw [← h2] at h3
  have hlt:=lt _ j h1 hj
  rw [h3,List.getElem!_eq_getElem?_getD,List.getElem?_take_of_lt hj,List.getElem?_drop,qeG (by omega)]
  rfl
 refine ⟨e,(Go.Sort.flatK SEl.vs (C.sz S) D').toList,fun i j=>Fs D'[i]!.i j,h.ty,⟨?_,.inr ⟨g,cap,_, ?_,Nat.zero_le _,hg', ?_,hml, ?_, ?_⟩⟩,fun u hu=>?_,fun b=>?_,fun i j b hi hj=>?_,fun i j i' j' b hi hj hi' hj' h1 h2=>?_,fun i j c hi hc=>?_⟩
 ·rw [yl]; simpa using fs
 ·rw [yl]; exact hv
 ·rw [yl]; exact hcap
 ·simp only [putCells,Array.size_mapIdx]; exact hsz
 ·rw [yl]
  have hle : xs.length * C.sz S ≤ cur.size:=by rw [hsz]; exact Nat.mul_le_mul_right _ hcap
  apply List.ext_getElem
  ·simp only [putCells,List.length_take,Array.length_toList,Array.size_mapIdx,fs]; omega
  ·intro t h1 h2
   simp only [Array.length_toList,fs] at h2
   simp only [putCells,List.getElem_take,Array.getElem_toList,Array.getElem_mapIdx,Nat.zero_le,Nat.zero_add,fs,h2,and_self,if_true,Nat.sub_zero,id]
   exact getElem!_pos _ _ (by rw [fs]; exact h2)
 ·obtain ⟨t,ht,rfl⟩:=List.mem_iff_getElem.1 hu
  simp only [Array.length_toList,fs] at ht
  have hq : t / C.sz S < xs.length:=Nat.div_lt_of_lt_mul (by rw [Nat.mul_comm]; exact ht)
  have e1 : (Go.Sort.flatK SEl.vs (C.sz S) D')[t]! = D'[t / C.sz S]!.vs[t % C.sz S]!:=Go.Sort.get_flatK _ _ _ _ (by rw [hs']; exact ht)
  rw [getElem!_pos _ _ (by rw [fs]; exact ht)] at e1
  rw [Array.getElem_toList,e1]
  refine D'[t / C.sz S]!.one _ ?_
  have hm : t % C.sz S < D'[t / C.sz S]!.vs.length:=by rw [D'[t / C.sz S]!.len]; exact Nat.mod_lt _ pos
  rw [getElem!_pos D'[t / C.sz S]!.vs (t % C.sz S) hm]; exact List.getElem_mem _
 ·rw [h.blk b,yl]
  constructor
  ·rintro (hb | ⟨i,j,hi,hj,hb⟩)
   ·exact .inl hb
   ·obtain ⟨i',h1,h2⟩:=surj i hi
    exact .inr ⟨i',j,h1,hj,by rw [h2]; exact hb⟩
  ·rintro (hb | ⟨i,j,hi,hj,hb⟩)
   ·exact .inl hb
   ·exact .inr ⟨_,j,(mem i hi).1,hj,hb⟩
 ·rw [yl] at hi
  exact h.sep0 _ j b (mem i hi).1 hj
 ·rw [yl] at hi hi'
  have:=h.sep _ j _ j' b (mem i hi).1 hj (mem i' hi').1 hj' h1 h2
  exact ⟨inj i i' hi hi' this.1,this.2⟩
 ·rw [yl] at hi
  rw [yg i hi] at hc
  have hj:=RowI.sz hC hc
  obtain ⟨u,hu,hk⟩:=h.cell _ j c (mem i hi).1 hc
  have hu2:=vg i j hi hj
  rw [hu] at hu2
  refine ⟨u, ?_,hK _ i j u c _ (hC.cell _ _ c (qmG hc)) (fun b hb=>⟨(h.blk b).2 (.inr ⟨_,j,(mem i hi).1,hj,hb⟩),fun e=>?_⟩) hk⟩
  ·have hl:=lt i j hi hj
   rw [hu2,← fg i j hi hj,getElem!_pos _ _ (by rw [fs]; exact hl),← Array.getElem_toList,qeG (by rw [Array.length_toList,fs]; exact hl)]
  ·subst e
   exact h.sep0 _ j b (mem i hi).1 hj hb (by rw [hv]; rfl)
end
end Lx
namespace Lx
open Go Go.Sort Go.Proofs
section
variable {Ty : Type} {El : Ty → Type} {C : Cod Ty El} {P : Program}
def Qja8 (P : Program) (C : Cod Ty El) (T : Ty) (p : El T → Bool) [Inhabited (SEl C T p)] (cmp : El T → El T → Int) (f g : FuncId) : Prop :=
 ∀ (blk cap : Nat) (D : Array (SEl C T p)) (w : World),HoldsK SEl.vs (C.sz T) w blk 0 D → blk < w.heap.size → D.size < 4611686018427387904 →
  Calls P f #[.slice (some ⟨blk,0,none⟩) D.size cap,.func (.func g) #[] #[]] w fun e w'=>e = .returned (.tuple #[]) ∧ ∃ d' n os,PermIn 0 D.size D d' ∧ SortedIn (ltOf fun x y : SEl C T p=>cmp x.x y.x) 0 D.size d' ∧ w' = sortWorldK SEl.vs (C.sz T) w blk 0 n d' os

theorem Qjqt (hC : CodOK P C) {T : Ty} {p : El T → Bool} [Inhabited (SEl C T p)] {cmp : El T → El T → Int} {f g : FuncId} (hs : Qja8 P C T p cmp f g) {w : World} {K : Nat → Nat → Value → AV Ty El → (Nat → Prop) → Prop} (hKs : ∀ i j u c F,K i j u c F → Qvgi c = true → shal c u) {B : Nat → Prop} {v : Value} {xs ys : List (El T)}
  (h : RowD C w K B v T xs) (hall : ∀ x ∈ xs,p x = true) (h0 : 1 ≤ xs.length) (hbig : xs.length < 4611686018427387904) (hu : ∀ zs : List (El T),zs.Perm xs → zs.Pairwise (fun a b=>¬ cmp b a < 0) → zs = ys) :
  Calls P f #[v,.func (.func g) #[] #[]] w fun en w'=>en = .returned (.tuple #[]) ∧ (w'.os = w.os ∧ w'.tape = w.tape ∧ w'.output = w.output ∧ w.heap.size ≤ w'.heap.size) ∧ (∀ b,b < w.heap.size → v.ownBlock ≠ some b → w'.heap[b]? = w.heap[b]?) ∧
   ∀ K' : Nat → Nat → Value → AV Ty El → (Nat → Prop) → Prop,(∀ i i' j u c F,Qvgi c = true → (∀ b,F b → B b ∧ v.ownBlock ≠ some b) → K i j u c F → K' i' j u c F) → RowD C w' K' B v T ys:=by
 obtain ⟨e,cells,Fs,h⟩:=h
 have pos:=hC.pos T
 rcases h.own.2 with ⟨_,hn⟩ | ⟨blk,cap,cur,hv,_,hh,hcap,hml,hsz,htk⟩
 ·omega
 have hcl : cells.length = xs.length * C.sz T:=h.own.1
 have lt : ∀ i,i < xs.length → i * C.sz T + C.sz T ≤ xs.length * C.sz T:=fun i hi=>by
  have : (i + 1) * C.sz T ≤ xs.length * C.sz T:=Nat.mul_le_mul_right _ hi
  rw [Nat.succ_mul] at this; omega
 have mk : ∀ i : Fin xs.length,∃ z : SEl C T p,z.i = i.1 ∧ z.x = xs.getD i.1 (C.dflt T) ∧ z.vs = (cells.drop (i.1 * C.sz T)).take (C.sz T):=fun ⟨i,hi⟩=>by
  have hl:=lt i hi
  refine ⟨⟨i,xs.getD i (C.dflt T),hall _ (by rw [qgD,qeG hi]; exact List.getElem_mem hi),(cells.drop (i * C.sz T)).take (C.sz T),by rw [List.length_take,List.length_drop,hcl]; omega,fun u hu=>h.one u (List.mem_of_mem_drop (List.mem_of_mem_take hu)),fun j c u hc hju=>?_⟩,rfl,rfl,rfl⟩
  have hj:=RowI.sz hC hc
  obtain ⟨u',hu',hk⟩:=h.cell i j c hi hc
  rw [List.getElem?_take_of_lt hj,List.getElem?_drop,hu'] at hju
  simp only [qsI] at hju
  subst hju
  exact hKs _ _ _ _ _ hk (hC.cell _ _ c (qmG hc))
 let D : Array (SEl C T p):=Array.ofFn fun i=>(mk i).choose
 have hD : D.size = xs.length:=by simp [D]
 have hDi : ∀ i,i < xs.length → D[i]!.i = i ∧ D[i]!.x = xs.getD i (C.dflt T) ∧ D[i]!.vs = (cells.drop (i * C.sz T)).take (C.sz T):=fun i hi=>by
  rw [getElem!_pos D i (by rw [hD]; exact hi)]
  have:=(mk ⟨i,hi⟩).choose_spec
  simp only [D,Array.getElem_ofFn]
  exact this
 have hmap : D.toList.map SEl.x = xs:=by
  apply List.ext_getElem
  ·simp [hD]
  ·intro i h1 h2
   have:=(hDi i h2).2.1
   rw [getElem!_pos D i (by rw [hD]; exact h2)] at this
   simpa [h2] using this
 have hflat : Go.Sort.flatK SEl.vs (C.sz T) D = cells.toArray:=by
  refine ext_get! (by rw [Go.Sort.size_flatK,hD]; simpa using hcl.symm) fun t ht=>?_
  rw [Go.Sort.size_flatK] at ht
  rw [Go.Sort.get_flatK _ _ _ _ ht]
  rw [hD] at ht
  have hq : t / C.sz T < xs.length:=Nat.div_lt_of_lt_mul (by rw [Nat.mul_comm]; exact ht)
  have hm : t % C.sz T < C.sz T:=Nat.mod_lt _ pos
  have e1 : t / C.sz T * C.sz T + t % C.sz T = t:=by rw [Nat.mul_comm]; exact Nat.div_add_mod _ _
  rw [(hDi _ hq).2.2,List.getElem!_eq_getElem?_getD,List.getElem?_take_of_lt hm,List.getElem?_drop,e1]
  simp [hcl,ht]
 have hblk : blk < w.heap.size:=(Array.getElem?_eq_some_iff.1 hh).1
 have hH : HoldsK SEl.vs (C.sz T) w blk 0 D:=fun j hj=>by
  rw [hflat] at hj ⊢
  have hj' : j < cells.length:=by simpa using hj
  have hjc : j < cur.size:=by
   rw [hsz]
   exact Nat.lt_of_lt_of_le (by rw [← hcl]; exact hj') (Nat.mul_le_mul_right _ hcap)
  have ec : cells[j]? = cur.toList[j]?:=by rw [← htk,List.getElem?_take_of_lt (by rw [← hcl]; exact hj')]
  constructor
  ·simp only [World.cell?,Nat.zero_add,hh,id]
   rw [getElem!_pos cells.toArray j hj]
   rw [qeG hj'] at ec
   simp only [Array.getElem?_toList] at ec
   simpa using ec.symm
  ·simp [World.frozen?,hh]
 rw [show (v : Value) = .slice (some ⟨blk,0,none⟩) D.size cap by rw [hD]; exact hv]
 refine (hs blk cap D w hH hblk (by rw [hD]; exact hbig)).mono ?_
 rintro en w' ⟨he,D',n,os,hperm,hsort,hw⟩
 rw [hD] at hperm hsort
 have hsz' : D'.size = xs.length:=by rw [hperm.1,hD]
 have ex : ∀ A : Array (SEl C T p),A.size = xs.length → A.extract 0 xs.length = A:=fun A hA=>by rw [← hA]; simp
 have hp : D'.toList.Perm D.toList:=by
  have:=hperm.2.2
  rwa [ex D hD,ex D' hsz'] at this
 have hblks : w'.heap[blk]? = some (.cells (putCells id 0 (Go.Sort.flatK SEl.vs (C.sz T) D') cur) e (0,0)):=by
  subst hw
  unfold sortWorldK grow putRowK putRow mapBlock
  simp only
  rw [Array.getElem?_append_left (by simp [Sort.ahead]; exact hblk),Array.getElem?_modify]
  simp [Sort.ahead,hh,onCells]
 have hys : D'.toList.map SEl.x = ys:=by
  refine hu _ (by rw [← hmap]; exact hp.map SEl.x) ?_
  rw [List.pairwise_map]
  rw [List.pairwise_iff_getElem]
  intro i j hi hj hij
  have:=hsort i j (Nat.zero_le _) hij (by rw [← hsz']; simpa using hj)
  rw [getElem!_pos D' i (by simpa using hi),getElem!_pos D' j (by simpa using hj)] at this
  simpa [ltOf] using this
 refine ⟨he, ?_,fun b hb hne=>?_,fun K' hK'=>?_⟩
 ·subst hw
  refine ⟨rfl,rfl,rfl, ?_⟩
  unfold sortWorldK
  rw [size_grow]
  unfold putRowK
  rw [Go.Sort.size_putRow]
  exact Nat.le_add_right _ _
 ·have hne' : blk ≠ b:=fun e=>hne (by rw [e]; rfl)
  subst hw
  unfold sortWorldK grow putRowK putRow mapBlock
  simp only
  rw [Array.getElem?_append_left (by simp [Sort.ahead]; exact hb),Array.getElem?_modify,if_neg hne']
  rfl
 ·rw [← hys]
  have hv' : Value.slice (some ⟨blk,0,none⟩) D.size cap = v:=by rw [hD]; exact hv.symm
  rw [hv'] at hK' ⊢
  refine RowI.resort hC h hv hcap hml hsz D D' hD hDi hp hblks (fun i i' j u c F hc hF hk=>hK' i i' j u c F hc (fun b hb=>⟨(hF b hb).1,fun e=>(hF b hb).2 ?_⟩) hk)
  rw [hv] at e
  simp only [Value.ownBlock,qsI] at e
  exact e.symm

theorem Qp5u {N : Nm} {w : World} {u : Value} {c : AV Ty El} (h : RepA C N w u c) (hc : Qvgi c = true) : shal c u:=by
 cases h <;> first | rfl | trivial | (rename_i h; exact ⟨_,rfl,h⟩) | (simp [Qvgi] at hc)

theorem Qewq.sortFunc (hC : CodOK P C) {T : Ty} {p : El T → Bool} [Inhabited (SEl C T p)] {cmp : El T → El T → Int} {f g : FuncId} (hs : Qja8 P C T p cmp f g) {xs ys : List (El T)} {d : Nat}
  (hall : ∀ x ∈ xs,p x = true) (h0 : 1 ≤ xs.length) (hbig : xs.length < 4611686018427387904) (hu : ∀ zs : List (El T),zs.Perm xs → zs.Pairwise (fun a b=>¬ cmp b a < 0) → zs = ys) :
  Qewq P C f [.own 0 [] 0,.fn (.func g) []] [.row T xs d 0 0 .no] (.tup []) [.row T ys d 0 0 .no]:=by
 intro w N vs hN hsz hrep
 have ho:=hN.obj 0
 have hh0 : hpOf ([.row T xs d 0 0 .no] : List (AObj Ty El)) 0 = .row T xs d 0 0 .no:=rfl
 have hh0' : hpOf ([.row T ys d 0 0 .no] : List (AObj Ty El)) 0 = .row T ys d 0 0 .no:=rfl
 have hhs : ∀ (zs : List (El T)) r,hpOf ([.row T zs d 0 0 .no] : List (AObj Ty El)) (r + 1) = .gone:=fun zs r=>by simp [hpOf]
 rw [hh0] at ho
 obtain ⟨hone,hdeep⟩:=ho
 have hl0 : 0 < vs.size:=by rw [hsz]; simp
 have hl1 : 1 < vs.size:=by rw [hsz]; simp
 have r0:=(hrep 0 _ _ (Array.getElem?_eq_getElem hl0) rfl).inv_own
 have r1:=hrep 1 _ _ (Array.getElem?_eq_getElem hl1) rfl
 have e0 : vs[0] = N.ν 0:=by
  have:=hN.reg 0 _ _ _ r0
  rw [hh0] at this
  exact this.2 rfl
 have e1 : vs[1] = .func (.func g) #[] #[]:=by
  generalize vs[1] = u at r1
  cases r1 with
  | fn f vs cs hl h =>
   have : vs = #[]:=Array.size_eq_zero_iff.1 (by simpa using hl)
   rw [this]
 have ev : vs = #[N.ν 0,.func (.func g) #[] #[]]:=arr2 (by rw [hsz]; rfl) (by rw [Array.getElem?_eq_getElem hl0,e0]) (by rw [Array.getElem?_eq_getElem hl1,e1])
 rw [ev]
 have hlt : ∀ b,N.F 0 b → b < w.heap.size:=fun b hb=>Deep.lt hC _ _ _ _ _ _ hdeep b hb
 have main : Calls P f #[N.ν 0,.func (.func g) #[] #[]] w fun en w'=>en = .returned (.tuple #[]) ∧ (w'.os = w.os ∧ w'.tape = w.tape ∧ w'.output = w.output ∧ w.heap.size ≤ w'.heap.size) ∧ (∀ b,b < w.heap.size → (N.ν 0).ownBlock ≠ some b → w'.heap[b]? = w.heap[b]?) ∧
   ((∀ b,N.ro b → w'.heap[b]? = w.heap[b]?) → ∀ N' : Nm,(∀ b,N.ro b → N'.ro b) → Deep C N' w' d mskNo (N.F 0) (N.ν 0) T ys):=by
  cases d with
  | zero =>
   refine (Qjqt hC hs (K:=fun _ _ u c F=>flatK C N w u c F) (fun i j u c F hk hc=>Qp5u hk.1 hc) hdeep hall h0 hbig hu).mono ?_
   rintro en w' ⟨h1,h2,h3,h4⟩
   refine ⟨h1,h2,h3,fun hro N' hN'=>h4 (fun _ _ u c F=>flatK C N' w' u c F) (fun i i' j u c F hc hF hk=>⟨hk.1.rfm hC hN' hro 1 (Qo9s hc 0),hk.2⟩)⟩
  | succ d =>
   refine (Qjqt hC hs (K:=fun i j u c F=>deepK C N w (Deep C N w d) (mskP .no) i j u c F) (fun i j u c F hk hc=>?_) hdeep hall h0 hbig hu).mono ?_
   ·cases c <;> first | trivial | exact Qp5u hk.1 hc
   rintro en w' ⟨h1,h2,h3,h4⟩
   refine ⟨h1,h2,h3,fun hro N' hN'=>h4 (fun i j u c F=>deepK C N' w' (Deep C N' w' d) mskNo i j u c F) (fun i i' j u c F hc hF hk=>?_)⟩
   cases c with
   | sl U zs =>
    rcases hk with hk | hk
    ·exact hk.1.elim
    ·refine .inr ⟨fun h=>h, ?_⟩
     exact Deep.cast hC hN' hro d _ F u U zs hk.2 (fun b hb=>h3 b (hlt b (hF b hb).1) (hF b hb).2)
   | _=>exact ⟨hk.1.rfm hC hN' hro 1 (Qo9s hc 0),hk.2⟩
 refine main.mono ?_
 rintro en w' ⟨rfl,⟨hos,htp,hout,hsize⟩,hblk,hdp⟩
 have hown : ∀ b,(N.ν 0).ownBlock = some b → N.F 0 b:=fun b hb=>by
  cases d with
  | zero=>obtain ⟨e,cells,Fs,h⟩:=hdeep; exact (h.blk b).2 (.inl hb)
  | succ d=>obtain ⟨e,cells,Fs,h⟩:=hdeep; exact (h.blk b).2 (.inl hb)
 have hro : ∀ b,N.ro b → w'.heap[b]? = w.heap[b]?:=fun b hb=>hblk b (hN.roLt b hb) (fun e=>hN.roNot 0 b (hown b e) hb)
 let N2 : Nm:={ ν:=N.ν,F:=N.F,G:=fun r p v u=>r = 0 ∧ rowG C w' T ys (N.ν 0) d 0 0 .no p v u,ro:=N.ro }
 have hd2 : Deep C N2 w' d mskNo (N.F 0) (N.ν 0) T ys:=hdp hro N2 (fun _ h=>h)
 refine ⟨.tuple #[],N2,rfl,⟨fun r=>?_,fun r p v u hg=>?_,fun r=>?_,fun r p v u hg=>?_,fun r r' b h1 h2=>hN.dist r r' b h1 h2,fun r b h1 h2=>hN.roNot r b h1 h2,fun b hb=>Nat.lt_of_lt_of_le (hN.roLt b hb) hsize,hN.glTo hC (fun _ h=>h) hro⟩,.tup _ _ rfl (fun j v c hv=>by simp at hv),fun r hr hst=>rfl,fun b hb=>hb,fun b hb=>.inl hb,⟨hos,htp,hout,hsize,fun b hb hn=>hblk b hb (fun e=>hn ⟨0,hown b e⟩)⟩,fun k b hb=>.inr ⟨k,hb⟩⟩
 ·match r with
  | 0=>rw [hh0']; exact ⟨hone,hd2⟩
  | r + 1 =>
   rw [hhs]
   have:=hN.obj (r + 1)
   rw [hhs] at this
   exact this
 ·obtain ⟨rfl,hg⟩:=hg
  rw [hh0']
  rcases hg with ⟨rfl,rfl,rfl⟩ | ⟨hp,hpd,_,rfl,hh⟩
  ·exact ⟨Nat.le_refl _,fun _=>rfl⟩
  ·cases p with
   | nil=>exact absurd rfl hp
   | cons q p=>exact ⟨Nat.le_refl _,fun _ _ _=>hh⟩
 ·match r with
  | 0 =>
   rw [hh0']
   exact ⟨⟨rfl,.inl ⟨rfl,rfl,rfl⟩⟩,fun p u h1 h2 h3 h4=>⟨rfl,.inr ⟨h1,h2,rfl,rfl,h4⟩⟩⟩
  | r + 1=>rw [hhs]; trivial
 ·obtain ⟨rfl,hg⟩:=hg
  rcases hg with ⟨_,_,rfl⟩ | ⟨hp,hpd,_,_,hh⟩
  ·exact hone
  ·exact Qgbe p d _ _ _ _ _ u hd2 (fun _ h=>h) hone hpd hh
end
end Lx
namespace Lx
open Go Go.Proofs
def Qvr6 : Ent Ty El:=Qf5p
def Q2gg : Ent Ty El:=Qc1o
def sortE (l : List Entry) : List Entry:=l.mergeSort fun a b=>!Q7zj b.name a.name
def sortF (l : List Fld) : List Fld:=l.mergeSort fun a b=>!decide (b.what < a.what)
def srtEK (xs : List Entry) : Bool:=decide (1 ≤ xs.length) && (decide (xs.length ≤ 1000000) && decide ((xs.map Entry.name).Nodup))
def srtFK (xs : List Fld) : Bool:=decide (1 ≤ xs.length) && (decide (xs.length ≤ 1000000) && (decide ((xs.map Fld.what).Nodup) && xs.all fun f=>inR f.what (-1000) 1000))
def Qlpg : Ent Ty El:=⟨[.io,.ro],0,fun a h=>match a,h with
 | [.own 0 [] 0,.fn (.func g) []],[.row .entry xs 1 0 0 .no]=>some (decide (g = Qs8v) && srtEK xs,.tup [],[.row .entry (sortE xs) 1 0 0 .no])
 | _,_=>none⟩
def Qpic : Ent Ty El:=⟨[.io,.ro],0,fun a h=>match a,h with
 | [.own 0 [] 0,.fn (.func g) []],[.row .fld xs 0 0 0 .no]=>some (decide (g = Qy91) && srtFK xs,.tup [],[.row .fld (sortF xs) 0 0 0 .no])
 | _,_=>none⟩
def layB (es : List Entry) (n : Str) : Bool:=!(decide (entIx es n < 0) && decide (12 ≤ es.length))
def layF (es : List Entry) (n : Str) (f : Fld) : List Entry:=if layB es n = true then putF es n f else es
def layK (ks : List Kind) (ps : List Point) (es : List Entry) (w : Int) : Bool:=Qn0o ks ps es && (goodB ks ps es && inR w (-1000) 1000)
def Q7p0 : Ent Ty El:=⟨[.io,.ro,.ro],1,fun a h=>match a,h with
 | [.ptr 0 0,.str n,.agg [.int .i64 w,.int .i64 m,.str v]],[.box [.own 1 [] 0,.own 2 [] 0,.own 3 [] 0],.row .kind ks 0 0 0 .no,.row .point ps 0 0 0 .no,.row .entry es 1 0 0 .no] =>
  some (layK ks ps es w,.bool (layB es n),[.box [.own 1 [] 0,.own 2 [] 0,.own 4 [] 0],.row .kind ks 0 0 0 .no,.row .point ps 0 0 0 .no,.out,.row .entry (layF es n ⟨w,m,v⟩) 1 0 0 .no])
 | _,_=>none⟩
theorem Q2ne (l : List Entry) : (sortE l).Perm l ∧ (sortE l).Pairwise (fun a b=>¬ Lib.compareBytes b.name a.name < 0):=by
 refine ⟨List.mergeSort_perm _ _,(List.pairwise_mergeSort (le:=fun a b : Entry=>!Q7zj b.name a.name) (fun a b c h1 h2=>?_) (fun a b=>?_) l).imp fun {a b} h=>?_⟩
 ·simp only [Bool.not_eq_true'] at *
  exact (Qgb6 Entry.name).ntrans c b a h2 h1
 ·simp only [Bool.or_eq_true,Bool.not_eq_true']
  cases h : Q7zj b.name a.name with
  | false=>exact .inl rfl
  | true=>exact .inr (Qi83 h)
 ·rw [Q9yw]; simpa using h
theorem Qcsw (l : List Fld) : (sortF l).Perm l ∧ (sortF l).Pairwise (fun a b=>¬ b.what < a.what):=by
 refine ⟨List.mergeSort_perm _ _,(List.pairwise_mergeSort (le:=fun a b : Fld=>!decide (b.what < a.what)) (fun a b c h1 h2=>?_) (fun a b=>?_) l).imp fun {a b} h=>?_⟩
 ·simp only [Bool.not_eq_true',decide_eq_false_iff_not] at *; omega
 ·simp only [Bool.or_eq_true,Bool.not_eq_true',decide_eq_false_iff_not]; omega
 ·simpa using h
end Lx
namespace Lx
open Go Go.Proofs Go.Sort Go.RowKit
theorem Qzus (a b : ByteArray) (w : World) : Calls Tryz.prog 179 #[.string a,.string b] w fun e w'=>e = .returned (.int .i64 (Lib.compareBytes a.data.toList b.data.toList)) ∧ w' = w:=Any.strings_Compare Tryz.lays106 a b w
theorem grow2 (w : World) (o o' : Obj) : (w.alloc o).alloc o' = grow (w.drewN 0) #[o,o']:=by
 rw [alloc_eq_grow,alloc_eq_grow,grow_grow]; rfl
set_option maxRecDepth 100000 in
theorem Qgyc (a b : ByteArray) (u v : Value) (w : World) (hu : u.oneCell' = true) (hv : v.oneCell' = true) :
  Calls Tryz.prog 178 #[.agg #[.string a,u],.agg #[.string b,v]] w fun e w'=>e = .returned (.int .i64 (Lib.compareBytes a.data.toList b.data.toList)) ∧ ∃ q os',w' = grow (w.drewN q) os':=by
 go_enter Tryz.func178,Tryz.ntmps178
 go_wp2_with (go_at_call 179; refine (Qzus _ _ _).mono ?_; rintro e w' ⟨rfl,rfl⟩)
 go_ret
 exact ⟨rfl,0,_,grow2 _ _ _⟩
set_option maxRecDepth 100000 in
theorem Qjsb (a b c d : Int) (s t : ByteArray) (w : World) (h1 : -1000 ≤ a) (h2 : a ≤ 1000) (h3 : -1000 ≤ c) (h4 : c ≤ 1000) :
  Calls Tryz.prog 181 #[.agg #[.int .i64 a,.int .i64 b,.string s],.agg #[.int .i64 c,.int .i64 d,.string t]] w fun e w'=>e = .returned (.int .i64 (a - c)) ∧ ∃ q os',w' = grow (w.drewN q) os':=by
 go_enter Tryz.func181,Tryz.ntmps181
 go_wp2
 go_ret
 exact ⟨by first | rfl | (rw [Qbrg (by omega) (by omega)]),0,_,grow2 _ _ _⟩
instance : Inhabited (SEl CP .entry (fun _=>true)):=⟨SEl.dflt CP_ok .entry rfl⟩
def okW (f : Fld) : Bool:=inR f.what (-1000) 1000
instance : Inhabited (SEl CP .fld okW):=⟨SEl.dflt CP_ok .fld rfl⟩
theorem list2 {α : Type} {l : List α} (h : l.length = 2) : ∃ a b,l = [a,b]:=by
 match l,h with
 | [a,b],_=>exact ⟨a,b,rfl⟩
theorem list3 {α : Type} {l : List α} (h : l.length = 3) : ∃ a b c,l = [a,b,c]:=by
 match l,h with
 | [a,b,c],_=>exact ⟨a,b,c,rfl⟩
theorem Q488 {p : Entry → Bool} (x : SEl CP .entry p) : ∃ s u,x.vs = [.string s,u] ∧ s.data.toList = x.x.name ∧ u.oneCell' = true:=by
 obtain ⟨a,b,e⟩:=list2 (show x.vs.length = 2 from x.len)
 obtain ⟨s,rfl,hs⟩:=x.sh 0 (.str x.x.name) a rfl (by rw [e]; rfl)
 exact ⟨s,b,e,hs,x.one b (by rw [e]; simp)⟩
theorem Qcbp {p : Fld → Bool} (x : SEl CP .fld p) : ∃ n s,x.vs = [.int .i64 x.x.what,.int .i64 n,.string s]:=by
 obtain ⟨a,b,c,e⟩:=list3 (show x.vs.length = 3 from x.len)
 have h0 : a = .int .i64 x.x.what:=x.sh 0 (.int .i64 x.x.what) a rfl (by rw [e]; rfl)
 have h1 : b = .int .i64 x.x.number:=x.sh 1 (.int .i64 x.x.number) b rfl (by rw [e]; rfl)
 obtain ⟨s,h2,_⟩:=x.sh 2 (.str x.x.value) c rfl (by rw [e]; rfl)
 exact ⟨_,s,by rw [e,h0,h1,h2]⟩
theorem Qnjx : Qja8 Tryz.prog CP .entry (fun _=>true) (fun a b : Entry=>Lib.compareBytes a.name b.name) Qq3g Qs8v:=by
 intro blk cap D w hH hblk hsz
 have hlt : (ltOf fun x y : SEl CP .entry (fun _=>true)=>Lib.compareBytes x.x.name y.x.name) = fun x y=>Q7zj x.x.name y.x.name:=by
  funext x y
  unfold ltOf
  have:=Q9yw x.x.name y.x.name
  cases h : Q7zj x.x.name y.x.name with
  | true=>exact decide_eq_true (this.2 h)
  | false=>exact decide_eq_false (fun h2=>by rw [this.1 h2] at h; cases h)
 refine AnyQ.slices_SortFunc Tryz.laysE 2 Tryz.isAgg92 Tryz.sizeOf92 SEl.vs (fun x : SEl CP .entry (fun _=>true)=>x.len) (fun x=>x.one) (fun x y=>Lib.compareBytes x.x.name y.x.name) (by rw [hlt]; exact Qgb6 fun x : SEl CP .entry (fun _=>true)=>x.x.name) 178 #[] blk 0 cap D w (enters_of Tryz.func178 (by kernel_rfl) rfl) ?_ hH hblk hsz
 intro m os dk hs x y
 obtain ⟨s,u,e1,e2,e3⟩:=Q488 x
 obtain ⟨s',u',f1,f2,f3⟩:=Q488 y
 have hw:=Qgyc s s' u u' (sortWorldK SEl.vs 2 w blk 0 m dk os) e3 f3
 rw [e2,f2] at hw
 rw [e1,f1]
 exact hw
theorem Qmd2 : Qja8 Tryz.prog CP .fld okW (fun a b : Fld=>a.what - b.what) Qbq3 Qy91:=by
 intro blk cap D w hH hblk hsz
 have hlt : (ltOf fun x y : SEl CP .fld okW=>x.x.what - y.x.what) = fun x y=>decide (x.x.what < y.x.what):=by
  funext x y
  unfold ltOf
  rw [decide_eq_decide]; show x.x.what - y.x.what < 0 ↔ _; omega
 refine AnyQ.slices_SortFunc Tryz.laysF 3 Tryz.isAgg94 Tryz.sizeOf94 SEl.vs (fun x : SEl CP .fld okW=>x.len) (fun x=>x.one) (fun x y=>x.x.what - y.x.what) (by rw [hlt]; exact Qy04 fun x : SEl CP .fld okW=>x.x.what) 181 #[] blk 0 cap D w (enters_of Tryz.func181 (by kernel_rfl) rfl) ?_ hH hblk hsz
 intro m os dk hs x y
 obtain ⟨n,s,e⟩:=Qcbp x
 obtain ⟨n',s',e'⟩:=Qcbp y
 have hx:=x.hp
 have hy:=y.hp
 simp only [okW,inR,qaT,qdT] at hx hy
 rw [e,e']
 exact Qjsb _ _ _ _ _ _ _ hx.1 hx.2 hy.1 hy.2
theorem Qudc {α β : Type} (key : α → β) {l : List α} (h : (l.map key).Nodup) : l.Pairwise fun a b=>key a ≠ key b:=List.pairwise_map.1 h
theorem Qct0 (xs : List Entry) (hg : srtEK xs = true) : Qewq Tryz.prog CP Qq3g [.own 0 [] 0,.fn (.func Qs8v) []] [.row .entry xs 1 0 0 .no] (.tup []) [.row .entry (sortE xs) 1 0 0 .no]:=by
 simp only [srtEK,qaT,qdT] at hg
 obtain ⟨h1,h2,h3⟩:=hg
 have ne:=Qudc Entry.name h3
 refine Qewq.sortFunc CP_ok Qnjx (fun _ _=>rfl) h1 (Nat.lt_of_le_of_lt h2 (by decide)) (fun zs hp hz=>?_)
 obtain ⟨hp2,hs2⟩:=Q2ne xs
 refine (hp.trans hp2.symm).eq_of_pairwise (le:=fun a b : Entry=>¬ Lib.compareBytes b.name a.name < 0) (fun a b ha hb q1 q2=>?_) hz hs2
 rw [Q9yw] at q1 q2
 exact Qrj0 Entry.name ne (hp.mem_iff.1 ha) (hp2.mem_iff.1 hb) (Qj9t _ _ (by simpa using q2) (by simpa using q1))
theorem Q15v (xs : List Fld) (hg : srtFK xs = true) : Qewq Tryz.prog CP Qbq3 [.own 0 [] 0,.fn (.func Qy91) []] [.row .fld xs 0 0 0 .no] (.tup []) [.row .fld (sortF xs) 0 0 0 .no]:=by
 simp only [srtFK,qaT,qdT] at hg
 obtain ⟨h1,h2,h3,h4⟩:=hg
 have ne:=Qudc Fld.what h3
 refine Qewq.sortFunc CP_ok Qmd2 (fun x hx=>qlA.1 h4 x hx) h1 (Nat.lt_of_le_of_lt h2 (by decide)) (fun zs hp hz=>?_)
 obtain ⟨hp2,hs2⟩:=Qcsw xs
 refine (hp.trans hp2.symm).eq_of_pairwise (le:=fun a b : Fld=>¬ b.what < a.what) (fun a b ha hb q1 q2=>?_) (hz.imp fun {a b} h=>by omega) hs2
 exact Qrj0 Fld.what ne (hp.mem_iff.1 ha) (hp2.mem_iff.1 hb) (by omega)
theorem Q9pe : EntOK Tryz.prog CP Qq3g Qlpg:=by
 refine ⟨eob (by kernel_rfl),fun _ _ _ _ h=>?_⟩
 simp only [Qlpg] at h
 split at h
 ·simp only [qsI,qpI,qaT,qdT] at h
  obtain ⟨⟨rfl,hg⟩,rfl,rfl⟩:=h
  exact Qct0 _ hg
 ·cases h
theorem Qp8x : EntOK Tryz.prog CP Qbq3 Qpic:=by
 refine ⟨eob (by kernel_rfl),fun _ _ _ _ h=>?_⟩
 simp only [Qpic] at h
 split at h
 ·simp only [qsI,qpI,qaT,qdT] at h
  obtain ⟨⟨rfl,hg⟩,rfl,rfl⟩:=h
  exact Q15v _ hg
 ·cases h
end Lx
namespace Lx
open Go Go.Proofs
noncomputable def Qmyl : RE Ty El:=⟨Tryz.prog,CP,[],Tryz.f148,0,[],[]⟩
theorem Qzd8 : REOK Qmyl Qcg7:=⟨CP_ok,Qye1,by kernel_rfl,by kernel_rfl⟩
theorem Qizp (a b c d : Int) (s t : Str) : aRun Qmyl 600 false (body0 Qmyl.fn) (Q4gm Qmyl.fn [.agg [.int .i64 a,.int .i64 b,.str s],.agg [.int .i64 c,.int .i64 d,.str t]] []) =
 ifb (decide (b > d)) (some (.ret (.bool true) [])) (ifb (b == d) (some (.ret (.bool (!(Q7zj s t || s == t))) [])) (some (.ret (.bool false) []))):=by kernel_rfl
theorem Qfh4 (a b c d : Int) (s t : Str) : Qewq Tryz.prog CP Qcg7 [.agg [.int .i64 a,.int .i64 b,.str s],.agg [.int .i64 c,.int .i64 d,.str t]] [] (.bool (Fld.later ⟨a,b,s⟩ ⟨c,d,t⟩)) []:=by
 refine Qewq.of Qzd8 (by kernel_rfl) (Qizp a b c d s t) ?_
 rw [le_lt,Bool.not_not]
 by_cases h : b = d
 ·subst h
  rw [show decide (b > b) = false by simp,show (b == b) = true by simp,show Fld.later ⟨a,b,s⟩ ⟨c,b,t⟩ = Q7zj t s from if_pos rfl]
  exact Sat.ret rfl rfl
 ·rw [show (b == d) = false by simp [h],show Fld.later ⟨a,b,s⟩ ⟨c,d,t⟩ = decide (b > d) from if_neg h]
  cases decide (b > d) <;> exact Sat.ret rfl rfl
theorem Q2xi : EntOK Tryz.prog CP Qcg7 Qdx1:=by
 refine ⟨eob (by kernel_rfl),fun _ _ _ _ h=>?_⟩
 simp only [Qdx1,Q7bn] at h
 split at h
 ·obtain ⟨hg,rfl,rfl⟩:=eoh h
  exact Qfh4 _ _ _ _ _ _
 ·cases h

noncomputable def Q75r : RE Ty El:=⟨Tryz.prog,CP,[],Tryz.f175,0,[.agg [.own .kind,.own .point]],[]⟩
theorem Qqki : REOK Q75r Qr5h:=⟨CP_ok,Qye1,by kernel_rfl,by kernel_rfl⟩
theorem Qcd3 (ks : List Kind) (ps : List Point) : aRun Q75r 600 false (body0 Q75r.fn) (Q4gm Q75r.fn [.agg [.sl .kind ks,.sl .point ps]] []) =
 ifb (decide (ks.length * Qbhn Q75r.P (40 : Nat) ≤ (140737488355328 : Nat))) (ifb (decide (ps.length * Qbhn Q75r.P (160 : Nat) ≤ (140737488355328 : Nat))) (some (.ret (.agg [.own 0 [] 0,.own 1 [] 0]) [.row .kind ks 0 0 0 .no,.row .point ps 0 0 0 .no])) (none)) (none):=by kernel_rfl
theorem Qqpn (ks : List Kind) (ps : List Point) (hg : Qzta ks ps = true) : Qewq Tryz.prog CP Qr5h [.agg [.sl .kind ks,.sl .point ps]] [] (.agg [.own 0 [] 0,.own 1 [] 0]) [.row .kind ks 0 0 0 .no,.row .point ps 0 0 0 .no]:=by
 refine Qewq.of Qqki (by kernel_rfl) (Qcd3 ks ps) ?_
 simp only [Qzta,Q6lz,Qjyp,qaT,qdT] at hg
 obtain ⟨⟨g0,_⟩,⟨g1,_⟩,_⟩:=hg
 have hb40 : Qbhn Q75r.P 40 ≤ 256:=of_decide_eq_true (by kernel_rfl)
 have hb160 : Qbhn Q75r.P 160 ≤ 256:=of_decide_eq_true (by kernel_rfl)
 rw [Q1mk hb40 (by first | omega | (simp; omega)),Q1mk hb160 (by first | omega | (simp; omega))]
 exact Sat.ret rfl rfl
theorem Qwwc : EntOK Tryz.prog CP Qr5h Qvr6:=by
 refine ⟨eob (by kernel_rfl),fun _ _ _ _ h=>?_⟩
 simp only [Qvr6,Qf5p] at h
 split at h
 ·obtain ⟨hg,rfl,rfl⟩:=eoh h
  exact Qqpn _ _ hg
 ·cases h

noncomputable def Q6c7 : RE Ty El:=⟨Tryz.prog,CP,[(Qr5h,Qvr6)],Tryz.f97,0,[.agg [.own .kind,.own .point,.own .entry]],[(3,[(2,.any),(3,.any),(11,.any),(12,.any),(13,.any)])]⟩
theorem Qzme : REOK Q6c7 Qlpu:=⟨CP_ok,(TabOK.cons Qwwc Qye1),by kernel_rfl,by kernel_rfl⟩
theorem Qcot (ks : List Kind) (ps : List Point) (es : List Entry) : aRun Q6c7 600 false (body0 Q6c7.fn) (Q4gm Q6c7.fn [.agg [.sl .kind ks,.sl .point ps,.sl .entry es]] []) =
 ifb (Qzta ks ps) (some (.go (Qu6t Q6c7.fn 3) [.ptr 0 0,.ptr 1 0,.sl .entry es,.int .i64 (↑es.length : Int),.int .i64 0] [.box [.nils,.nils,.nils],.box [.own 2 [] 0,.own 3 [] 0,.nils],.row .kind ks 0 0 0 .no,.row .point ps 0 0 0 .no])) (none):=by kernel_rfl
theorem Q4dj (x0 : List (El .entry)) (x1 : Int) (x2 : Int) (x3 : List (El .kind)) (x4 : List (El .point)) : aRun Q6c7 600 true (Qu6t Q6c7.fn 3) (cutSt Q6c7.fn (Q1m4 Q6c7 (Qu6t Q6c7.fn 3)) [.ptr 0 0,.ptr 1 0,.sl .entry x0,.int .i64 x1,.int .i64 x2] [.box [.nils,.nils,.nils],.box [.own 2 [] 0,.own 3 [] 0,.nils],.row .kind x3 0 0 0 .no,.row .point x4 0 0 0 .no]) =
 ifb (decide (x2 < x1)) (ifb (inb x2 x0.length) (ifb (decide ((x0.getD x2.toNat (Q6c7.C.dflt Ty.entry)).fields.length * Qbhn Q6c7.P (94 : Nat) ≤ (140737488355328 : Nat))) (some (.go (Qu6t Q6c7.fn 3) [.ptr 0 0,.ptr 1 0,.sl .entry x0,.int .i64 x1,.int .i64 (IntKind.i64.wrap (x2 + 1))] [.box [.nils,.nils,.nils],.box [.own 2 [] 0,.own 3 [] 0,.own 4 [] 0],.row .kind x3 0 0 0 .no,.row .point x4 0 0 0 .no,.row .entry [x0.getD x2.toNat (Q6c7.C.dflt Ty.entry)] 1 0 0 .no])) (none)) (none)) (some (.ret (.agg [.own 0 [] 0,.own 1 [] 0,.own 2 [] 0]) [.row .kind x3 0 0 0 .no,.row .point x4 0 0 0 .no,.row .entry [] 1 0 0 .no])):=by kernel_rfl
theorem Qksv (x0 : List (El .entry)) (x1 : Int) (x2 : Int) (x3 : List (El .kind)) (x4 : List (El .point)) (x5 : List (El .entry)) : aRun Q6c7 600 true (Qu6t Q6c7.fn 3) (cutSt Q6c7.fn (Q1m4 Q6c7 (Qu6t Q6c7.fn 3)) [.ptr 0 0,.ptr 1 0,.sl .entry x0,.int .i64 x1,.int .i64 x2] [.box [.nils,.nils,.nils],.box [.own 2 [] 0,.own 3 [] 0,.own 4 [] 0],.row .kind x3 0 0 0 .no,.row .point x4 0 0 0 .no,.row .entry x5 1 0 0 .no]) =
 ifb (decide (x2 < x1)) (ifb (inb x2 x0.length) (ifb (decide ((x0.getD x2.toNat (Q6c7.C.dflt Ty.entry)).fields.length * Qbhn Q6c7.P (94 : Nat) ≤ (140737488355328 : Nat))) (ifb (decide ((x5.length + [x0.getD x2.toNat (Q6c7.C.dflt Ty.entry)].length) * Qbhn Q6c7.P (92 : Nat) ≤ (140737488355328 : Nat))) (some (.go (Qu6t Q6c7.fn 3) [.ptr 0 0,.ptr 1 0,.sl .entry x0,.int .i64 x1,.int .i64 (IntKind.i64.wrap (x2 + 1))] [.box [.nils,.nils,.nils],.box [.own 2 [] 0,.own 3 [] 0,.own 4 [] 0],.row .kind x3 0 0 0 .no,.row .point x4 0 0 0 .no,.row .entry (x5 ++ [x0.getD x2.toNat (Q6c7.C.dflt Ty.entry)]) 1 0 0 .no])) (none)) (none)) (none)) (some (.ret (.agg [.own 0 [] 0,.own 1 [] 0,.own 2 [] 0]) [.row .kind x3 0 0 0 .no,.row .point x4 0 0 0 .no,.row .entry x5 1 0 0 .no])):=by kernel_rfl
theorem Qzou (ks : List Kind) (ps : List Point) (es : List Entry) (g0 : es.length ≤ 1000000000) (g1 : es.all (fun z : Entry=>Qytc z.name z.fields) = true) : ∀ (d i : Nat),i + d = es.length →
  Cut Q6c7 Qlpu 3 [.ptr 0 0,.ptr 1 0,.sl .entry es,.int .i64 (es.length : Int),.int .i64 (i : Int)] [.box [.nils,.nils,.nils],.box [.own 2 [] 0,.own 3 [] 0,.own 4 [] 0],.row .kind ks 0 0 0 .no,.row .point ps 0 0 0 .no,.row .entry (es.take i) 1 0 0 .no] (.agg [.own 0 [] 0,.own 1 [] 0,.own 2 [] 0]) [.row .kind ks 0 0 0 .no,.row .point ps 0 0 0 .no,.row .entry es 1 0 0 .no]:=by
 have hb92 : Qbhn Q6c7.P 92 ≤ 256:=of_decide_eq_true (by kernel_rfl)
 have hb94 : Qbhn Q6c7.P 94 ≤ 256:=of_decide_eq_true (by kernel_rfl)
 intro d
 induction d with
 | zero =>
  intro i hi
  refine Cut.of Qzme rfl (Qksv es es.length i ks ps _) ?_
  rw [show decide ((i : Int) < (es.length : Int)) = false from decide_eq_false (by omega),List.take_of_length_le (by omega)]
  exact Sat.ret rfl rfl
 | succ d ih =>
  intro i hi
  refine Cut.of Qzme rfl (Qksv es es.length i ks ps _) ?_
  have hlt : i < es.length:=by omega
  have hw : IntKind.wrap .i64 ((i : Int) + 1) = ((i + 1 : Nat) : Int):=by rw [Qbrg] <;> omega
  have hx : es.getD (i : Int).toNat (Q6c7.C.dflt .entry) = es[i]:=by simp [hlt]
  have hin : inb (i : Int) es.length = true:=by simp only [inb,qaT,qdT]; omega
  have hlo : decide ((i : Int) < (es.length : Int)) = true:=decide_eq_true (by omega)
  have htk:=qtS hlt
  have hz:=qlA.1 g1 es[i] (List.getElem_mem hlt)
  simp only [Qytc,Qckx,qaT,qdT] at hz
  rw [hlo,hin,hx,hw,Q1mk hb94 (by first | omega | (simp; omega)),Q1mk hb92 (by first | omega | (simp; omega))]
  simp only [Qd8q,List.nil_append]
  have nx:=ih (i + 1) (by omega)
  rw [htk] at nx
  exact Sat.cut nx
theorem Ql8o (ks : List Kind) (ps : List Point) (es : List Entry) (g0 : es.length ≤ 1000000000) (g1 : es.all (fun z : Entry=>Qytc z.name z.fields) = true) :
  Cut Q6c7 Qlpu 3 [.ptr 0 0,.ptr 1 0,.sl .entry es,.int .i64 (es.length : Int),.int .i64 (0 : Int)] [.box [.nils,.nils,.nils],.box [.own 2 [] 0,.own 3 [] 0,.nils],.row .kind ks 0 0 0 .no,.row .point ps 0 0 0 .no] (.agg [.own 0 [] 0,.own 1 [] 0,.own 2 [] 0]) [.row .kind ks 0 0 0 .no,.row .point ps 0 0 0 .no,.row .entry es 1 0 0 .no]:=by
 have hb92 : Qbhn Q6c7.P 92 ≤ 256:=of_decide_eq_true (by kernel_rfl)
 have hb94 : Qbhn Q6c7.P 94 ≤ 256:=of_decide_eq_true (by kernel_rfl)
 refine Cut.of Qzme rfl (Q4dj es es.length 0 ks ps) ?_
 cases es with
 | nil=>exact Sat.ret rfl rfl
 | cons e es =>
  have hz:=g1
  rw [List.all_cons,qaT] at hz
  replace hz:=hz.1
  simp only [Qytc,Qckx,qaT,qdT] at hz
  have hi0 : inb (0 : Int) (e :: es).length = true:=by simp only [inb,qaT,qdT,List.length_cons]; omega
  have hx0 : (e :: es).getD (Int.toNat 0) (Q6c7.C.dflt .entry) = e:=rfl
  rw [show decide ((0 : Int) < ((e :: es).length : Int)) = true from decide_eq_true (by simp only [List.length_cons]; omega),hi0,hx0,Q1mk hb94 (by first | omega | (simp; omega))]
  simp only [Qd8q,List.nil_append]
  exact Sat.cut (Qzou ks ps (e :: es) g0 g1 es.length 1 (by simp only [List.length_cons]; omega))
theorem Qe6m (ks : List Kind) (ps : List Point) (es : List Entry) (hg : Q8cx ks ps es = true) : Qewq Tryz.prog CP Qlpu [.agg [.sl .kind ks,.sl .point ps,.sl .entry es]] [] (.agg [.own 0 [] 0,.own 1 [] 0,.own 2 [] 0]) [.row .kind ks 0 0 0 .no,.row .point ps 0 0 0 .no,.row .entry es 1 0 0 .no]:=by
 refine Qewq.of Qzme (by kernel_rfl) (Qcot ks ps es) ?_
 simp only [Q8cx,qaT] at hg
 obtain ⟨g0,g1,g2,_⟩:=hg
 rw [show Qzta ks ps = true by simp only [Qzta,g0,g1,Bool.and_true]]
 simp only [Qnwa,qaT,qdT] at g2
 exact Sat.cut (Ql8o ks ps es g2.1 g2.2)
theorem Qusr : EntOK Tryz.prog CP Qlpu Q2gg:=by
 refine ⟨eob (by kernel_rfl),fun _ _ _ _ h=>?_⟩
 simp only [Q2gg,Qc1o] at h
 split at h
 ·obtain ⟨hg,rfl,rfl⟩:=eoh h
  exact Qe6m _ _ _ hg
 ·cases h

noncomputable def Qnpa : RE Ty El:=⟨Tryz.prog,CP,[(Q659,Qb5f),(Qcg7,Qdx1),(Qq3g,Qlpg),(Qbq3,Qpic)],Tryz.f98,4,[],[(10,[(5,.any),(8,.any),(51,.any),(52,.any)])]⟩
theorem Q9op : REOK Qnpa Qg00:=⟨CP_ok,(TabOK.cons Q4vp (TabOK.cons Q2xi (TabOK.cons Q9pe (TabOK.cons Qp8x Qye1)))),by kernel_rfl,by kernel_rfl⟩
theorem Qqqo (ks : List Kind) (ps : List Point) (es : List Entry) (n : Str) (w m : Int) (v : Str) : aRun Qnpa 600 false (body0 Qnpa.fn) (Q4gm Qnpa.fn [.ptr 0 0,.str n,.agg [.int .i64 w,.int .i64 m,.str v]] [.box [.own 1 [] 0,.own 2 [] 0,.own 3 [] 0],.row .kind ks 0 0 0 .no,.row .point ps 0 0 0 .no,.row .entry es 1 0 0 .no]) =
 ifb (decide (es.length < (1000000000 : Nat))) (ifb (decide (idxF (fun p=>p.name == n) es < 0)) (ifb (decide ((↑es.length : Int) ≥ (12 : Int))) (some (.ret (.bool false) [.box [.own 1 [] 0,.own 2 [] 0,.own 3 [] 0],.row .kind ks 0 0 0 .no,.row .point ps 0 0 0 .no,.row .entry es 1 0 0 .no])) (ifb (decide ((es.length + [Entry.mk n [Fld.mk w m v]].length) * Qbhn Qnpa.P (92 : Nat) ≤ (140737488355328 : Nat))) (ifb (decide ((178 : Nat) = Qs8v) && srtEK (es ++ [Entry.mk n [Fld.mk w m v]])) (some (.ret (.bool true) [.box [.own 1 [] 0,.own 2 [] 0,.own 4 [] 0],.row .kind ks 0 0 0 .no,.row .point ps 0 0 0 .no,.out,.row .entry (sortE (es ++ [Entry.mk n [Fld.mk w m v]])) 1 0 0 .no])) (none)) (none))) (ifb (inb (idxF (fun p=>p.name == n) es) es.length) (some (.go (Qu6t Qnpa.fn 10) [.ptr 4 0,.eptr 3 [] 0 2 (Int.toNat (idxF (fun p=>p.name == n) es)) 0,.int .i64 ((↑(es.getD (idxF (fun p=>p.name == n) es).toNat (Qnpa.C.dflt Ty.entry)).fields.length : Int)),.int .i64 0] [.box [.own 1 [] 0,.own 2 [] 0,.own 3 [] 0],.row .kind ks 0 0 0 .no,.row .point ps 0 0 0 .no,.row .entry es 1 0 0 .no,.box [.int .i64 w,.int .i64 m,.str v]])) (none))) (none):=by kernel_rfl
theorem Qv3c (x0 : Nat) (x1 : Int) (x2 : Int) (x3 : List (El .kind)) (x4 : List (El .point)) (x5 : List (El .entry)) (x6 : Int) (x7 : Int) (x8 : Str) : aRun Qnpa 600 true (Qu6t Qnpa.fn 10) (cutSt Qnpa.fn (Q1m4 Qnpa (Qu6t Qnpa.fn 10)) [.ptr 4 0,.eptr 3 [] 0 2 x0 0,.int .i64 x1,.int .i64 x2] [.box [.own 1 [] 0,.own 2 [] 0,.own 3 [] 0],.row .kind x3 0 0 0 .no,.row .point x4 0 0 0 .no,.row .entry x5 1 0 0 .no,.box [.int .i64 x6,.int .i64 x7,.str x8]]) =
 ifb (decide (x2 < x1)) (ifb (inb x2 (x5.getD x0 (Qnpa.C.dflt Ty.entry)).fields.length) (ifb (((x5.getD x0 (Qnpa.C.dflt Ty.entry)).fields.getD x2.toNat (Qnpa.C.dflt Ty.fld)).what == x6) (ifb (inb x2 (x5.getD x0 (Qnpa.C.dflt Ty.entry)).fields.length) (ifb ((Fld.mk x6 x7 x8).later ((x5.getD x0 (Qnpa.C.dflt Ty.entry)).fields.getD x2.toNat (Qnpa.C.dflt Ty.fld))) (ifb (inb x2 (x5.getD x0 (Qnpa.C.dflt Ty.entry)).fields.length) (some (.ret (.bool true) [.box [.own 1 [] 0,.own 2 [] 0,.own 3 [] 0],.row .kind x3 0 0 0 .no,.row .point x4 0 0 0 .no,.row .entry (x5.set x0 (Entry.mk (x5.getD x0 (Qnpa.C.dflt Ty.entry)).name ((x5.getD x0 (Qnpa.C.dflt Ty.entry)).fields.set x2.toNat (Fld.mk x6 x7 x8)))) 1 0 0 .no])) (none)) (some (.ret (.bool true) [.box [.own 1 [] 0,.own 2 [] 0,.own 3 [] 0],.row .kind x3 0 0 0 .no,.row .point x4 0 0 0 .no,.row .entry x5 1 0 0 .no]))) (none)) (some (.go (Qu6t Qnpa.fn 10) [.ptr 4 0,.eptr 3 [] 0 2 x0 0,.int .i64 x1,.int .i64 (IntKind.i64.wrap (x2 + 1))] [.box [.own 1 [] 0,.own 2 [] 0,.own 3 [] 0],.row .kind x3 0 0 0 .no,.row .point x4 0 0 0 .no,.row .entry x5 1 0 0 .no,.box [.int .i64 x6,.int .i64 x7,.str x8]]))) (none)) (ifb (decide (((x5.getD x0 (Qnpa.C.dflt Ty.entry)).fields.length + [Fld.mk x6 x7 x8].length) * Qbhn Qnpa.P (94 : Nat) ≤ (140737488355328 : Nat))) (ifb (decide (x0 = x0)) (ifb (decide ((181 : Nat) = Qy91) && srtFK (((x5.set x0 (Entry.mk (x5.getD x0 (Qnpa.C.dflt Ty.entry)).name [])).set x0 (Entry.mk ((x5.set x0 (Entry.mk (x5.getD x0 (Qnpa.C.dflt Ty.entry)).name [])).getD x0 (Qnpa.C.dflt Ty.entry)).name ((x5.getD x0 (Qnpa.C.dflt Ty.entry)).fields ++ [Fld.mk x6 x7 x8]))).getD x0 (Qnpa.C.dflt Ty.entry)).fields) (some (.ret (.bool true) [.box [.own 1 [] 0,.own 2 [] 0,.own 3 [] 0],.row .kind x3 0 0 0 .no,.row .point x4 0 0 0 .no,.row .entry (((x5.set x0 (Entry.mk (x5.getD x0 (Qnpa.C.dflt Ty.entry)).name [])).set x0 (Entry.mk ((x5.set x0 (Entry.mk (x5.getD x0 (Qnpa.C.dflt Ty.entry)).name [])).getD x0 (Qnpa.C.dflt Ty.entry)).name ((x5.getD x0 (Qnpa.C.dflt Ty.entry)).fields ++ [Fld.mk x6 x7 x8]))).set x0 (Entry.mk (((x5.set x0 (Entry.mk (x5.getD x0 (Qnpa.C.dflt Ty.entry)).name [])).set x0 (Entry.mk ((x5.set x0 (Entry.mk (x5.getD x0 (Qnpa.C.dflt Ty.entry)).name [])).getD x0 (Qnpa.C.dflt Ty.entry)).name ((x5.getD x0 (Qnpa.C.dflt Ty.entry)).fields ++ [Fld.mk x6 x7 x8]))).getD x0 (Qnpa.C.dflt Ty.entry)).name (sortF (((x5.set x0 (Entry.mk (x5.getD x0 (Qnpa.C.dflt Ty.entry)).name [])).set x0 (Entry.mk ((x5.set x0 (Entry.mk (x5.getD x0 (Qnpa.C.dflt Ty.entry)).name [])).getD x0 (Qnpa.C.dflt Ty.entry)).name ((x5.getD x0 (Qnpa.C.dflt Ty.entry)).fields ++ [Fld.mk x6 x7 x8]))).getD x0 (Qnpa.C.dflt Ty.entry)).fields))) 1 0 0 .no])) (none)) (none)) (none)):=by kernel_rfl
theorem Qm9i (ks : List Kind) (ps : List Point) (es : List Entry) (n : Str) (w m : Int) (v : Str) (i : Nat) (hi : i < es.length) (hs : Qvhg (es.getD i (dfltP .entry)).fields) (h5 : (es.getD i (dfltP .entry)).fields.length ≤ 5) (hw1 : ∀ g ∈ (es.getD i (dfltP .entry)).fields,1 ≤ g.what ∧ g.what ≤ 5) (hw : -1000 ≤ w ∧ w ≤ 1000) : ∀ (d k : Nat),k + d = (es.getD i (dfltP .entry)).fields.length → (∀ g ∈ (es.getD i (dfltP .entry)).fields.take k,g.what ≠ w) →
  Cut Qnpa Qg00 10 [.ptr 4 0,.eptr 3 [] 0 2 i 0,.int .i64 ((es.getD i (dfltP .entry)).fields.length : Int),.int .i64 (k : Int)] [.box [.own 1 [] 0,.own 2 [] 0,.own 3 [] 0],.row .kind ks 0 0 0 .no,.row .point ps 0 0 0 .no,.row .entry es 1 0 0 .no,.box [.int .i64 w,.int .i64 m,.str v]] (.bool true) [.box [.own 1 [] 0,.own 2 [] 0,.own 3 [] 0],.row .kind ks 0 0 0 .no,.row .point ps 0 0 0 .no,.row .entry (es.set i ⟨(es.getD i (dfltP .entry)).name,Qul0 (es.getD i (dfltP .entry)).fields ⟨w,m,v⟩⟩) 1 0 0 .no]:=by
 have hb92 : Qbhn Qnpa.P 92 ≤ 256:=of_decide_eq_true (by kernel_rfl)
 have hb94 : Qbhn Qnpa.P 94 ≤ 256:=of_decide_eq_true (by kernel_rfl)
 have hdd : Qnpa.C.dflt Ty.entry = dfltP .entry:=rfl
 intro d
 induction d with
 | zero =>
  intro k hk hno
  refine Cut.of Q9op rfl (Qv3c i _ k ks ps es w m v) ?_
  rw [hdd]
  have g1 : ∀ y : Entry,(es.set i y).getD i (dfltP .entry) = y:=fun y=>by rw [qgD,List.getElem?_set_self hi]; rfl
  simp only [List.set_set,g1]
  generalize es.getD i (dfltP .entry) = e at *
  rw [List.take_of_length_le (by omega)] at hno
  have hK : srtFK (e.fields ++ [⟨w,m,v⟩]) = true:=by
   simp only [srtFK,qaT,qdT]
   refine ⟨by simp,by simp; omega, ?_,qlA.2 fun g hg=>?_⟩
   ·rw [List.map_append,List.nodup_append]
    refine ⟨List.pairwise_map.2 (hs.imp fun {a b} h=>by omega),by simp,fun a ha b hb=>?_⟩
    obtain ⟨g,hg,rfl⟩:=List.mem_map.1 ha
    simp only [List.map_cons,List.map_nil,List.mem_singleton] at hb
    subst hb
    exact hno g hg
   ·simp only [inR,qaT,qdT]
    rcases List.mem_append.1 hg with hg | hg
    ·have:=hw1 g hg; omega
    ·simp only [List.mem_singleton] at hg; subst hg; exact hw
  rw [show decide ((k : Int) < (e.fields.length : Int)) = false from decide_eq_false (by omega),Q1mk hb94 (by first | omega | (simp; omega)),hK]
  simp only [Qd8q,Qk7y,decide_true,Bool.and_true]
  obtain ⟨p1,p2⟩:=Qcsw (e.fields ++ [⟨w,m,v⟩])
  have hf : sortF (e.fields ++ [⟨w,m,v⟩]) = Qul0 e.fields ⟨w,m,v⟩:=Qbxf hs hno p1 p2
  rw [hf]
  exact Sat.ret rfl rfl
 | succ d ih =>
  intro k hk hno
  refine Cut.of Q9op rfl (Qv3c i _ k ks ps es w m v) ?_
  rw [hdd]
  have nx:=ih (k + 1) (by omega)
  generalize he : es.getD i (dfltP .entry) = e at *
  generalize hef : e.fields = l at *
  have hlt : k < l.length:=by omega
  have hw : IntKind.wrap .i64 ((k : Int) + 1) = ((k + 1 : Nat) : Int):=by rw [Qbrg] <;> omega
  have hw1 : IntKind.wrap .i64 ((k : Int) - 1) = (k : Int) - 1:=by rw [Qbrg] <;> omega
  have hx : l.getD (k : Int).toNat (Qnpa.C.dflt .fld) = l[k]:=by simp [hlt]
  have hin : inb (k : Int) l.length = true:=by simp only [inb,qaT,qdT]; omega
  have hlo : decide ((k : Int) < (l.length : Int)) = true:=decide_eq_true (by omega)
  have htk:=qtS hlt
  rw [hlo,hin,hx,hw]
  simp only [Qd8q]
  by_cases h1 : l[k].what = w
  ·rw [show (l[k].what == w) = true by simp [h1]]
   simp only [Qd8q]
   have hh:=Qlnx (f:=⟨w,m,v⟩) hlt hs h1
   cases h3 : Fld.later ⟨w,m,v⟩ l[k] with
   | true =>
    rw [h3,if_pos rfl] at hh
    rw [hh]
    exact Sat.ret rfl rfl
   | false =>
    rw [h3,if_neg (by simp)] at hh
    rw [hh]
    refine Sat.ret rfl ?_
    have : (Entry.mk e.name l) = es.getD i (dfltP .entry):=by rw [he,← hef]
    rw [this]
    have e2 : es.set i (es.getD i (dfltP .entry)) = es:=by
     rw [qgD,qeG hi]; exact List.set_getElem_self hi
    rw [e2]
  ·rw [show (l[k].what == w) = false by simp [h1]]
   refine Sat.cut (nx (fun g hg=>?_))
   rw [htk] at hg
   rcases List.mem_append.1 hg with hg | hg
   ·exact hno g hg
   ·simp only [List.mem_singleton] at hg; subst hg; exact h1
theorem Qafw (ks : List Kind) (ps : List Point) (es : List Entry) (n : Str) (w m : Int) (v : Str) (hg : layK ks ps es w = true) : Qewq Tryz.prog CP Qg00 [.ptr 0 0,.str n,.agg [.int .i64 w,.int .i64 m,.str v]] [.box [.own 1 [] 0,.own 2 [] 0,.own 3 [] 0],.row .kind ks 0 0 0 .no,.row .point ps 0 0 0 .no,.row .entry es 1 0 0 .no] (.bool (layB es n)) [.box [.own 1 [] 0,.own 2 [] 0,.own 4 [] 0],.row .kind ks 0 0 0 .no,.row .point ps 0 0 0 .no,.out,.row .entry (layF es n ⟨w,m,v⟩) 1 0 0 .no]:=by
 simp only [layK,qaT] at hg
 obtain ⟨hb,hgd,hw⟩:=hg
 simp only [inR,qaT,qdT] at hw
 have hb92 : Qbhn Qnpa.P 92 ≤ 256:=of_decide_eq_true (by kernel_rfl)
 have hb94 : Qbhn Qnpa.P 94 ≤ 256:=of_decide_eq_true (by kernel_rfl)
 obtain ⟨h12,hf5⟩:=Qm34 hb
 obtain ⟨hes,hfs⟩:=Qwk3 hb
 have mv : ∀ (b : Bool) (zs : List Entry),Qewq Tryz.prog CP Qg00 [.ptr 0 0,.str n,.agg [.int .i64 w,.int .i64 m,.str v]] [.box [.own 1 [] 0,.own 2 [] 0,.own 3 [] 0],.row .kind ks 0 0 0 .no,.row .point ps 0 0 0 .no,.row .entry es 1 0 0 .no] (.bool b) [.box [.own 1 [] 0,.own 2 [] 0,.own 3 [] 0],.row .kind ks 0 0 0 .no,.row .point ps 0 0 0 .no,.row .entry zs 1 0 0 .no] → Qewq Tryz.prog CP Qg00 [.ptr 0 0,.str n,.agg [.int .i64 w,.int .i64 m,.str v]] [.box [.own 1 [] 0,.own 2 [] 0,.own 3 [] 0],.row .kind ks 0 0 0 .no,.row .point ps 0 0 0 .no,.row .entry es 1 0 0 .no] (.bool b) [.box [.own 1 [] 0,.own 2 [] 0,.own 4 [] 0],.row .kind ks 0 0 0 .no,.row .point ps 0 0 0 .no,.out,.row .entry zs 1 0 0 .no]:=fun b zs h=>Qewq.moveAt CP_ok h 3 (by simp) (by simp) rfl rfl rfl
 have hlen : decide (es.length < 1000000000) = true:=decide_eq_true (by omega)
 by_cases h0 : entIx es n < 0
 ·have hix : decide (idxF (fun p=>p.name == n) es < (0 : Int)) = true:=decide_eq_true h0
  by_cases h1 : 12 ≤ es.length
  ·have hB : layB es n = false:=by simp only [layB,decide_eq_true h0,decide_eq_true h1]; rfl
   have hF : layF es n ⟨w,m,v⟩ = es:=by rw [layF,hB]; rfl
   rw [hB,hF]
   refine mv false es (Qewq.of Q9op (by kernel_rfl) (Qqqo ks ps es n w m v) ?_)
   rw [hlen,hix,show decide ((es.length : Int) ≥ 12) = true from decide_eq_true (by omega)]
   exact Sat.ret rfl rfl
  ·have hB : layB es n = true:=by simp only [layB,decide_eq_true h0,decide_eq_false h1]; rfl
   have hno:=Q853 h0
   have hK : srtEK (es ++ [Entry.mk n [Fld.mk w m v]]) = true:=by
    simp only [srtEK,qaT,qdT]
    refine ⟨by simp,by simp; omega, ?_⟩
    rw [List.map_append,List.nodup_append]
    refine ⟨List.pairwise_map.2 (hes.imp fun {a b} h e=>by rw [e,Qqw5] at h; cases h),by simp,fun a ha b hb=>?_⟩
    obtain ⟨g,hg,rfl⟩:=List.mem_map.1 ha
    simp only [List.map_cons,List.map_nil,List.mem_singleton] at hb
    subst hb
    exact hno g hg
   obtain ⟨p1,p2⟩:=Q2ne (es ++ [Entry.mk n [Fld.mk w m v]])
   have hS : sortE (es ++ [Entry.mk n [Fld.mk w m v]]) = insE es n ⟨w,m,v⟩:=Qbw4 hes hno p1 p2
   have hF : layF es n ⟨w,m,v⟩ = insE es n ⟨w,m,v⟩:=by rw [layF,hB,if_pos rfl,Qk9v (by omega)]
   rw [hB,hF]
   refine Qewq.of Q9op (by kernel_rfl) (Qqqo ks ps es n w m v) ?_
   rw [hlen,hix,show decide ((es.length : Int) ≥ 12) = false from decide_eq_false (by omega),Q1mk hb92 (by first | omega | (simp; omega)),hK,hS]
   exact Sat.ret rfl rfl
 ·have h0' : 0 ≤ entIx es n:=by omega
  have hB : layB es n = true:=by simp only [layB,decide_eq_false h0]; rfl
  have hF : layF es n ⟨w,m,v⟩ = putF es n ⟨w,m,v⟩:=by rw [layF,hB,if_pos rfl]
  rw [hB,hF,Q5v6 h0']
  refine mv true _ (Qewq.of Q9op (by kernel_rfl) (Qqqo ks ps es n w m v) ?_)
  have hi:=Qohw h0'
  have hlt : (entIx es n).toNat < es.length:=by have h2 : entIx es n < (es.length : Int):=Q1mf; omega
  have hm:=Qhwx h0'
  have hok : ∀ g ∈ (es.getD (entIx es n).toNat (dfltP .entry)).fields,1 ≤ g.what ∧ g.what ≤ 5:=fun g hg=>by
   simp only [Qn0o,qaT] at hb
   have ho:=Qmra es _ hb.2.2 _ hm
   simp only [Q7i7,qaT] at ho
   exact Q3ut (Qx66 ho.2.2 g hg)
  rw [hlen,show decide (idxF (fun p=>p.name == n) es < (0 : Int)) = false from decide_eq_false h0]
  simp only [Qd8q,Qk7y]
  refine Sat.ifb (fun _=>?_) (fun e=>absurd (hi.symm.trans e) (by simp))
  exact Sat.cut (Qm9i ks ps es n w m v _ hlt (hfs _ hm).1 (hf5 _ hm) hok hw (es.getD (entIx es n).toNat (dfltP .entry)).fields.length 0 (by omega) (by simp))
theorem Qtc1 : EntOK Tryz.prog CP Qg00 Q7p0:=by
 refine ⟨eob (by kernel_rfl),fun _ _ _ _ h=>?_⟩
 simp only [Q7p0] at h
 split at h
 ·obtain ⟨hg,rfl,rfl⟩:=eoh h
  exact Qafw _ _ _ _ _ _ _ hg
 ·cases h
end Lx
namespace Lx
open Go Go.Proofs
def Qy84 : Ent Ty El:=⟨[.ro,.ro],3,fun a h=>match a,h with
 | [.agg [.sl .kind ks,.sl .point ps,.sl .entry es],.agg [.str fl,.int .i64 w,.int .i64 m,.str v]],[] =>
  some (goodB ks ps es && szV v,.tup [.agg [.own 0 [] 0,.own 1 [] 0,.own 2 [] 0],.int .i64 (takeF ks ps es ⟨fl,w,m,v⟩).code],[.row .kind (takeF ks ps es ⟨fl,w,m,v⟩).ks 0 0 0 .no,.row .point (takeF ks ps es ⟨fl,w,m,v⟩).ps 0 0 0 .no,.row .entry (takeF ks ps es ⟨fl,w,m,v⟩).es 1 0 0 .no])
 | _,_=>none⟩
end Lx
namespace Lx
open Go Go.Proofs
noncomputable def Qch5 : RE Ty El:=⟨Tryz.prog,CP,[(Qaev,Qjv4),(Qlpu,Q2gg),(Q4bs,Qna9),(Qg00,Q7p0)],Tryz.f25,0,[.agg [.own .kind,.own .point,.own .entry],.any],[]⟩
theorem Q8tr : REOK Qch5 Q64l:=⟨CP_ok,(TabOK.cons Qwza (TabOK.cons Qusr (TabOK.cons Q0ms (TabOK.cons Qtc1 Qye1)))),by kernel_rfl,by kernel_rfl⟩
theorem Q004 (ks : List Kind) (ps : List Point) (es : List Entry) (fl : Str) (w m : Int) (v : Str) : aRun Qch5 600 false (body0 Qch5.fn) (Q4gm Qch5.fn [.agg [.sl .kind ks,.sl .point ps,.sl .entry es],.agg [.str fl,.int .i64 w,.int .i64 m,.str v]] []) =
 ifb (szB es) (ifb (!Qn0o ks ps es) (some (.ret (.tup [.agg [.own 0 [] 0,.own 1 [] 0,.own 2 [] 0],.int .i64 1]) [.row .kind [] 0 0 0 .no,.row .point [] 0 0 0 .no,.row .entry [] 1 0 0 .no])) (ifb (Q8cx ks ps es) (ifb (szV v && (decide (ks.length < (1000000000 : Nat)) && decide (ps.length < (1000000000 : Nat)))) (ifb (!Qh2h ks ps fl w m v) (some (.ret (.tup [.agg [.own 0 [] 0,.own 1 [] 0,.own 2 [] 0],.int .i64 2]) [.row .kind ks 0 0 0 .no,.row .point ps 0 0 0 .no,.row .entry es 1 0 0 .no])) (ifb (layK ks ps es w) (ifb (!layB es fl) (some (.ret (.tup [.agg [.own 0 [] 0,.own 1 [] 0,.own 2 [] 0],.int .i64 3]) [.row .kind ks 0 0 0 .no,.row .point ps 0 0 0 .no,.row .entry (layF es fl (Fld.mk w m v)) 1 0 0 .no])) (some (.ret (.tup [.agg [.own 0 [] 0,.own 1 [] 0,.own 2 [] 0],.int .i64 0]) [.row .kind ks 0 0 0 .no,.row .point ps 0 0 0 .no,.row .entry (layF es fl (Fld.mk w m v)) 1 0 0 .no]))) (none))) (none)) (none))) (none):=by kernel_rfl
theorem Qzoi (ks : List Kind) (ps : List Point) (es : List Entry) (fl : Str) (w m : Int) (v : Str) (hg : (goodB ks ps es && szV v) = true) : Qewq Tryz.prog CP Q64l [.agg [.sl .kind ks,.sl .point ps,.sl .entry es],.agg [.str fl,.int .i64 w,.int .i64 m,.str v]] [] (.tup [.agg [.own 0 [] 0,.own 1 [] 0,.own 2 [] 0],.int .i64 (takeF ks ps es ⟨fl,w,m,v⟩).code]) [.row .kind (takeF ks ps es ⟨fl,w,m,v⟩).ks 0 0 0 .no,.row .point (takeF ks ps es ⟨fl,w,m,v⟩).ps 0 0 0 .no,.row .entry (takeF ks ps es ⟨fl,w,m,v⟩).es 1 0 0 .no]:=by
 refine Qewq.of Q8tr (by kernel_rfl) (Q004 ks ps es fl w m v) ?_
 simp only [qaT] at hg
 obtain ⟨g0,g1⟩:=hg
 have g2:=g0
 simp only [goodB,qaT] at g2
 rw [g2.1,g2.2,g1]
 simp only [Qd8q]
 cases hb : Qn0o ks ps es with
 | false =>
  simp only [Bool.not_false,Qd8q]
  rw [takeF,if_neg (by simp [hb])]
  exact Sat.ret rfl rfl
 | true =>
  simp only [Bool.not_true,Qk7y]
  have hbase : Qib4 ks ps = true:=(Qg6k hb).1
  have hlen:=hbase
  simp only [Qib4,qaT,qdT] at hlen
  rw [takeF,if_pos hb,decide_eq_true (show ks.length < 1000000000 by omega),decide_eq_true (show ps.length < 1000000000 by omega)]
  simp only [Bool.and_self,Qd8q]
  have hcc : Qs7k ks ps ⟨fl,w,m,v⟩ = Qh2h ks ps fl w m v:=by simp only [Qs7k,Qh2h,hbase,Bool.true_and]
  cases hc : Qh2h ks ps fl w m v with
  | false =>
   rw [if_neg (by rw [hcc,hc]; simp)]
   exact Sat.ret rfl rfl
  | true =>
   rw [if_pos (hcc.trans hc)]
   have hw : layK ks ps es w = true:=by
    simp only [Qh2h,qaT] at hc
    have:=Q3ut hc.2.2
    simp only [layK,hb,g0,inR,Bool.true_and,qaT,qdT]; omega
   rw [hw]
   simp only [Bool.not_true,Qd8q,Qk7y]
   by_cases h2 : entIx es fl < 0 ∧ 12 ≤ es.length
   ·have hB : layB es fl = false:=by simp only [layB,decide_eq_true h2.1,decide_eq_true h2.2]; rfl
    rw [if_pos h2,layF,hB]
    exact Sat.ret rfl rfl
   ·have hB : layB es fl = true:=by
     simp only [layB,Bool.not_eq_true',Bool.and_eq_false_iff,decide_eq_false_iff_not]
     by_cases h3 : entIx es fl < 0
     ·exact .inr (fun h4=>h2 ⟨h3,h4⟩)
     ·exact .inl h3
    rw [if_neg h2,layF,hB]
    exact Sat.ret rfl rfl
theorem Q7d1 : EntOK Tryz.prog CP Q64l Qy84:=by
 refine ⟨eob (by kernel_rfl),fun _ _ _ _ h=>?_⟩
 simp only [Qy84] at h
 split at h
 ·obtain ⟨hg,rfl,rfl⟩:=eoh h
  exact Qzoi _ _ _ _ _ _ _ hg
 ·cases h
end Lx
namespace Lx
open Go Go.Proofs
theorem take_zero {ks : List Kind} {ps : List Point} {es : List Entry} {c : Chg} (h : (takeF ks ps es c).code = 0) : Qn0o ks ps es = true ∧ Qs7k ks ps c = true ∧ ¬ (entIx es c.flight < 0 ∧ 12 ≤ es.length) ∧ takeF ks ps es c = ⟨ks,ps,putF es c.flight ⟨c.what,c.number,c.value⟩,0⟩:=by
 unfold takeF at h ⊢
 by_cases h1 : Qn0o ks ps es = true
 ·rw [if_pos h1] at h ⊢
  by_cases h2 : Qs7k ks ps c = true
  ·rw [if_pos h2] at h ⊢
   by_cases h3 : entIx es c.flight < 0 ∧ 12 ≤ es.length
   ·rw [if_pos h3] at h; cases h
   ·rw [if_neg h3]; exact ⟨h1,h2,h3,rfl⟩
  ·rw [if_neg h2] at h; cases h
 ·rw [if_neg h1] at h; cases h
end Lx
namespace Lx
open Go Go.Proofs
end Lx
namespace Lx
open Go Go.Proofs
end Lx
namespace Lx
open Go Go.Proofs
end Lx
namespace Lx
open Go Go.Proofs
end Lx
namespace Lx
open Go Go.Proofs
end Lx
namespace Lx
open Go Go.Proofs
end Lx
namespace Lx
open Go Go.Proofs
end Lx
namespace Lx
open Go Go.Proofs
end Lx
namespace Lx
open Go Go.Proofs
end Lx
namespace Lx
open Go Go.Proofs
structure TaR where
 ks : List Kind
 ps : List Point
 es : List Entry
 cs : List Int
end Lx
namespace Lx
open Go Go.Proofs
end Lx
namespace Lx
open Go Go.Proofs
def rdK (bs : List Int) (p : Int) : Bool:=Qf9o bs && (decide (0 ≤ p) && decide (p ≤ 900000))
theorem Qosd {bs : List Int} {p q : Int} (h : rdK bs p = true) (h1 : p ≤ q) (h2 : q ≤ p + 90000) : rdOk bs q = true:=by
 simp only [rdK,rdOk,posOk,qaT,qdT] at h ⊢
 exact ⟨h.1,by omega,by omega⟩
theorem Q8s4 {q : Int} (h1 : 0 ≤ q) (h2 : q < 1000000) : posOk q = true:=by
 simp only [posOk,qaT,qdT]; exact ⟨h1,h2⟩
noncomputable def dDec (k : Nat) (n : Int) : Str:=drawn (fun x=>Qewq Tryz.prog CP Qstj [.int .i64 n] [] (.str x) [] ∧ x.length ≤ k + 1)
noncomputable def E_dec (k : Nat) : Ent Ty El:=⟨[.ro],0,fun a h=>match a,h with
 | [.int .i64 n],[]=>some (decide (0 ≤ n) && decide (n < 10 ^ (k + 1)),.str (dDec k n),[])
 | _,_=>none⟩
noncomputable def Qjla : Ent Ty El:=E_dec 0
noncomputable def Qgge : Ent Ty El:=E_dec 1
noncomputable def Qggn : Ent Ty El:=E_dec 2
noncomputable def Qcmq : Ent Ty El:=E_dec 3
noncomputable def Qmce : Ent Ty El:=E_dec 4
noncomputable def dMany (s : Str) (n : Int) : Str:=drawn (fun x=>Qewq Tryz.prog CP Q1eg [.str s,.int .i64 n] [] (.str x) [] ∧ x.length ≤ 4096)
noncomputable def Qvc4 : Ent Ty El:=⟨[.ro,.ro],0,fun a h=>match a,h with
 | [.str s,.int .i64 n],[]=>some (decide (s.length ≤ 1) && decide (n < 64),.str (dMany s n),[])
 | _,_=>none⟩
def bad12 : List Str:=[[],[110,111,110,101],[53,32,52],[48,32,49,48,48,48,49],[49,48,48,48,48,32,49,48,48,48,48],[48,49],[48],[55],[97,108,102,97],[97,108,102,97,32,97,108,102,97],[97,108,102,97,32,98,114,97,118,32],[111,112,101,110,32],[97,108,102,97,32,98,114,97,118,32,97,108,102,97,32,98,114,97,118,32,97,108,102,97,32,98,114,97,118,32,97,108,102,97,32,98,114,97,118,32,97,108,102,97],[97,49,32],[10],[53,32,53,32,53]]
def Qwn9 : Ent Ty El:=⟨[.io],0,fun a h=>match a,h with
 | [.ptr 0 0],[.box [.sl .u8 bs,.int .i64 p]]=>some (rdOk bs p,.str (ofV bs p bad12),[.box [.sl .u8 bs,.int .i64 (p + 1)]])
 | _,_=>none⟩
structure BaseP where
 ks : List Kind
 ps : List Point
 p : Int
 deriving Inhabited
def Qn40 (p : Int) (x : BaseP) : Prop:=Qib4 x.ks x.ps = true ∧ 1 ≤ x.ks.length ∧ 1 ≤ x.ps.length ∧ p ≤ x.p ∧ x.p ≤ p + 20
noncomputable def dBase (bs : List Int) (p : Int) : BaseP:=drawn (fun x=>Qewq Tryz.prog CP Qwua [.ptr 0 0] [.box [.sl .u8 bs,.int .i64 p]] (.agg [.sl .kind x.ks,.sl .point x.ps]) [.box [.sl .u8 bs,.int .i64 x.p]] ∧ Qn40 p x)
noncomputable def Qu46 : Ent Ty El:=⟨[.io],0,fun a h=>match a,h with
 | [.ptr 0 0],[.box [.sl .u8 bs,.int .i64 p]]=>some (rdK bs p,.agg [.sl .kind (dBase bs p).ks,.sl .point (dBase bs p).ps],[.box [.sl .u8 bs,.int .i64 (dBase bs p).p]])
 | _,_=>none⟩
def Qf10 : List Str:=[[97,108,102,97],[98,114,97,118],[99,104,97,114],[100,45,52],[101,99,104,111],[120]]
def lastN (prev : Option Str) (ps : List Point) : Option Str:=match ps.getLast? with
 | some p=>some p.name
 | none=>prev
theorem Q9y8 (x : Point) : ∀ (ps seen : List Point) (prev : Option Str),Qaym seen prev (ps ++ [x]) = (Qaym seen prev ps && (x.ok && (Qe7t (lastN prev ps) x.name && Q343 (seen ++ ps) x)))
 | [],seen,prev=>by simp [Qaym,lastN]
 | p :: ps,seen,prev=>by
  have e : lastN prev (p :: ps) = lastN (some p.name) ps:=by
   cases ps with
   | nil=>rfl
   | cons q r =>
    obtain ⟨y,hy⟩ : ∃ y,(q :: r).getLast? = some y:=Option.isSome_iff_exists.1 (by simp)
    simp [lastN,List.getLast?_cons_cons,hy]
  simp only [List.cons_append,Qaym,Q9y8 x ps,e,Bool.and_assoc,List.append_assoc,List.cons_append,List.nil_append]
def PI (ps : List Point) (i : Nat) : Prop:=Qaym [] none ps = true ∧ ps.length ≤ i ∧ ∀ j n,i ≤ j → Qf10[j]? = some n → Qe7t (lastN none ps) n = true
theorem PI.next {ps : List Point} {i : Nat} (h : PI ps i) : PI ps (i + 1):=⟨h.1,by have:=h.2.1; omega,fun j n hj=>h.2.2 j n (by omega)⟩
theorem Ql7z : ∀ i,i < 6 → ∀ j,j < 6 → i < j → Q7zj (Qf10.getD i []) (Qf10.getD j []) = true:=by decide
theorem Qlz1 : ∀ i,i < 6 → Q2rq (Qf10.getD i []) = true:=by decide
theorem PI.add {ps : List Point} {i : Nat} {x y : Int} (h : PI ps i) (hi : i < 6) (hx : 0 ≤ x ∧ x < 16) (hy : 0 ≤ y ∧ y < 16) (hf : Q343 ps ⟨Qf10.getD i [],x,y⟩ = true) : PI (ps ++ [⟨Qf10.getD i [],x,y⟩]) (i + 1):=by
 refine ⟨?_,by simp; exact h.2.1,fun j n hj hn=>?_⟩
 ·rw [Q9y8,h.1,List.nil_append,hf,h.2.2 i (Qf10.getD i []) (Nat.le_refl _) (by rw [qgD,qeG (by exact hi)]; rfl)]
  simp only [Point.ok,Qlz1 i hi,inR,Bool.true_and,Bool.and_true,qaT,qdT]
  omega
 ·have hj6 : j < 6:=(qeS.1 hn).1
  have e : Qf10.getD j [] = n:=by rw [qgD,hn]; rfl
  simp only [lastN,qlC,Qe7t]
  rw [← e]
  exact Ql7z i hi j hj6 (by omega)
end Lx
namespace Lx
open Go Go.Proofs
noncomputable def Qopx : RE Ty El:=⟨Tryz.prog,CP,[],Tryz.f109,0,[],[]⟩
theorem Q58o : REOK Qopx Qstj:=⟨CP_ok,Qye1,by kernel_rfl,by kernel_rfl⟩
theorem Qwjr (n : Int) : aRun Qopx 600 false (body0 Qopx.fn) (Q4gm Qopx.fn [.int .i64 n] []) =
 ifb (decide (n < 10)) (some (.ret (.str (List.map (fun n=>UInt8.ofNat n.toNat) (List.map (fun n=>n) [IntKind.u8.wrap (IntKind.i64.wrap ((48 : Int) + n))]))) [])) (none):=by kernel_rfl
theorem Qhwu (n : Int) (hg : (decide (0 ≤ n) && decide (n < 10 ^ (0 + 1))) = true) : Qewq Tryz.prog CP Qstj [.int .i64 n] [] (.str (dDec 0 n)) [] ∧ (dDec 0 n).length ≤ 0 + 1:=by
 simp only [qaT,qdT] at hg
 obtain ⟨g0,g1⟩:=hg
 have hE : CallE Qopx.P Qopx.C Qstj [.int .i64 n] [] (fun v h=>∃ x : Str,v = .str x ∧ h = [] ∧ x.length ≤ 0 + 1):=CallE.of Q58o (by kernel_rfl) (Qwjr n) (SatE.ifb (fun _=>SatE.ret ⟨_,rfl,rfl,by simp⟩) (fun e=>by
  have:=of_decide_eq_false e; omega))
 obtain ⟨v,H',h,x,rfl,rfl,hx⟩:=hE
 exact Qk78 (p:=fun x=>Qewq Tryz.prog CP Qstj [.int .i64 n] [] (.str x) [] ∧ x.length ≤ 0 + 1) ⟨x,h,hx⟩
theorem Qb4o (n : Int) (hg : (decide (0 ≤ n) && decide (n < 10 ^ (0 + 1))) = true) : Qewq Tryz.prog CP Qstj [.int .i64 n] [] (.str (dDec 0 n)) []:=by
 exact (Qhwu n hg).1
theorem Qu02 : EntOK Tryz.prog CP Qstj Qjla:=by
 refine ⟨eob (by kernel_rfl),fun _ _ _ _ h=>?_⟩
 simp only [Qjla,E_dec] at h
 split at h
 ·obtain ⟨hg,rfl,rfl⟩:=eoh h
  exact Qb4o _ hg
 ·cases h

noncomputable def Qq8c : RE Ty El:=⟨Tryz.prog,CP,[(Qstj,Qjla)],Tryz.f109,0,[],[]⟩
theorem Qikn : REOK Qq8c Qstj:=⟨CP_ok,(TabOK.cons Qu02 Qye1),by kernel_rfl,by kernel_rfl⟩
theorem Qjex (n : Int) : aRun Qq8c 600 false (body0 Qq8c.fn) (Q4gm Qq8c.fn [.int .i64 n] []) =
 ifb (decide (n < 10)) (some (.ret (.str (List.map (fun n=>UInt8.ofNat n.toNat) (List.map (fun n=>n) [IntKind.u8.wrap (IntKind.i64.wrap ((48 : Int) + n))]))) [])) (ifb (decide (0 ≤ IntKind.i64.wrap (n.tdiv (10 : Int))) && decide (IntKind.i64.wrap (n.tdiv (10 : Int)) < (10 : Int) ^ ((0 : Nat) + (1 : Nat)))) (ifb (decide (List.length (dDec (0 : Nat) (IntKind.i64.wrap (n.tdiv (10 : Int)))) + (List.map (fun n=>UInt8.ofNat n.toNat) (List.map (fun n=>n) [IntKind.u8.wrap (IntKind.i64.wrap ((48 : Int) + n.tmod (10 : Int)))])).length ≤ (9223372036854775807 : Nat))) (some (.ret (.str (dDec (0 : Nat) (IntKind.i64.wrap (n.tdiv (10 : Int))) ++ List.map (fun n=>UInt8.ofNat n.toNat) (List.map (fun n=>n) [IntKind.u8.wrap (IntKind.i64.wrap ((48 : Int) + n.tmod (10 : Int)))]))) [])) (none)) (none)):=by kernel_rfl
theorem Qgme (n : Int) (hg : (decide (0 ≤ n) && decide (n < 10 ^ (1 + 1))) = true) : Qewq Tryz.prog CP Qstj [.int .i64 n] [] (.str (dDec 1 n)) [] ∧ (dDec 1 n).length ≤ 1 + 1:=by
 simp only [qaT,qdT] at hg
 obtain ⟨g0,g1⟩:=hg
 have hE : CallE Qq8c.P Qq8c.C Qstj [.int .i64 n] [] (fun v h=>∃ x : Str,v = .str x ∧ h = [] ∧ x.length ≤ 1 + 1):=CallE.of Qikn (by kernel_rfl) (Qjex n) (SatE.ifb (fun _=>SatE.ret ⟨_,rfl,rfl,by simp⟩) (fun e=>by
  have he:=of_decide_eq_false e
  have h1 : 0 ≤ n.tdiv 10:=Int.tdiv_nonneg g0 (by omega)
  have h2 : n.tdiv 10 < 10 ^ 1:=by rw [Int.tdiv_eq_ediv_of_nonneg g0]; omega
  have hw : IntKind.i64.wrap (n.tdiv 10) = n.tdiv 10:=Qbrg (by omega) (by omega)
  have hl:=(Qhwu (n.tdiv 10) (by simp only [qaT,qdT]; exact ⟨h1,h2⟩)).2
  rw [hw]
  exact SatE.need (by simp only [qaT,qdT]; exact ⟨h1,h2⟩) (SatE.need (by simp; omega) (SatE.ret ⟨_,rfl,rfl,by simp; omega⟩))))
 obtain ⟨v,H',h,x,rfl,rfl,hx⟩:=hE
 exact Qk78 (p:=fun x=>Qewq Tryz.prog CP Qstj [.int .i64 n] [] (.str x) [] ∧ x.length ≤ 1 + 1) ⟨x,h,hx⟩
theorem Qvu3 (n : Int) (hg : (decide (0 ≤ n) && decide (n < 10 ^ (1 + 1))) = true) : Qewq Tryz.prog CP Qstj [.int .i64 n] [] (.str (dDec 1 n)) []:=by
 exact (Qgme n hg).1
theorem Qq8j : EntOK Tryz.prog CP Qstj Qgge:=by
 refine ⟨eob (by kernel_rfl),fun _ _ _ _ h=>?_⟩
 simp only [Qgge,E_dec] at h
 split at h
 ·obtain ⟨hg,rfl,rfl⟩:=eoh h
  exact Qvu3 _ hg
 ·cases h

noncomputable def Qr71 : RE Ty El:=⟨Tryz.prog,CP,[(Qstj,Qgge)],Tryz.f109,0,[],[]⟩
theorem Q1ar : REOK Qr71 Qstj:=⟨CP_ok,(TabOK.cons Qq8j Qye1),by kernel_rfl,by kernel_rfl⟩
theorem Q3yy (n : Int) : aRun Qr71 600 false (body0 Qr71.fn) (Q4gm Qr71.fn [.int .i64 n] []) =
 ifb (decide (n < 10)) (some (.ret (.str (List.map (fun n=>UInt8.ofNat n.toNat) (List.map (fun n=>n) [IntKind.u8.wrap (IntKind.i64.wrap ((48 : Int) + n))]))) [])) (ifb (decide (0 ≤ IntKind.i64.wrap (n.tdiv (10 : Int))) && decide (IntKind.i64.wrap (n.tdiv (10 : Int)) < (10 : Int) ^ ((1 : Nat) + (1 : Nat)))) (ifb (decide (List.length (dDec (1 : Nat) (IntKind.i64.wrap (n.tdiv (10 : Int)))) + (List.map (fun n=>UInt8.ofNat n.toNat) (List.map (fun n=>n) [IntKind.u8.wrap (IntKind.i64.wrap ((48 : Int) + n.tmod (10 : Int)))])).length ≤ (9223372036854775807 : Nat))) (some (.ret (.str (dDec (1 : Nat) (IntKind.i64.wrap (n.tdiv (10 : Int))) ++ List.map (fun n=>UInt8.ofNat n.toNat) (List.map (fun n=>n) [IntKind.u8.wrap (IntKind.i64.wrap ((48 : Int) + n.tmod (10 : Int)))]))) [])) (none)) (none)):=by kernel_rfl
theorem Q0hm (n : Int) (hg : (decide (0 ≤ n) && decide (n < 10 ^ (2 + 1))) = true) : Qewq Tryz.prog CP Qstj [.int .i64 n] [] (.str (dDec 2 n)) [] ∧ (dDec 2 n).length ≤ 2 + 1:=by
 simp only [qaT,qdT] at hg
 obtain ⟨g0,g1⟩:=hg
 have hE : CallE Qr71.P Qr71.C Qstj [.int .i64 n] [] (fun v h=>∃ x : Str,v = .str x ∧ h = [] ∧ x.length ≤ 2 + 1):=CallE.of Q1ar (by kernel_rfl) (Q3yy n) (SatE.ifb (fun _=>SatE.ret ⟨_,rfl,rfl,by simp⟩) (fun e=>by
  have he:=of_decide_eq_false e
  have h1 : 0 ≤ n.tdiv 10:=Int.tdiv_nonneg g0 (by omega)
  have h2 : n.tdiv 10 < 10 ^ 2:=by rw [Int.tdiv_eq_ediv_of_nonneg g0]; omega
  have hw : IntKind.i64.wrap (n.tdiv 10) = n.tdiv 10:=Qbrg (by omega) (by omega)
  have hl:=(Qgme (n.tdiv 10) (by simp only [qaT,qdT]; exact ⟨h1,h2⟩)).2
  rw [hw]
  exact SatE.need (by simp only [qaT,qdT]; exact ⟨h1,h2⟩) (SatE.need (by simp; omega) (SatE.ret ⟨_,rfl,rfl,by simp; omega⟩))))
 obtain ⟨v,H',h,x,rfl,rfl,hx⟩:=hE
 exact Qk78 (p:=fun x=>Qewq Tryz.prog CP Qstj [.int .i64 n] [] (.str x) [] ∧ x.length ≤ 2 + 1) ⟨x,h,hx⟩
theorem Qy0z (n : Int) (hg : (decide (0 ≤ n) && decide (n < 10 ^ (2 + 1))) = true) : Qewq Tryz.prog CP Qstj [.int .i64 n] [] (.str (dDec 2 n)) []:=by
 exact (Q0hm n hg).1
theorem Qfjp : EntOK Tryz.prog CP Qstj Qggn:=by
 refine ⟨eob (by kernel_rfl),fun _ _ _ _ h=>?_⟩
 simp only [Qggn,E_dec] at h
 split at h
 ·obtain ⟨hg,rfl,rfl⟩:=eoh h
  exact Qy0z _ hg
 ·cases h

noncomputable def Qhz0 : RE Ty El:=⟨Tryz.prog,CP,[(Qstj,Qggn)],Tryz.f109,0,[],[]⟩
theorem Q0st : REOK Qhz0 Qstj:=⟨CP_ok,(TabOK.cons Qfjp Qye1),by kernel_rfl,by kernel_rfl⟩
theorem Qehh (n : Int) : aRun Qhz0 600 false (body0 Qhz0.fn) (Q4gm Qhz0.fn [.int .i64 n] []) =
 ifb (decide (n < 10)) (some (.ret (.str (List.map (fun n=>UInt8.ofNat n.toNat) (List.map (fun n=>n) [IntKind.u8.wrap (IntKind.i64.wrap ((48 : Int) + n))]))) [])) (ifb (decide (0 ≤ IntKind.i64.wrap (n.tdiv (10 : Int))) && decide (IntKind.i64.wrap (n.tdiv (10 : Int)) < (10 : Int) ^ ((2 : Nat) + (1 : Nat)))) (ifb (decide (List.length (dDec (2 : Nat) (IntKind.i64.wrap (n.tdiv (10 : Int)))) + (List.map (fun n=>UInt8.ofNat n.toNat) (List.map (fun n=>n) [IntKind.u8.wrap (IntKind.i64.wrap ((48 : Int) + n.tmod (10 : Int)))])).length ≤ (9223372036854775807 : Nat))) (some (.ret (.str (dDec (2 : Nat) (IntKind.i64.wrap (n.tdiv (10 : Int))) ++ List.map (fun n=>UInt8.ofNat n.toNat) (List.map (fun n=>n) [IntKind.u8.wrap (IntKind.i64.wrap ((48 : Int) + n.tmod (10 : Int)))]))) [])) (none)) (none)):=by kernel_rfl
theorem Qn6d (n : Int) (hg : (decide (0 ≤ n) && decide (n < 10 ^ (3 + 1))) = true) : Qewq Tryz.prog CP Qstj [.int .i64 n] [] (.str (dDec 3 n)) [] ∧ (dDec 3 n).length ≤ 3 + 1:=by
 simp only [qaT,qdT] at hg
 obtain ⟨g0,g1⟩:=hg
 have hE : CallE Qhz0.P Qhz0.C Qstj [.int .i64 n] [] (fun v h=>∃ x : Str,v = .str x ∧ h = [] ∧ x.length ≤ 3 + 1):=CallE.of Q0st (by kernel_rfl) (Qehh n) (SatE.ifb (fun _=>SatE.ret ⟨_,rfl,rfl,by simp⟩) (fun e=>by
  have he:=of_decide_eq_false e
  have h1 : 0 ≤ n.tdiv 10:=Int.tdiv_nonneg g0 (by omega)
  have h2 : n.tdiv 10 < 10 ^ 3:=by rw [Int.tdiv_eq_ediv_of_nonneg g0]; omega
  have hw : IntKind.i64.wrap (n.tdiv 10) = n.tdiv 10:=Qbrg (by omega) (by omega)
  have hl:=(Q0hm (n.tdiv 10) (by simp only [qaT,qdT]; exact ⟨h1,h2⟩)).2
  rw [hw]
  exact SatE.need (by simp only [qaT,qdT]; exact ⟨h1,h2⟩) (SatE.need (by simp; omega) (SatE.ret ⟨_,rfl,rfl,by simp; omega⟩))))
 obtain ⟨v,H',h,x,rfl,rfl,hx⟩:=hE
 exact Qk78 (p:=fun x=>Qewq Tryz.prog CP Qstj [.int .i64 n] [] (.str x) [] ∧ x.length ≤ 3 + 1) ⟨x,h,hx⟩
theorem Qero (n : Int) (hg : (decide (0 ≤ n) && decide (n < 10 ^ (3 + 1))) = true) : Qewq Tryz.prog CP Qstj [.int .i64 n] [] (.str (dDec 3 n)) []:=by
 exact (Qn6d n hg).1
theorem Q0nj : EntOK Tryz.prog CP Qstj Qcmq:=by
 refine ⟨eob (by kernel_rfl),fun _ _ _ _ h=>?_⟩
 simp only [Qcmq,E_dec] at h
 split at h
 ·obtain ⟨hg,rfl,rfl⟩:=eoh h
  exact Qero _ hg
 ·cases h

noncomputable def Qrxb : RE Ty El:=⟨Tryz.prog,CP,[(Qstj,Qcmq)],Tryz.f109,0,[],[]⟩
theorem Qe66 : REOK Qrxb Qstj:=⟨CP_ok,(TabOK.cons Q0nj Qye1),by kernel_rfl,by kernel_rfl⟩
theorem Qsny (n : Int) : aRun Qrxb 600 false (body0 Qrxb.fn) (Q4gm Qrxb.fn [.int .i64 n] []) =
 ifb (decide (n < 10)) (some (.ret (.str (List.map (fun n=>UInt8.ofNat n.toNat) (List.map (fun n=>n) [IntKind.u8.wrap (IntKind.i64.wrap ((48 : Int) + n))]))) [])) (ifb (decide (0 ≤ IntKind.i64.wrap (n.tdiv (10 : Int))) && decide (IntKind.i64.wrap (n.tdiv (10 : Int)) < (10 : Int) ^ ((3 : Nat) + (1 : Nat)))) (ifb (decide (List.length (dDec (3 : Nat) (IntKind.i64.wrap (n.tdiv (10 : Int)))) + (List.map (fun n=>UInt8.ofNat n.toNat) (List.map (fun n=>n) [IntKind.u8.wrap (IntKind.i64.wrap ((48 : Int) + n.tmod (10 : Int)))])).length ≤ (9223372036854775807 : Nat))) (some (.ret (.str (dDec (3 : Nat) (IntKind.i64.wrap (n.tdiv (10 : Int))) ++ List.map (fun n=>UInt8.ofNat n.toNat) (List.map (fun n=>n) [IntKind.u8.wrap (IntKind.i64.wrap ((48 : Int) + n.tmod (10 : Int)))]))) [])) (none)) (none)):=by kernel_rfl
theorem Qbt7 (n : Int) (hg : (decide (0 ≤ n) && decide (n < 10 ^ (4 + 1))) = true) : Qewq Tryz.prog CP Qstj [.int .i64 n] [] (.str (dDec 4 n)) [] ∧ (dDec 4 n).length ≤ 4 + 1:=by
 simp only [qaT,qdT] at hg
 obtain ⟨g0,g1⟩:=hg
 have hE : CallE Qrxb.P Qrxb.C Qstj [.int .i64 n] [] (fun v h=>∃ x : Str,v = .str x ∧ h = [] ∧ x.length ≤ 4 + 1):=CallE.of Qe66 (by kernel_rfl) (Qsny n) (SatE.ifb (fun _=>SatE.ret ⟨_,rfl,rfl,by simp⟩) (fun e=>by
  have he:=of_decide_eq_false e
  have h1 : 0 ≤ n.tdiv 10:=Int.tdiv_nonneg g0 (by omega)
  have h2 : n.tdiv 10 < 10 ^ 4:=by rw [Int.tdiv_eq_ediv_of_nonneg g0]; omega
  have hw : IntKind.i64.wrap (n.tdiv 10) = n.tdiv 10:=Qbrg (by omega) (by omega)
  have hl:=(Qn6d (n.tdiv 10) (by simp only [qaT,qdT]; exact ⟨h1,h2⟩)).2
  rw [hw]
  exact SatE.need (by simp only [qaT,qdT]; exact ⟨h1,h2⟩) (SatE.need (by simp; omega) (SatE.ret ⟨_,rfl,rfl,by simp; omega⟩))))
 obtain ⟨v,H',h,x,rfl,rfl,hx⟩:=hE
 exact Qk78 (p:=fun x=>Qewq Tryz.prog CP Qstj [.int .i64 n] [] (.str x) [] ∧ x.length ≤ 4 + 1) ⟨x,h,hx⟩
theorem Qxm3 (n : Int) (hg : (decide (0 ≤ n) && decide (n < 10 ^ (4 + 1))) = true) : Qewq Tryz.prog CP Qstj [.int .i64 n] [] (.str (dDec 4 n)) []:=by
 exact (Qbt7 n hg).1
theorem Qqii : EntOK Tryz.prog CP Qstj Qmce:=by
 refine ⟨eob (by kernel_rfl),fun _ _ _ _ h=>?_⟩
 simp only [Qmce,E_dec] at h
 split at h
 ·obtain ⟨hg,rfl,rfl⟩:=eoh h
  exact Qxm3 _ hg
 ·cases h

noncomputable def Q91e : RE Ty El:=⟨Tryz.prog,CP,[],Tryz.f161,0,[],[(2,[(0,.any),(1,.any),(5,.any)])]⟩
theorem Qk3z : REOK Q91e Q1eg:=⟨CP_ok,Qye1,by kernel_rfl,by kernel_rfl⟩
theorem Qhfw (s : Str) (n : Int) : aRun Q91e 600 false (body0 Q91e.fn) (Q4gm Q91e.fn [.str s,.int .i64 n] []) =
 some (.go (Qu6t Q91e.fn 2) [.str s,.int .i64 n,.str #[].toList] []):=by kernel_rfl
theorem Qolg (x0 : Str) (x1 : Int) (x2 : Str) : aRun Q91e 600 true (Qu6t Q91e.fn 2) (cutSt Q91e.fn (Q1m4 Q91e (Qu6t Q91e.fn 2)) [.str x0,.int .i64 x1,.str x2] []) =
 ifb (decide (x1 > 0)) (ifb (x1.tmod (2 : Int) == (1 : Int)) (ifb (decide (List.length x2 + List.length x0 ≤ (9223372036854775807 : Nat))) (ifb (decide (List.length x0 + List.length x0 ≤ (9223372036854775807 : Nat))) (some (.go (Qu6t Q91e.fn 2) [.str (x0 ++ x0),.int .i64 (IntKind.i64.wrap (x1.tdiv (2 : Int))),.str (x2 ++ x0)] [])) (none)) (none)) (ifb (decide (List.length x0 + List.length x0 ≤ (9223372036854775807 : Nat))) (some (.go (Qu6t Q91e.fn 2) [.str (x0 ++ x0),.int .i64 (IntKind.i64.wrap (x1.tdiv (2 : Int))),.str x2] [])) (none))) (some (.ret (.str x2) [])):=by kernel_rfl
theorem Qor1 : ∀ (d : Nat) (x : Str) (n : Int) (o : Str),n < 2 ^ d → d ≤ 6 → x.length * 2 ^ d ≤ 64 → o.length * 2 ^ d ≤ 64 →
  CutE Q91e Q1eg 2 [.str x,.int .i64 n,.str o] [] (fun v h=>∃ y : Str,v = .str y ∧ h = [] ∧ y.length ≤ 4096):=by
 intro d
 induction d with
 | zero =>
  intro x n o hn hd hx ho
  refine CutE.of Qk3z rfl (Qolg x n o) ?_
  rw [show decide (n > (0 : Int)) = false from decide_eq_false (by simp at hn; omega)]
  exact SatE.ret ⟨_,rfl,rfl,by simp at ho; omega⟩
 | succ d ih =>
  intro x n o hn hd hx ho
  have hp : 2 ^ (d + 1) = 2 * 2 ^ d:=by rw [Nat.pow_succ,Nat.mul_comm]
  have hp1 : 1 ≤ 2 ^ d:=Nat.one_le_two_pow
  have hx' : x.length * 2 ^ d ≤ 32:=by
   have : x.length * 2 ^ (d + 1) = 2 * (x.length * 2 ^ d):=by rw [hp,← Nat.mul_assoc,Nat.mul_comm x.length 2,Nat.mul_assoc]
   omega
  have ho' : o.length * 2 ^ d ≤ 32:=by
   have : o.length * 2 ^ (d + 1) = 2 * (o.length * 2 ^ d):=by rw [hp,← Nat.mul_assoc,Nat.mul_comm o.length 2,Nat.mul_assoc]
   omega
  have hxl : x.length ≤ 32:=Nat.le_trans (Nat.le_mul_of_pos_right _ hp1) hx'
  have hol : o.length ≤ 32:=Nat.le_trans (Nat.le_mul_of_pos_right _ hp1) ho'
  have hxx : (x ++ x).length * 2 ^ d ≤ 64:=by rw [List.length_append,Nat.add_mul]; omega
  have hox : (o ++ x).length * 2 ^ d ≤ 64:=by rw [List.length_append,Nat.add_mul]; omega
  refine CutE.of Qk3z rfl (Qolg x n o) ?_
  refine SatE.ifb (fun h0=>?_) (fun _=>SatE.ret ⟨_,rfl,rfl,by omega⟩)
  have h0:=of_decide_eq_true h0
  have hn' : n < 2 * 2 ^ d:=by have e : (2 : Int) ^ (d + 1) = 2 * 2 ^ d:=(by rw [Int.pow_succ,Int.mul_comm]); rw [e] at hn; exact hn
  have hq : n.tdiv 2 < 2 ^ d:=by rw [Int.tdiv_eq_ediv_of_nonneg (by omega)]; exact Int.ediv_lt_of_lt_mul (by omega) (by rw [Int.mul_comm]; exact hn')
  have hlim : (2 : Int) ^ (d + 1) ≤ 64:=by
   have : d + 1 ≤ 6:=hd
   have:=Nat.pow_le_pow_right (n:=2) (by omega) this
   exact_mod_cast this
  have hw : IntKind.i64.wrap (n.tdiv 2) = n.tdiv 2:=Qbrg (by rw [Int.tdiv_eq_ediv_of_nonneg (by omega)]; omega) (by rw [Int.tdiv_eq_ediv_of_nonneg (by omega)]; omega)
  rw [hw]
  refine SatE.ifb (fun _=>?_) (fun _=>?_)
  ·exact SatE.need (decide_eq_true (by omega)) (SatE.need (decide_eq_true (by omega)) (SatE.cut (ih _ _ _ hq (by omega) hxx hox)))
  ·exact SatE.need (decide_eq_true (by omega)) (SatE.cut (ih _ _ _ hq (by omega) hxx (by omega)))
theorem Q8h3 (s : Str) (n : Int) (hg : (decide (s.length ≤ 1) && decide (n < 64)) = true) : Qewq Tryz.prog CP Q1eg [.str s,.int .i64 n] [] (.str (dMany s n)) []:=by
 simp only [qaT,qdT] at hg
 obtain ⟨g0,g1⟩:=hg
 have hE : CallE Q91e.P Q91e.C Q1eg [.str s,.int .i64 n] [] (fun v h=>∃ y : Str,v = .str y ∧ h = [] ∧ y.length ≤ 4096):=CallE.of Qk3z (by kernel_rfl) (Qhfw s n) (SatE.cut (Qor1 6 s n [] (by omega) (by omega) (by omega) (by simp)))
 obtain ⟨v,H',h,x,rfl,rfl,hx⟩:=hE
 exact (Qk78 (p:=fun x=>Qewq Tryz.prog CP Q1eg [.str s,.int .i64 n] [] (.str x) [] ∧ x.length ≤ 4096) ⟨x,h,hx⟩).1
theorem Q8hv : EntOK Tryz.prog CP Q1eg Qvc4:=by
 refine ⟨eob (by kernel_rfl),fun _ _ _ _ h=>?_⟩
 simp only [Qvc4] at h
 split at h
 ·obtain ⟨hg,rfl,rfl⟩:=eoh h
  exact Q8h3 _ _ hg
 ·cases h

noncomputable def Qxcu : RE Ty El:=⟨Tryz.prog,CP,[(Qchm,Q2vb)],Tryz.f120,1,[],[]⟩
theorem Qa1g : REOK Qxcu Q0nv:=⟨CP_ok,(TabOK.cons Qyvd Qye1),by kernel_rfl,by kernel_rfl⟩
theorem Qamv (bs : List Int) (p : Int) : aRun Qxcu 600 false (body0 Qxcu.fn) (Q4gm Qxcu.fn [.ptr 0 0] [.box [.sl .u8 bs,.int .i64 p]]) =
 ifb (rdOk bs p && decide ((0 : Nat) < [#[].toList, #[(110 : UInt8),(111 : UInt8),(110 : UInt8),(101 : UInt8)].toList, #[(53 : UInt8),(32 : UInt8),(52 : UInt8)].toList, #[(48 : UInt8),(32 : UInt8),(49 : UInt8),(48 : UInt8),(48 : UInt8),(48 : UInt8),(49 : UInt8)].toList, #[(49 : UInt8),(48 : UInt8),(48 : UInt8),(48 : UInt8),(48 : UInt8),(32 : UInt8),(49 : UInt8),(48 : UInt8),(48 : UInt8),(48 : UInt8),(48 : UInt8)].toList, #[(48 : UInt8),(49 : UInt8)].toList, #[(48 : UInt8)].toList, #[(55 : UInt8)].toList, #[(97 : UInt8),(108 : UInt8),(102 : UInt8),(97 : UInt8)].toList, #[(97 : UInt8),(108 : UInt8),(102 : UInt8),(97 : UInt8),(32 : UInt8),(97 : UInt8),(108 : UInt8),(102 : UInt8),(97 : UInt8)].toList, #[(97 : UInt8),(108 : UInt8),(102 : UInt8),(97 : UInt8),(32 : UInt8),(98 : UInt8),(114 : UInt8),(97 : UInt8),(118 : UInt8),(32 : UInt8)].toList, #[(111 : UInt8),(112 : UInt8),(101 : UInt8),(110 : UInt8),(32 : UInt8)].toList, #[(97 : UInt8),(108 : UInt8),(102 : UInt8),(97 : UInt8),(32 : UInt8),(98 : UInt8),(114 : UInt8),(97 : UInt8),(118 : UInt8),(32 : UInt8),(97 : UInt8),(108 : UInt8),(102 : UInt8),(97 : UInt8),(32 : UInt8),(98 : UInt8),(114 : UInt8),(97 : UInt8),(118 : UInt8),(32 : UInt8),(97 : UInt8),(108 : UInt8),(102 : UInt8),(97 : UInt8),(32 : UInt8),(98 : UInt8),(114 : UInt8),(97 : UInt8),(118 : UInt8),(32 : UInt8),(97 : UInt8),(108 : UInt8),(102 : UInt8),(97 : UInt8),(32 : UInt8),(98 : UInt8),(114 : UInt8),(97 : UInt8),(118 : UInt8),(32 : UInt8),(97 : UInt8),(108 : UInt8),(102 : UInt8),(97 : UInt8)].toList, #[(97 : UInt8),(49 : UInt8),(32 : UInt8)].toList, #[(10 : UInt8)].toList, #[(53 : UInt8),(32 : UInt8),(53 : UInt8),(32 : UInt8),(53 : UInt8)].toList].length)) (some (.ret (.str (ofV bs p [#[].toList, #[(110 : UInt8),(111 : UInt8),(110 : UInt8),(101 : UInt8)].toList, #[(53 : UInt8),(32 : UInt8),(52 : UInt8)].toList, #[(48 : UInt8),(32 : UInt8),(49 : UInt8),(48 : UInt8),(48 : UInt8),(48 : UInt8),(49 : UInt8)].toList, #[(49 : UInt8),(48 : UInt8),(48 : UInt8),(48 : UInt8),(48 : UInt8),(32 : UInt8),(49 : UInt8),(48 : UInt8),(48 : UInt8),(48 : UInt8),(48 : UInt8)].toList, #[(48 : UInt8),(49 : UInt8)].toList, #[(48 : UInt8)].toList, #[(55 : UInt8)].toList, #[(97 : UInt8),(108 : UInt8),(102 : UInt8),(97 : UInt8)].toList, #[(97 : UInt8),(108 : UInt8),(102 : UInt8),(97 : UInt8),(32 : UInt8),(97 : UInt8),(108 : UInt8),(102 : UInt8),(97 : UInt8)].toList, #[(97 : UInt8),(108 : UInt8),(102 : UInt8),(97 : UInt8),(32 : UInt8),(98 : UInt8),(114 : UInt8),(97 : UInt8),(118 : UInt8),(32 : UInt8)].toList, #[(111 : UInt8),(112 : UInt8),(101 : UInt8),(110 : UInt8),(32 : UInt8)].toList, #[(97 : UInt8),(108 : UInt8),(102 : UInt8),(97 : UInt8),(32 : UInt8),(98 : UInt8),(114 : UInt8),(97 : UInt8),(118 : UInt8),(32 : UInt8),(97 : UInt8),(108 : UInt8),(102 : UInt8),(97 : UInt8),(32 : UInt8),(98 : UInt8),(114 : UInt8),(97 : UInt8),(118 : UInt8),(32 : UInt8),(97 : UInt8),(108 : UInt8),(102 : UInt8),(97 : UInt8),(32 : UInt8),(98 : UInt8),(114 : UInt8),(97 : UInt8),(118 : UInt8),(32 : UInt8),(97 : UInt8),(108 : UInt8),(102 : UInt8),(97 : UInt8),(32 : UInt8),(98 : UInt8),(114 : UInt8),(97 : UInt8),(118 : UInt8),(32 : UInt8),(97 : UInt8),(108 : UInt8),(102 : UInt8),(97 : UInt8)].toList, #[(97 : UInt8),(49 : UInt8),(32 : UInt8)].toList, #[(10 : UInt8)].toList, #[(53 : UInt8),(32 : UInt8),(53 : UInt8),(32 : UInt8),(53 : UInt8)].toList])) [.box [.sl .u8 bs,.int .i64 (p + 1)]])) (none):=by kernel_rfl
theorem Qb3p (bs : List Int) (p : Int) (hg : rdOk bs p = true) : Qewq Tryz.prog CP Q0nv [.ptr 0 0] [.box [.sl .u8 bs,.int .i64 p]] (.str (ofV bs p bad12)) [.box [.sl .u8 bs,.int .i64 (p + 1)]]:=by
 refine Qewq.of Qa1g (by kernel_rfl) (Qamv bs p) ?_
 rw [hg]
 exact Sat.ret rfl rfl
theorem Q83y : EntOK Tryz.prog CP Q0nv Qwn9:=by
 refine ⟨eob (by kernel_rfl),fun _ _ _ _ h=>?_⟩
 simp only [Qwn9] at h
 split at h
 ·obtain ⟨hg,rfl,rfl⟩:=eoh h
  exact Qb3p _ _ hg
 ·cases h
end Lx
namespace Lx
open Go Go.Proofs
noncomputable def Qw6i : RE Ty El:=⟨Tryz.prog,CP,[(Qpxs,Q7v2)],Tryz.f89,1,[.agg [.ro .kind,.ro .point]],[(7,[(0,.any),(2,.any),(3,.any),(4,.any),(5,.any),(6,.any)]),(12,[(0,.any),(2,.any),(3,.any),(4,.any),(5,.any),(6,.any),(7,.any),(8,.any),(9,.any)])]⟩
theorem Qo8w : REOK Qw6i Qwua:=⟨CP_ok,(TabOK.cons Q0e7 Qye1),by kernel_rfl,by kernel_rfl⟩
theorem Qaoa (bs : List Int) (p : Int) : aRun Qw6i 600 false (body0 Qw6i.fn) (Q4gm Qw6i.fn [.ptr 0 0] [.box [.sl .u8 bs,.int .i64 p]]) =
 ifb (posOk p) (ifb (posOk (p + 1)) (ifb (posOk (p + 1 + 1)) (ifb (pickV bs (p + 1 + 1) (4 : Int) == (0 : Int)) (ifb (posOk (p + 1 + 1 + 1)) (ifb (posOk (p + 1 + 1 + 1 + 1)) (ifb (inb (pickV bs (p + 1 + 1 + 1 + 1) (3 : Int)) [(6 : Int),(6 : Int),(16 : Int)].length) (some (.go (Qu6t Qw6i.fn 7) [.ptr 0 0,.ptr 1 0,.ptr 2 0,.sl .str [#[(97 : UInt8),(108 : UInt8),(102 : UInt8),(97 : UInt8)].toList, #[(98 : UInt8),(114 : UInt8),(97 : UInt8),(118 : UInt8)].toList, #[(99 : UInt8),(104 : UInt8),(97 : UInt8),(114 : UInt8)].toList, #[(100 : UInt8),(45 : UInt8),(52 : UInt8)].toList, #[(101 : UInt8),(99 : UInt8),(104 : UInt8),(111 : UInt8)].toList, #[(120 : UInt8)].toList],.int .i64 ([(6 : Int),(6 : Int),(16 : Int)].getD (pickV bs (p + 1 + 1 + 1 + 1) (3 : Int)).toNat (Qw6i.C.dflt Ty.int)),.int .i64 0] [.box [.sl .u8 bs,.int .i64 (p + 1 + 1 + 1 + 1 + 1)],.box [.nils,.nils],.box [.own 3 [] 0,.nils],.row .kind ([Kind.mk #[(97 : UInt8),(49 : UInt8)].toList (1 : Int) (IntKind.i64.wrap ((1 : Int) + pickV bs p (3 : Int))),Kind.mk #[(104 : UInt8),(101 : UInt8),(97 : UInt8),(118 : UInt8),(121 : UInt8)].toList (IntKind.i64.wrap ((2 : Int) + pickV bs (p + 1) (2 : Int))) (5 : Int)] ++ [Kind.mk #[(115 : UInt8),(108 : UInt8),(111 : UInt8),(119 : UInt8)].toList (IntKind.i64.wrap ((1 : Int) + pickV bs (p + 1 + 1 + 1) (50 : Int))) (50 : Int)]) 0 0 0 .no])) (none)) (none)) (none)) (ifb (posOk (p + 1 + 1 + 1)) (ifb (inb (pickV bs (p + 1 + 1 + 1) (3 : Int)) [(6 : Int),(6 : Int),(16 : Int)].length) (some (.go (Qu6t Qw6i.fn 7) [.ptr 0 0,.ptr 1 0,.ptr 2 0,.sl .str [#[(97 : UInt8),(108 : UInt8),(102 : UInt8),(97 : UInt8)].toList, #[(98 : UInt8),(114 : UInt8),(97 : UInt8),(118 : UInt8)].toList, #[(99 : UInt8),(104 : UInt8),(97 : UInt8),(114 : UInt8)].toList, #[(100 : UInt8),(45 : UInt8),(52 : UInt8)].toList, #[(101 : UInt8),(99 : UInt8),(104 : UInt8),(111 : UInt8)].toList, #[(120 : UInt8)].toList],.int .i64 ([(6 : Int),(6 : Int),(16 : Int)].getD (pickV bs (p + 1 + 1 + 1) (3 : Int)).toNat (Qw6i.C.dflt Ty.int)),.int .i64 0] [.box [.sl .u8 bs,.int .i64 (p + 1 + 1 + 1 + 1)],.box [.nils,.nils],.box [.own 3 [] 0,.nils],.row .kind [Kind.mk #[(97 : UInt8),(49 : UInt8)].toList (1 : Int) (IntKind.i64.wrap ((1 : Int) + pickV bs p (3 : Int))),Kind.mk #[(104 : UInt8),(101 : UInt8),(97 : UInt8),(118 : UInt8),(121 : UInt8)].toList (IntKind.i64.wrap ((2 : Int) + pickV bs (p + 1) (2 : Int))) (5 : Int)] 0 0 0 .no])) (none)) (none))) (none)) (none)) (none):=by kernel_rfl
theorem Qmss (x0 : List (El .str)) (x1 : Int) (x2 : Int) (x3 : List (El .u8)) (x4 : Int) (x5 : List (El .kind)) : aRun Qw6i 600 true (Qu6t Qw6i.fn 7) (cutSt Qw6i.fn (Q1m4 Qw6i (Qu6t Qw6i.fn 7)) [.ptr 0 0,.ptr 1 0,.ptr 2 0,.sl .str x0,.int .i64 x1,.int .i64 x2] [.box [.sl .u8 x3,.int .i64 x4],.box [.nils,.nils],.box [.own 3 [] 0,.nils],.row .kind x5 0 0 0 .no]) =
 ifb (decide (x2 < (↑x0.length : Int))) (ifb (inb x2 x0.length) (ifb (posOk x4) (ifb (posOk (x4 + 1)) (some (.go (Qu6t Qw6i.fn 12) [.ptr 0 0,.ptr 1 0,.ptr 2 0,.sl .str x0,.int .i64 x1,.int .i64 x2,.ptr 4 0,.bool true,.int .i64 0] [.box [.sl .u8 x3,.int .i64 (x4 + 1 + 1)],.box [.nils,.nils],.box [.own 3 [] 0,.nils],.row .kind x5 0 0 0 .no,.box [.str (x0.getD x2.toNat (Qw6i.C.dflt Ty.str)),.int .i64 (pickV x3 x4 x1),.int .i64 (pickV x3 (x4 + 1) x1)]])) (none)) (none)) (none)) (some (.ret (.agg [.sl .kind x5,.sl .point []]) [.box [.sl .u8 x3,.int .i64 x4]])):=by kernel_rfl
theorem Qu0y (x0 : List (El .str)) (x1 : Int) (x2 : Int) (x3 : Bool) (x4 : Int) (x5 : List (El .u8)) (x6 : Int) (x7 : List (El .kind)) (x8 : Str) (x9 : Int) (x10 : Int) : aRun Qw6i 600 true (Qu6t Qw6i.fn 12) (cutSt Qw6i.fn (Q1m4 Qw6i (Qu6t Qw6i.fn 12)) [.ptr 0 0,.ptr 1 0,.ptr 2 0,.sl .str x0,.int .i64 x1,.int .i64 x2,.ptr 4 0,.bool x3,.int .i64 x4] [.box [.sl .u8 x5,.int .i64 x6],.box [.nils,.nils],.box [.own 3 [] 0,.nils],.row .kind x7 0 0 0 .no,.box [.str x8,.int .i64 x9,.int .i64 x10]]) =
 ifb (decide (x4 < 0)) (ifb x3 (none) (some (.go (Qu6t Qw6i.fn 12) [.ptr 0 0,.ptr 1 0,.ptr 2 0,.sl .str x0,.int .i64 x1,.int .i64 x2,.ptr 4 0,.bool false,.int .i64 (IntKind.i64.wrap (x4 + 1))] [.box [.sl .u8 x5,.int .i64 x6],.box [.nils,.nils],.box [.own 3 [] 0,.nils],.row .kind x7 0 0 0 .no,.box [.str x8,.int .i64 x9,.int .i64 x10]]))) (ifb x3 (some (.go (Qu6t Qw6i.fn 7) [.ptr 0 0,.ptr 1 0,.ptr 2 0,.sl .str x0,.int .i64 x1,.int .i64 (IntKind.i64.wrap (x2 + 1))] [.box [.sl .u8 x5,.int .i64 x6],.box [.nils,.nils],.box [.own 3 [] 0,.own 4 [] 0],.row .kind x7 0 0 0 .no,.row .point [Point.mk x8 x9 x10] 0 0 0 .no])) (some (.go (Qu6t Qw6i.fn 7) [.ptr 0 0,.ptr 1 0,.ptr 2 0,.sl .str x0,.int .i64 x1,.int .i64 (IntKind.i64.wrap (x2 + 1))] [.box [.sl .u8 x5,.int .i64 x6],.box [.nils,.nils],.box [.own 3 [] 0,.nils],.row .kind x7 0 0 0 .no]))):=by kernel_rfl
theorem Qtpe (x0 : List (El .str)) (x1 : Int) (x2 : Int) (x3 : List (El .u8)) (x4 : Int) (x5 : List (El .kind)) (x6 : List (El .point)) : aRun Qw6i 600 true (Qu6t Qw6i.fn 7) (cutSt Qw6i.fn (Q1m4 Qw6i (Qu6t Qw6i.fn 7)) [.ptr 0 0,.ptr 1 0,.ptr 2 0,.sl .str x0,.int .i64 x1,.int .i64 x2] [.box [.sl .u8 x3,.int .i64 x4],.box [.nils,.nils],.box [.own 3 [] 0,.own 4 [] 0],.row .kind x5 0 0 0 .no,.row .point x6 0 0 0 .no]) =
 ifb (decide (x2 < (↑x0.length : Int))) (ifb (inb x2 x0.length) (ifb (posOk x4) (ifb (posOk (x4 + 1)) (some (.go (Qu6t Qw6i.fn 12) [.ptr 0 0,.ptr 1 0,.ptr 2 0,.sl .str x0,.int .i64 x1,.int .i64 x2,.ptr 5 0,.bool true,.int .i64 0] [.box [.sl .u8 x3,.int .i64 (x4 + 1 + 1)],.box [.nils,.nils],.box [.own 3 [] 0,.own 4 [] 0],.row .kind x5 0 0 0 .no,.row .point x6 0 0 0 .no,.box [.str (x0.getD x2.toNat (Qw6i.C.dflt Ty.str)),.int .i64 (pickV x3 x4 x1),.int .i64 (pickV x3 (x4 + 1) x1)]])) (none)) (none)) (none)) (some (.ret (.agg [.sl .kind x5,.sl .point x6]) [.box [.sl .u8 x3,.int .i64 x4]])):=by kernel_rfl
theorem Qod9 (x0 : List (El .str)) (x1 : Int) (x2 : Int) (x3 : Bool) (x4 : Int) (x5 : List (El .u8)) (x6 : Int) (x7 : List (El .kind)) (x8 : List (El .point)) (x9 : Str) (x10 : Int) (x11 : Int) : aRun Qw6i 600 true (Qu6t Qw6i.fn 12) (cutSt Qw6i.fn (Q1m4 Qw6i (Qu6t Qw6i.fn 12)) [.ptr 0 0,.ptr 1 0,.ptr 2 0,.sl .str x0,.int .i64 x1,.int .i64 x2,.ptr 5 0,.bool x3,.int .i64 x4] [.box [.sl .u8 x5,.int .i64 x6],.box [.nils,.nils],.box [.own 3 [] 0,.own 4 [] 0],.row .kind x7 0 0 0 .no,.row .point x8 0 0 0 .no,.box [.str x9,.int .i64 x10,.int .i64 x11]]) =
 ifb (decide (x4 < (↑x8.length : Int))) (ifb x3 (ifb (inb x4 x8.length) (ifb ((x8.getD x4.toNat (Qw6i.C.dflt Ty.point)).x != x10) (some (.go (Qu6t Qw6i.fn 12) [.ptr 0 0,.ptr 1 0,.ptr 2 0,.sl .str x0,.int .i64 x1,.int .i64 x2,.ptr 5 0,.bool true,.int .i64 (IntKind.i64.wrap (x4 + 1))] [.box [.sl .u8 x5,.int .i64 x6],.box [.nils,.nils],.box [.own 3 [] 0,.own 4 [] 0],.row .kind x7 0 0 0 .no,.row .point x8 0 0 0 .no,.box [.str x9,.int .i64 x10,.int .i64 x11]])) (ifb (inb x4 x8.length) (some (.go (Qu6t Qw6i.fn 12) [.ptr 0 0,.ptr 1 0,.ptr 2 0,.sl .str x0,.int .i64 x1,.int .i64 x2,.ptr 5 0,.bool ((x8.getD x4.toNat (Qw6i.C.dflt Ty.point)).y != x11),.int .i64 (IntKind.i64.wrap (x4 + 1))] [.box [.sl .u8 x5,.int .i64 x6],.box [.nils,.nils],.box [.own 3 [] 0,.own 4 [] 0],.row .kind x7 0 0 0 .no,.row .point x8 0 0 0 .no,.box [.str x9,.int .i64 x10,.int .i64 x11]])) (none))) (none)) (some (.go (Qu6t Qw6i.fn 12) [.ptr 0 0,.ptr 1 0,.ptr 2 0,.sl .str x0,.int .i64 x1,.int .i64 x2,.ptr 5 0,.bool false,.int .i64 (IntKind.i64.wrap (x4 + 1))] [.box [.sl .u8 x5,.int .i64 x6],.box [.nils,.nils],.box [.own 3 [] 0,.own 4 [] 0],.row .kind x7 0 0 0 .no,.row .point x8 0 0 0 .no,.box [.str x9,.int .i64 x10,.int .i64 x11]]))) (ifb x3 (ifb (decide ((x8.length + [Point.mk x9 x10 x11].length) * Qbhn Qw6i.P (160 : Nat) ≤ (140737488355328 : Nat))) (some (.go (Qu6t Qw6i.fn 7) [.ptr 0 0,.ptr 1 0,.ptr 2 0,.sl .str x0,.int .i64 x1,.int .i64 (IntKind.i64.wrap (x2 + 1))] [.box [.sl .u8 x5,.int .i64 x6],.box [.nils,.nils],.box [.own 3 [] 0,.own 4 [] 0],.row .kind x7 0 0 0 .no,.row .point (x8 ++ [Point.mk x9 x10 x11]) 0 0 0 .no])) (none)) (some (.go (Qu6t Qw6i.fn 7) [.ptr 0 0,.ptr 1 0,.ptr 2 0,.sl .str x0,.int .i64 x1,.int .i64 (IntKind.i64.wrap (x2 + 1))] [.box [.sl .u8 x5,.int .i64 x6],.box [.nils,.nils],.box [.own 3 [] 0,.own 4 [] 0],.row .kind x7 0 0 0 .no,.row .point x8 0 0 0 .no]))):=by kernel_rfl
theorem Q1qw (bs : List Int) (ks : List Kind) (ps : List Point) (side X Y q q0 : Int) (i : Nat) (hi : i < 6) (hl : ps.length ≤ 6)
  (K0 : CutE Qw6i Qwua 7 [.ptr 0 0,.ptr 1 0,.ptr 2 0,.sl .str Qf10,.int .i64 side,.int .i64 ((i + 1 : Nat) : Int)] [.box [.sl .u8 bs,.int .i64 q],.box [.nils,.nils],.box [.own 3 [] 0,.own 4 [] 0],.row .kind ks 0 0 0 .no,.row .point ps 0 0 0 .no] (fun v h=>∃ (z : List Point) (r : Int),v = .agg [.sl .kind ks,.sl .point z] ∧ h = [.box [.sl .u8 bs,.int .i64 r]] ∧ PI z 6 ∧ 1 ≤ z.length ∧ q0 ≤ r ∧ r ≤ q0 + 12))
  (K1 : Q343 ps ⟨Qf10.getD i [],X,Y⟩ = true → CutE Qw6i Qwua 7 [.ptr 0 0,.ptr 1 0,.ptr 2 0,.sl .str Qf10,.int .i64 side,.int .i64 ((i + 1 : Nat) : Int)] [.box [.sl .u8 bs,.int .i64 q],.box [.nils,.nils],.box [.own 3 [] 0,.own 4 [] 0],.row .kind ks 0 0 0 .no,.row .point (ps ++ [⟨Qf10.getD i [],X,Y⟩]) 0 0 0 .no] (fun v h=>∃ (z : List Point) (r : Int),v = .agg [.sl .kind ks,.sl .point z] ∧ h = [.box [.sl .u8 bs,.int .i64 r]] ∧ PI z 6 ∧ 1 ≤ z.length ∧ q0 ≤ r ∧ r ≤ q0 + 12)) :
  ∀ (d k : Nat),k + d = ps.length → CutE Qw6i Qwua 12 [.ptr 0 0,.ptr 1 0,.ptr 2 0,.sl .str Qf10,.int .i64 side,.int .i64 (i : Int),.ptr 5 0,.bool (Q343 (ps.take k) ⟨Qf10.getD i [],X,Y⟩),.int .i64 (k : Int)] ([.box [.sl .u8 bs,.int .i64 q],.box [.nils,.nils],.box [.own 3 [] 0,.own 4 [] 0],.row .kind ks 0 0 0 .no,.row .point ps 0 0 0 .no,.box [.str (Qf10.getD i []),.int .i64 X,.int .i64 Y]]) (fun v h=>∃ (z : List Point) (r : Int),v = .agg [.sl .kind ks,.sl .point z] ∧ h = [.box [.sl .u8 bs,.int .i64 r]] ∧ PI z 6 ∧ 1 ≤ z.length ∧ q0 ≤ r ∧ r ≤ q0 + 12):=by
 have hb : Qbhn Qw6i.P 160 ≤ 256:=of_decide_eq_true (by kernel_rfl)
 have hwi : IntKind.wrap .i64 ((i : Int) + 1) = ((i + 1 : Nat) : Int):=by rw [Qbrg] <;> omega
 intro d
 induction d with
 | zero =>
  intro k hk
  refine CutE.of Qo8w rfl (Qod9 Qf10 side i _ k bs q ks ps _ X Y) ?_
  rw [show decide ((k : Int) < (ps.length : Int)) = false from decide_eq_false (by omega),List.take_of_length_le (by omega),hwi]
  simp only [Qk7y]
  cases hf : Q343 ps ⟨Qf10.getD i [],X,Y⟩ with
  | true=>exact SatE.need (Q1mk hb (by simp; omega)) (SatE.cut (K1 hf))
  | false=>exact SatE.cut K0
 | succ d ih =>
  intro k hk
  refine CutE.of Qo8w rfl (Qod9 Qf10 side i _ k bs q ks ps _ X Y) ?_
  have hlt : k < ps.length:=by omega
  have hw : IntKind.wrap .i64 ((k : Int) + 1) = ((k + 1 : Nat) : Int):=by rw [Qbrg] <;> omega
  have hx : ps.getD (k : Int).toNat (Qw6i.C.dflt .point) = ps[k]:=by simp [hlt]
  have hin : inb (k : Int) ps.length = true:=by simp only [inb,qaT,qdT]; omega
  have hlo : decide ((k : Int) < (ps.length : Int)) = true:=decide_eq_true (by omega)
  have htk:=qtS hlt
  have hl : (ps.take (k + 1)).getLast? = some ps[k]:=by rw [qtS hlt,qlC]
  have hn:=ih (k + 1) (by omega)
  rw [htk] at hn
  have ha : Q343 (ps.take k ++ [ps[k]]) ⟨Qf10.getD i [],X,Y⟩ = (Q343 (ps.take k) ⟨Qf10.getD i [],X,Y⟩ && (ps[k].x != X || ps[k].y != Y)):=by
   simp only [Q343,List.all_append,List.all_cons,List.all_nil,Bool.and_true]
   congr 1
   cases h1 : ps[k].x == X <;> cases h2 : ps[k].y == Y <;> simp [bne,h1,h2]
  rw [ha] at hn
  rw [hlo,hin,hx,hw]
  simp only [Qd8q]
  cases hf : Q343 (ps.take k) ⟨Qf10.getD i [],X,Y⟩ with
  | false =>
   rw [hf,Bool.false_and] at hn
   exact SatE.cut hn
  | true =>
   rw [hf,Bool.true_and] at hn
   simp only [Qd8q]
   cases h1 : ps[k].x != X with
   | true =>
    rw [h1,Bool.true_or] at hn
    exact SatE.cut hn
   | false =>
    rw [h1,Bool.false_or] at hn
    exact SatE.cut hn
theorem Qvv4 (bs : List Int) (ks : List Kind) (side q0 : Int) (hbs : Qf9o bs = true) (hs : 1 ≤ side ∧ side ≤ 16) (h0 : 0 ≤ q0) (h1 : q0 ≤ 950000) : ∀ (d i : Nat) (ps : List Point) (q : Int),i + d = 6 → PI ps i → 1 ≤ ps.length → q0 ≤ q → q + 2 * d ≤ q0 + 12 →
  CutE Qw6i Qwua 7 [.ptr 0 0,.ptr 1 0,.ptr 2 0,.sl .str Qf10,.int .i64 side,.int .i64 (i : Int)] [.box [.sl .u8 bs,.int .i64 q],.box [.nils,.nils],.box [.own 3 [] 0,.own 4 [] 0],.row .kind ks 0 0 0 .no,.row .point ps 0 0 0 .no] (fun v h=>∃ (z : List Point) (r : Int),v = .agg [.sl .kind ks,.sl .point z] ∧ h = [.box [.sl .u8 bs,.int .i64 r]] ∧ PI z 6 ∧ 1 ≤ z.length ∧ q0 ≤ r ∧ r ≤ q0 + 12):=by
 intro d
 induction d with
 | zero =>
  intro i ps q hi hp hps hq hq2
  refine CutE.of Qo8w rfl (Qtpe Qf10 side i bs q ks ps) ?_
  have : i = 6:=by omega
  subst this
  exact SatE.ret ⟨ps,q,rfl,rfl,hp,hps,hq,by omega⟩
 | succ d ih =>
  intro i ps q hi hp hps hq hq2
  refine CutE.of Qo8w rfl (Qtpe Qf10 side i bs q ks ps) ?_
  have hn6 : Qf10.length = 6:=rfl
  have hlt : i < Qf10.length:=by omega
  have hx : Qf10.getD (i : Int).toNat (Qw6i.C.dflt .str) = Qf10[i]:=by simp [hlt]
  have hin : inb (i : Int) Qf10.length = true:=by simp only [inb,qaT,qdT]; omega
  have hlo : decide ((i : Int) < (Qf10.length : Int)) = true:=decide_eq_true (by omega)
  have hg : Qf10.getD i [] = Qf10[i]:=by simp [hlt]
  obtain ⟨x1,x2⟩:=Q5va (n:=side) hbs (Q8s4 (q:=q) (by omega) (by omega)) hs.1
  obtain ⟨y1,y2⟩:=Q5va (n:=side) hbs (Q8s4 (q:=q + 1) (by omega) (by omega)) hs.1
  rw [hlo,hin,hx]
  simp only [Qd8q]
  have hl6 : ps.length ≤ 6:=by have:=hp.2.1; omega
  have hin:=Q1qw bs ks ps side (pickV bs q side) (pickV bs (q + 1) side) (q + 1 + 1) q0 i (by omega) hl6 (ih (i + 1) ps (q + 1 + 1) (by omega) hp.next hps (by omega) (by omega))
   (fun hf=>ih (i + 1) _ (q + 1 + 1) (by omega) (hp.add (by omega) ⟨x1,by omega⟩ ⟨y1,by omega⟩ hf) (by simp) (by omega) (by omega)) ps.length 0 (by omega)
  rw [hg] at hin
  exact SatE.need (Q8s4 (by omega) (by omega)) (SatE.need (Q8s4 (by omega) (by omega)) (SatE.cut hin))
theorem Qo3a (bs : List Int) (ks : List Kind) (side q0 : Int) (hbs : Qf9o bs = true) (hs : 1 ≤ side ∧ side ≤ 16) (h0 : 0 ≤ q0) (h1 : q0 ≤ 950000) :
  CutE Qw6i Qwua 7 [.ptr 0 0,.ptr 1 0,.ptr 2 0,.sl .str Qf10,.int .i64 side,.int .i64 0] [.box [.sl .u8 bs,.int .i64 q0],.box [.nils,.nils],.box [.own 3 [] 0,.nils],.row .kind ks 0 0 0 .no] (fun v h=>∃ (z : List Point) (r : Int),v = .agg [.sl .kind ks,.sl .point z] ∧ h = [.box [.sl .u8 bs,.int .i64 r]] ∧ PI z 6 ∧ 1 ≤ z.length ∧ q0 ≤ r ∧ r ≤ q0 + 12):=by
 obtain ⟨x1,x2⟩:=Q5va (n:=side) hbs (Q8s4 (q:=q0) (by omega) (by omega)) hs.1
 obtain ⟨y1,y2⟩:=Q5va (n:=side) hbs (Q8s4 (q:=q0 + 1) (by omega) (by omega)) hs.1
 have hp0 : PI [] 0:=⟨rfl,Nat.le_refl _,fun _ _ _ _=>rfl⟩
 have hk:=Qvv4 bs ks side q0 hbs hs h0 h1 5 1 [⟨Qf10.getD 0 [],pickV bs q0 side,pickV bs (q0 + 1) side⟩] (q0 + 1 + 1) (by omega) (hp0.add (by omega) ⟨x1,by omega⟩ ⟨y1,by omega⟩ rfl) (by simp) (by omega) (by omega)
 refine CutE.of Qo8w rfl (Qmss Qf10 side 0 bs q0 ks) ?_
 rw [show decide ((0 : Int) < (Qf10.length : Int)) = true from rfl,show inb (0 : Int) Qf10.length = true from rfl,Q8s4 (q:=q0) (by omega) (by omega),Q8s4 (q:=q0 + 1) (by omega) (by omega)]
 simp only [Qd8q]
 refine SatE.cut ?_
 exact CutE.of Qo8w rfl (Qu0y Qf10 side 0 true 0 bs (q0 + 1 + 1) ks (Qf10.getD 0 []) _ _) (SatE.cut hk)
theorem Qf5l {n : Int} (h : 0 ≤ n ∧ n < 3) : inb n [(6 : Int),6,16].length = true ∧ 1 ≤ [(6 : Int),6,16].getD n.toNat 0 ∧ [(6 : Int),6,16].getD n.toNat 0 ≤ 16:=by
 have : n = 0 ∨ n = 1 ∨ n = 2:=by omega
 rcases this with rfl | rfl | rfl <;> decide
theorem Qis8 {a b : Int} (ha : 0 ≤ a ∧ a < 3) (hb : 0 ≤ b ∧ b < 2) : Qh9e none [⟨[97,49],1,IntKind.i64.wrap (1 + a)⟩,⟨[104,101,97,118,121],IntKind.i64.wrap (2 + b),5⟩] = true:=by
 rw [Qbrg (by omega) (by omega),Qbrg (by omega) (by omega)]
 simp only [Qh9e,Kind.ok,qaT,qdT,Qe7t]
 refine ⟨⟨by decide,by omega,by omega,by omega⟩,trivial,⟨by decide,by omega,by omega,by omega⟩,by decide,trivial⟩
theorem Qodo {a b c : Int} (ha : 0 ≤ a ∧ a < 3) (hb : 0 ≤ b ∧ b < 2) (hc : 0 ≤ c ∧ c < 50) : Qh9e none [⟨[97,49],1,IntKind.i64.wrap (1 + a)⟩,⟨[104,101,97,118,121],IntKind.i64.wrap (2 + b),5⟩,⟨[115,108,111,119],IntKind.i64.wrap (1 + c),50⟩] = true:=by
 rw [Qbrg (by omega) (by omega),Qbrg (by omega) (by omega),Qbrg (by omega) (by omega)]
 simp only [Qh9e,Kind.ok,qaT,qdT,Qe7t]
 refine ⟨⟨by decide,by omega,by omega,by omega⟩,trivial,⟨by decide,by omega,by omega,by omega⟩,by decide,⟨by decide,by omega,by omega,by omega⟩,by decide,trivial⟩
theorem Q46n (bs : List Int) (p : Int) (hg : rdK bs p = true) : Qewq Tryz.prog CP Qwua [.ptr 0 0] [.box [.sl .u8 bs,.int .i64 p]] (.agg [.sl .kind (dBase bs p).ks,.sl .point (dBase bs p).ps]) [.box [.sl .u8 bs,.int .i64 (dBase bs p).p]] ∧ Qn40 p (dBase bs p):=by
 have hg0:=hg
 simp only [rdK,qaT,qdT] at hg
 obtain ⟨hbs,h0,h1⟩:=hg
 have pk : ∀ (q n : Int),p ≤ q → q ≤ p + 10 → 1 ≤ n → 0 ≤ pickV bs q n ∧ pickV bs q n < n:=fun q n h2 h3 h4=>Q5va hbs (Q8s4 (by omega) (by omega)) h4
 have fin : ∀ (ks : List Kind) (q : Int) (n : Int),Qh9e none ks = true → 1 ≤ ks.length → ks.length ≤ 6 → p ≤ q → q ≤ p + 8 → 0 ≤ n ∧ n < 3 → SatE Qw6i Qwua (fun v h=>∃ x : BaseP,v = .agg [.sl .kind x.ks,.sl .point x.ps] ∧ h = [.box [.sl .u8 bs,.int .i64 x.p]] ∧ Qn40 p x)
   (some (.go (Qu6t Qw6i.fn 7) [.ptr 0 0,.ptr 1 0,.ptr 2 0,.sl .str Qf10,.int .i64 ([(6 : Int),6,16].getD n.toNat 0),.int .i64 0] [.box [.sl .u8 bs,.int .i64 q],.box [.nils,.nils],.box [.own 3 [] 0,.nils],.row .kind ks 0 0 0 .no])):=fun ks q n hk hk1 hk2 hq1 hq2 hn=>by
  refine SatE.mono (SatE.cut (Qo3a bs ks _ q hbs (Qf5l hn).2 (by omega) (by omega))) ?_
  rintro v h ⟨z,r,rfl,rfl,hz,hz1,hr1,hr2⟩
  refine ⟨⟨ks,z,r⟩,rfl,rfl, ?_,hk1,hz1, ?_, ?_⟩
  ·simp only [Qib4,hk,hz.1,Bool.and_true,qaT,qdT]
   exact ⟨hk2,by have:=hz.2.1; omega⟩
  ·show p ≤ r; omega
  ·show r ≤ p + 20; omega
 have hE : CallE Qw6i.P Qw6i.C Qwua [.ptr 0 0] [.box [.sl .u8 bs,.int .i64 p]] (fun v h=>∃ x : BaseP,v = .agg [.sl .kind x.ks,.sl .point x.ps] ∧ h = [.box [.sl .u8 bs,.int .i64 x.p]] ∧ Qn40 p x):=by
  refine CallE.of Qo8w (by kernel_rfl) (Qaoa bs p) ?_
  refine SatE.need (Q8s4 (by omega) (by omega)) (SatE.need (Q8s4 (by omega) (by omega)) (SatE.need (Q8s4 (by omega) (by omega)) (SatE.ifb (fun _=>?_) (fun _=>?_))))
  ·have hn:=pk (p + 1 + 1 + 1 + 1) 3 (by omega) (by omega) (by omega)
   refine SatE.need (Q8s4 (by omega) (by omega)) (SatE.need (Q8s4 (by omega) (by omega)) (SatE.need (Qf5l hn).1 ?_))
   exact fin _ _ _ (Qodo (pk p 3 (by omega) (by omega) (by omega)) (pk (p + 1) 2 (by omega) (by omega) (by omega)) (pk (p + 1 + 1 + 1) 50 (by omega) (by omega) (by omega))) (by simp) (by simp) (by omega) (by omega) hn
  ·have hn:=pk (p + 1 + 1 + 1) 3 (by omega) (by omega) (by omega)
   refine SatE.need (Q8s4 (by omega) (by omega)) (SatE.need (Qf5l hn).1 ?_)
   exact fin _ _ _ (Qis8 (pk p 3 (by omega) (by omega) (by omega)) (pk (p + 1) 2 (by omega) (by omega) (by omega))) (by simp) (by simp) (by omega) (by omega) hn
 obtain ⟨v,H',h,x,rfl,rfl,hx⟩:=hE
 exact Qk78 (p:=fun x : BaseP=>Qewq Tryz.prog CP Qwua [.ptr 0 0] [.box [.sl .u8 bs,.int .i64 p]] (.agg [.sl .kind x.ks,.sl .point x.ps]) [.box [.sl .u8 bs,.int .i64 x.p]] ∧ Qn40 p x) ⟨x,h,hx⟩
theorem Qupo (bs : List Int) (p : Int) (hg : rdK bs p = true) : Qewq Tryz.prog CP Qwua [.ptr 0 0] [.box [.sl .u8 bs,.int .i64 p]] (.agg [.sl .kind (dBase bs p).ks,.sl .point (dBase bs p).ps]) [.box [.sl .u8 bs,.int .i64 (dBase bs p).p]]:=by
 exact (Q46n bs p hg).1
theorem Ql5k : EntOK Tryz.prog CP Qwua Qu46:=by
 refine ⟨eob (by kernel_rfl),fun _ _ _ _ h=>?_⟩
 simp only [Qu46] at h
 split at h
 ·obtain ⟨hg,rfl,rfl⟩:=eoh h
  exact Qupo _ _ hg
 ·cases h
end Lx
namespace Lx
open Go Go.Proofs
theorem Q315 : ∀ {ks : List Kind} {prev : Option Str},Qh9e prev ks = true → ∀ k ∈ ks,k.ok = true
 | [],_,_,k,hk=>by simp at hk
 | a :: ks,prev,h,k,hk=>by
  rw [Qh9e] at h
  simp only [qaT] at h
  simp only [List.mem_cons] at hk
  rcases hk with rfl | hk
  ·exact h.1
  ·exact Q315 h.2.2 k hk
end Lx
namespace Lx
open Go Go.Proofs
end Lx
namespace Lx
open Go Go.Proofs
end Lx
namespace Lx
open Go Go.Proofs
end Lx
namespace Lx
open Go Go.Proofs
end Lx
namespace Lx
open Go Go.Proofs
end Lx
namespace Lx
open Go Go.Proofs
end Lx
namespace Lx
open Go Go.Proofs
theorem Q1nj : ∀ {ps seen : List Point} {prev : Option Str},Qaym seen prev ps = true → ∀ p ∈ ps,p.ok = true
 | [],_,_,_,p,hp=>by simp at hp
 | a :: ps,seen,prev,h,p,hp=>by
  rw [Qaym] at h
  simp only [qaT] at h
  simp only [List.mem_cons] at hp
  rcases hp with rfl | hp
  ·exact h.1
  ·exact Q1nj h.2.2.2 p hp
end Lx
namespace Lx
open Go Go.Proofs
structure TxP where
 s : Str
 p : Int
 deriving Inhabited
def Qr3b (p : Int) (x : TxP) : Prop:=x.s.length ≤ 200 ∧ p ≤ x.p ∧ x.p ≤ p + 20
noncomputable def dVal (bs : List Int) (p : Int) (ks : List Kind) (ps : List Point) (w : Int) : TxP:=drawn (fun x=>Qewq Tryz.prog CP Qwqy [.ptr 0 0,.agg [.sl .kind ks,.sl .point ps],.int .i64 w] [.box [.sl .u8 bs,.int .i64 p]] (.str x.s) [.box [.sl .u8 bs,.int .i64 x.p]] ∧ Qr3b p x)
def Qeqt (ps : List Point) : Bool:=ps.all fun z=>decide (z.name.length ≤ 8)
def valK (bs : List Int) (p : Int) (ks : List Kind) (ps : List Point) : Bool:=rdK bs p && (decide (ps.length ≤ 100) && (Qeqt ps && decide (1 ≤ ps.length)))
noncomputable def Q0t5 : Ent Ty El:=⟨[.io,.ro,.ro],0,fun a h=>match a,h with
 | [.ptr 0 0,.agg [.sl .kind ks,.sl .point ps],.int .i64 w],[.box [.sl .u8 bs,.int .i64 p]]=>some (valK bs p ks ps,.str (dVal bs p ks ps w).s,[.box [.sl .u8 bs,.int .i64 (dVal bs p ks ps w).p]])
 | _,_=>none⟩
theorem Qgo3 {bs : List Int} {p : Int} {l : List Str} {M : Nat} (h : l.all (fun s=>decide (s.length ≤ M)) = true) : (ofV bs p l).length ≤ M:=by
 unfold ofV
 rw [qgD]
 cases hi : l[(pickV bs p (l.length : Int)).toNat]? with
 | none=>simp
 | some s=>simpa using qlA.1 h s (qmG hi)
theorem decs {n : Int} (h : 0 ≤ n) (h1 : n ≤ 99999) : (decide (0 ≤ n) && decide (n < 10 ^ (4 + 1))) = true ∧ (dDec 4 n).length ≤ 5:=by
 have hg : (decide (0 ≤ n) && decide (n < 10 ^ (4 + 1))) = true:=by simp only [qaT,qdT]; omega
 exact ⟨hg,(Qbt7 n hg).2⟩
theorem Q5k5 {ks : List Kind} {ps : List Point} (h : Qib4 ks ps = true) : ps.length ≤ 16 ∧ ∀ z ∈ ps,z.name.length ≤ 8:=by
 simp only [Qib4,qaT,qdT] at h
 refine ⟨h.2.1,fun z hz=>?_⟩
 have:=Q1nj h.2.2.2 z hz
 simp only [Point.ok,Q2rq,qaT,qdT] at this
 exact this.1.2.1
theorem Qd1y {ks : List Kind} {ps : List Point} (h : Qib4 ks ps = true) : ps.length ≤ 100 ∧ Qeqt ps = true:=by
 obtain ⟨h1,h2⟩:=Q5k5 h
 exact ⟨by omega,qlA.2 fun z hz=>decide_eq_true (h2 z hz)⟩
theorem named {ps : List Point} (h : Qeqt ps = true) : ∀ z ∈ ps,z.name.length ≤ 8:=fun z hz=>of_decide_eq_true (qlA.1 h z hz)
end Lx
namespace Lx
open Go Go.Proofs
noncomputable def Qttc : RE Ty El:=⟨Tryz.prog,CP,[(Qpxs,Q7v2),(Qchm,Q2vb),(Qstj,Qmce)],Tryz.f118,1,[],[(20,[(0,.any),(4,.any),(9,.any),(10,.any),(11,.any)])]⟩
theorem Qyl0 : REOK Qttc Qwqy:=⟨CP_ok,(TabOK.cons Q0e7 (TabOK.cons Qyvd (TabOK.cons Qqii Qye1))),by kernel_rfl,by kernel_rfl⟩
theorem Q12p (bs : List Int) (p : Int) (ks : List Kind) (ps : List Point) (w : Int) : aRun Qttc 600 false (body0 Qttc.fn) (Q4gm Qttc.fn [.ptr 0 0,.agg [.sl .kind ks,.sl .point ps],.int .i64 w] [.box [.sl .u8 bs,.int .i64 p]]) =
 ifb (w == 1) (ifb (rdOk bs p && decide ((0 : Nat) < [#[(97 : UInt8),(49 : UInt8)].toList, #[(104 : UInt8),(101 : UInt8),(97 : UInt8),(118 : UInt8),(121 : UInt8)].toList, #[(97 : UInt8),(49 : UInt8)].toList, #[(104 : UInt8),(101 : UInt8),(97 : UInt8),(118 : UInt8),(121 : UInt8)].toList, #[(115 : UInt8),(108 : UInt8),(111 : UInt8),(119 : UInt8)].toList].length)) (some (.ret (.str (ofV bs p [#[(97 : UInt8),(49 : UInt8)].toList, #[(104 : UInt8),(101 : UInt8),(97 : UInt8),(118 : UInt8),(121 : UInt8)].toList, #[(97 : UInt8),(49 : UInt8)].toList, #[(104 : UInt8),(101 : UInt8),(97 : UInt8),(118 : UInt8),(121 : UInt8)].toList, #[(115 : UInt8),(108 : UInt8),(111 : UInt8),(119 : UInt8)].toList])) [.box [.sl .u8 bs,.int .i64 (p + 1)]])) (none)) (ifb (w == 2) (ifb (posOk p) (ifb (posOk (p + 1)) (ifb (pickV bs (p + 1) (16 : Int) == (0 : Int)) (ifb (posOk (p + 1 + 1)) (ifb (posOk (p + 1 + 1 + 1)) (ifb (decide (IntKind.i64.wrap (IntKind.i64.wrap ((10000 : Int) - pickV bs (p + 1 + 1) (80 : Int)) + pickV bs (p + 1 + 1 + 1) (20 : Int)) > (10000 : Int))) (ifb (decide (0 ≤ IntKind.i64.wrap ((10000 : Int) - pickV bs (p + 1 + 1) (80 : Int))) && decide (IntKind.i64.wrap ((10000 : Int) - pickV bs (p + 1 + 1) (80 : Int)) < (10 : Int) ^ ((4 : Nat) + (1 : Nat)))) (ifb (decide (List.length (dDec (4 : Nat) (IntKind.i64.wrap ((10000 : Int) - pickV bs (p + 1 + 1) (80 : Int)))) + #[(32 : UInt8)].toList.length ≤ (9223372036854775807 : Nat))) (ifb (decide ((dDec (4 : Nat) (IntKind.i64.wrap ((10000 : Int) - pickV bs (p + 1 + 1) (80 : Int))) ++ #[(32 : UInt8)].toList).length + List.length (dDec (4 : Nat) (10000 : Int)) ≤ (9223372036854775807 : Nat))) (some (.ret (.str (dDec (4 : Nat) (IntKind.i64.wrap ((10000 : Int) - pickV bs (p + 1 + 1) (80 : Int))) ++ #[(32 : UInt8)].toList ++ dDec (4 : Nat) (10000 : Int))) [.box [.sl .u8 bs,.int .i64 (p + 1 + 1 + 1 + 1)]])) (none)) (none)) (none)) (ifb (decide (0 ≤ IntKind.i64.wrap ((10000 : Int) - pickV bs (p + 1 + 1) (80 : Int))) && decide (IntKind.i64.wrap ((10000 : Int) - pickV bs (p + 1 + 1) (80 : Int)) < (10 : Int) ^ ((4 : Nat) + (1 : Nat)))) (ifb (decide (List.length (dDec (4 : Nat) (IntKind.i64.wrap ((10000 : Int) - pickV bs (p + 1 + 1) (80 : Int)))) + #[(32 : UInt8)].toList.length ≤ (9223372036854775807 : Nat))) (ifb (decide (0 ≤ IntKind.i64.wrap (IntKind.i64.wrap ((10000 : Int) - pickV bs (p + 1 + 1) (80 : Int)) + pickV bs (p + 1 + 1 + 1) (20 : Int))) && decide (IntKind.i64.wrap (IntKind.i64.wrap ((10000 : Int) - pickV bs (p + 1 + 1) (80 : Int)) + pickV bs (p + 1 + 1 + 1) (20 : Int)) < (10 : Int) ^ ((4 : Nat) + (1 : Nat)))) (ifb (decide ((dDec (4 : Nat) (IntKind.i64.wrap ((10000 : Int) - pickV bs (p + 1 + 1) (80 : Int))) ++ #[(32 : UInt8)].toList).length + List.length (dDec (4 : Nat) (IntKind.i64.wrap (IntKind.i64.wrap ((10000 : Int) - pickV bs (p + 1 + 1) (80 : Int)) + pickV bs (p + 1 + 1 + 1) (20 : Int)))) ≤ (9223372036854775807 : Nat))) (some (.ret (.str (dDec (4 : Nat) (IntKind.i64.wrap ((10000 : Int) - pickV bs (p + 1 + 1) (80 : Int))) ++ #[(32 : UInt8)].toList ++ dDec (4 : Nat) (IntKind.i64.wrap (IntKind.i64.wrap ((10000 : Int) - pickV bs (p + 1 + 1) (80 : Int)) + pickV bs (p + 1 + 1 + 1) (20 : Int))))) [.box [.sl .u8 bs,.int .i64 (p + 1 + 1 + 1 + 1)]])) (none)) (none)) (none)) (none))) (none)) (none)) (ifb (posOk (p + 1 + 1)) (ifb (decide (IntKind.i64.wrap (pickV bs p (200 : Int) + pickV bs (p + 1 + 1) (20 : Int)) > (10000 : Int))) (ifb (decide (0 ≤ pickV bs p (200 : Int)) && decide (pickV bs p (200 : Int) < (10 : Int) ^ ((4 : Nat) + (1 : Nat)))) (ifb (decide (List.length (dDec (4 : Nat) (pickV bs p (200 : Int))) + #[(32 : UInt8)].toList.length ≤ (9223372036854775807 : Nat))) (ifb (decide ((dDec (4 : Nat) (pickV bs p (200 : Int)) ++ #[(32 : UInt8)].toList).length + List.length (dDec (4 : Nat) (10000 : Int)) ≤ (9223372036854775807 : Nat))) (some (.ret (.str (dDec (4 : Nat) (pickV bs p (200 : Int)) ++ #[(32 : UInt8)].toList ++ dDec (4 : Nat) (10000 : Int))) [.box [.sl .u8 bs,.int .i64 (p + 1 + 1 + 1)]])) (none)) (none)) (none)) (ifb (decide (0 ≤ pickV bs p (200 : Int)) && decide (pickV bs p (200 : Int) < (10 : Int) ^ ((4 : Nat) + (1 : Nat)))) (ifb (decide (List.length (dDec (4 : Nat) (pickV bs p (200 : Int))) + #[(32 : UInt8)].toList.length ≤ (9223372036854775807 : Nat))) (ifb (decide (0 ≤ IntKind.i64.wrap (pickV bs p (200 : Int) + pickV bs (p + 1 + 1) (20 : Int))) && decide (IntKind.i64.wrap (pickV bs p (200 : Int) + pickV bs (p + 1 + 1) (20 : Int)) < (10 : Int) ^ ((4 : Nat) + (1 : Nat)))) (ifb (decide ((dDec (4 : Nat) (pickV bs p (200 : Int)) ++ #[(32 : UInt8)].toList).length + List.length (dDec (4 : Nat) (IntKind.i64.wrap (pickV bs p (200 : Int) + pickV bs (p + 1 + 1) (20 : Int)))) ≤ (9223372036854775807 : Nat))) (some (.ret (.str (dDec (4 : Nat) (pickV bs p (200 : Int)) ++ #[(32 : UInt8)].toList ++ dDec (4 : Nat) (IntKind.i64.wrap (pickV bs p (200 : Int) + pickV bs (p + 1 + 1) (20 : Int))))) [.box [.sl .u8 bs,.int .i64 (p + 1 + 1 + 1)]])) (none)) (none)) (none)) (none))) (none))) (none)) (none)) (ifb (w == 3) (ifb (posOk p) (ifb (decide (0 ≤ IntKind.i64.wrap ((1 : Int) + pickV bs p (6 : Int))) && decide (IntKind.i64.wrap ((1 : Int) + pickV bs p (6 : Int)) < (10 : Int) ^ ((4 : Nat) + (1 : Nat)))) (some (.ret (.str (dDec (4 : Nat) (IntKind.i64.wrap ((1 : Int) + pickV bs p (6 : Int))))) [.box [.sl .u8 bs,.int .i64 (p + 1)]])) (none)) (none)) (ifb (w == 4) (ifb (posOk p) (ifb (inb (pickV bs p (↑ps.length : Int)) ps.length) (ifb (posOk (p + 1)) (ifb (posOk (p + 1 + 1)) (ifb (pickV bs (p + 1 + 1) (8 : Int) == (0 : Int)) (some (.go (Qu6t Qttc.fn 20) [.ptr 0 0,.ptr 1 0,.str ((ps.getD (pickV bs p (↑ps.length : Int)).toNat (Qttc.C.dflt Ty.point)).name),.str ((ps.getD (pickV bs p (↑ps.length : Int)).toNat (Qttc.C.dflt Ty.point)).name),.int .i64 7] [.box [.sl .u8 bs,.int .i64 (p + 1 + 1 + 1)],.box [.sl .kind ks,.sl .point ps]])) (some (.go (Qu6t Qttc.fn 20) [.ptr 0 0,.ptr 1 0,.str ((ps.getD (pickV bs p (↑ps.length : Int)).toNat (Qttc.C.dflt Ty.point)).name),.str ((ps.getD (pickV bs p (↑ps.length : Int)).toNat (Qttc.C.dflt Ty.point)).name),.int .i64 (IntKind.i64.wrap ((1 : Int) + pickV bs (p + 1) (4 : Int)))] [.box [.sl .u8 bs,.int .i64 (p + 1 + 1 + 1)],.box [.sl .kind ks,.sl .point ps]]))) (none)) (none)) (none)) (none)) (ifb (rdOk bs p && decide ((0 : Nat) < [#[(111 : UInt8),(112 : UInt8),(101 : UInt8),(110 : UInt8)].toList, #[(99 : UInt8),(108 : UInt8),(111 : UInt8),(115 : UInt8),(101 : UInt8),(100 : UInt8)].toList].length)) (some (.ret (.str (ofV bs p [#[(111 : UInt8),(112 : UInt8),(101 : UInt8),(110 : UInt8)].toList, #[(99 : UInt8),(108 : UInt8),(111 : UInt8),(115 : UInt8),(101 : UInt8),(100 : UInt8)].toList])) [.box [.sl .u8 bs,.int .i64 (p + 1)]])) (none))))):=by kernel_rfl
theorem Q0ny (x0 : Str) (x1 : Str) (x2 : Int) (x3 : List (El .u8)) (x4 : Int) (x5 : List (El .kind)) (x6 : List (El .point)) : aRun Qttc 600 true (Qu6t Qttc.fn 20) (cutSt Qttc.fn (Q1m4 Qttc (Qu6t Qttc.fn 20)) [.ptr 0 0,.ptr 1 0,.str x0,.str x1,.int .i64 x2] [.box [.sl .u8 x3,.int .i64 x4],.box [.sl .kind x5,.sl .point x6]]) =
 ifb (decide (x2 > 0)) (ifb (posOk x4) (ifb (inb (pickV x3 x4 (↑x6.length : Int)) x6.length) (ifb (!(x6.getD (pickV x3 x4 (↑x6.length : Int)).toNat (Qttc.C.dflt Ty.point)).name == x1) (ifb (decide (List.length x0 + #[(32 : UInt8)].toList.length ≤ (9223372036854775807 : Nat))) (ifb (decide ((x0 ++ #[(32 : UInt8)].toList).length + List.length (x6.getD (pickV x3 x4 (↑x6.length : Int)).toNat (Qttc.C.dflt Ty.point)).name ≤ (9223372036854775807 : Nat))) (some (.go (Qu6t Qttc.fn 20) [.ptr 0 0,.ptr 1 0,.str (x0 ++ #[(32 : UInt8)].toList ++ (x6.getD (pickV x3 x4 (↑x6.length : Int)).toNat (Qttc.C.dflt Ty.point)).name),.str ((x6.getD (pickV x3 x4 (↑x6.length : Int)).toNat (Qttc.C.dflt Ty.point)).name),.int .i64 (IntKind.i64.wrap (x2 - 1))] [.box [.sl .u8 x3,.int .i64 (x4 + 1)],.box [.sl .kind x5,.sl .point x6]])) (none)) (none)) (some (.go (Qu6t Qttc.fn 20) [.ptr 0 0,.ptr 1 0,.str x0,.str x1,.int .i64 (IntKind.i64.wrap (x2 - 1))] [.box [.sl .u8 x3,.int .i64 (x4 + 1)],.box [.sl .kind x5,.sl .point x6]]))) (none)) (none)) (some (.ret (.str x0) [.box [.sl .u8 x3,.int .i64 x4]])):=by kernel_rfl
theorem Qb5x {bs : List Int} {p q : Int} {s : Str} (h1 : s.length ≤ 200) (h2 : p ≤ q) (h3 : q ≤ p + 20) : ∃ x : TxP,(AV.str s : AV Ty El) = .str x.s ∧ ([.box [.sl .u8 bs,.int .i64 q]] : List (AObj Ty El)) = [.box [.sl .u8 bs,.int .i64 x.p]] ∧ Qr3b p x:=⟨⟨s,q⟩,rfl,rfl,h1,h2,h3⟩
theorem Q3yw (bs : List Int) (ks : List Kind) (ps : List Point) (hbs : Qf9o bs = true) (hps : ∀ z ∈ ps,z.name.length ≤ 8) (h1 : 1 ≤ ps.length) (h16 : ps.length ≤ 100) : ∀ (d : Nat) (x0 x1 : Str) (q : Int),0 ≤ q → q + d ≤ 950000 → d ≤ 10 → x0.length + 9 * d ≤ 1000 →
  CutE Qttc Qwqy 20 [.ptr 0 0,.ptr 1 0,.str x0,.str x1,.int .i64 (d : Int)] [.box [.sl .u8 bs,.int .i64 q],.box [.sl .kind ks,.sl .point ps]] (fun v h=>∃ x : TxP,v = .str x.s ∧ h = [.box [.sl .u8 bs,.int .i64 x.p]] ∧ x.s.length ≤ x0.length + 9 * d ∧ q ≤ x.p ∧ x.p ≤ q + d):=by
 intro d
 induction d with
 | zero =>
  intro x0 x1 q h0 hq hd hx
  refine CutE.of Qyl0 rfl (Q0ny x0 x1 (0 : Nat) bs q ks ps) ?_
  exact SatE.ret ⟨⟨x0,q⟩,rfl,rfl,by simp,by simp,by simp⟩
 | succ d ih =>
  intro x0 x1 q h0 hq hd hx
  refine CutE.of Qyl0 rfl (Q0ny x0 x1 ((d + 1 : Nat) : Int) bs q ks ps) ?_
  obtain ⟨a1,a2⟩:=Q5va (p:=q) (n:=(ps.length : Int)) hbs (Q8s4 (by omega) (by omega)) (by omega)
  have hi : inb (pickV bs q (ps.length : Int)) ps.length = true:=by simp only [inb,qaT,qdT]; exact ⟨a1,a2⟩
  have hw : IntKind.i64.wrap (((d + 1 : Nat) : Int) - 1) = (d : Int):=by rw [Qbrg] <;> omega
  have hn : (ps.getD (pickV bs q (ps.length : Int)).toNat (Qttc.C.dflt Ty.point)).name.length ≤ 8:=by
   rw [qgD,qeG (by omega)]
   exact hps _ (List.getElem_mem _)
  rw [show decide (((d + 1 : Nat) : Int) > 0) = true from decide_eq_true (by omega),Q8s4 (q:=q) (by omega) (by omega),hi,hw]
  simp only [Qd8q]
  generalize (ps.getD (pickV bs q (ps.length : Int)).toNat (Qttc.C.dflt Ty.point)).name = nm at hn ⊢
  refine SatE.ifb (fun _=>?_) (fun _=>?_)
  ·refine SatE.need (decide_eq_true (by simp; omega)) (SatE.need (decide_eq_true (by simp; omega)) (SatE.mono (SatE.cut (ih _ _ (q + 1) (by omega) (by omega) (by omega) (by simp; omega))) ?_))
   rintro v h ⟨x,rfl,rfl,b1,b2,b3⟩
   exact ⟨x,rfl,rfl,by simp at b1; omega,by omega,by omega⟩
  ·refine SatE.mono (SatE.cut (ih _ _ (q + 1) (by omega) (by omega) (by omega) (by omega))) ?_
   rintro v h ⟨x,rfl,rfl,b1,b2,b3⟩
   exact ⟨x,rfl,rfl,by omega,by omega,by omega⟩
theorem Qpyo (bs : List Int) (p : Int) (ks : List Kind) (ps : List Point) (w : Int) (hg : valK bs p ks ps = true) : Qewq Tryz.prog CP Qwqy [.ptr 0 0,.agg [.sl .kind ks,.sl .point ps],.int .i64 w] [.box [.sl .u8 bs,.int .i64 p]] (.str (dVal bs p ks ps w).s) [.box [.sl .u8 bs,.int .i64 (dVal bs p ks ps w).p]] ∧ Qr3b p (dVal bs p ks ps w):=by
 simp only [valK,qaT,qdT] at hg
 obtain ⟨hr,h16,hn,h1⟩:=hg
 have hps:=named hn
 have hrd:=Qosd (q:=p) hr (by omega) (by omega)
 simp only [rdK,qaT,qdT] at hr
 obtain ⟨hbs,h0,h9⟩:=hr
 have ps0 : ∀ (q : Int),p ≤ q → q ≤ p + 10 → posOk q = true:=fun q h2 h3=>Q8s4 (by omega) (by omega)
 have pk : ∀ (q n : Int),p ≤ q → q ≤ p + 10 → 1 ≤ n → 0 ≤ pickV bs q n ∧ pickV bs q n < n:=fun q n h2 h3 h4=>Q5va hbs (ps0 q h2 h3) h4
 have rt : ∀ (q : Int) (x0 x1 : Str) (m : Int),p ≤ q → q ≤ p + 10 → 0 ≤ m → m ≤ 7 → x0.length ≤ 8 → SatE Qttc Qwqy (fun v h=>∃ x : TxP,v = .str x.s ∧ h = [.box [.sl .u8 bs,.int .i64 x.p]] ∧ Qr3b p x) (some (.go (Qu6t Qttc.fn 20) [.ptr 0 0,.ptr 1 0,.str x0,.str x1,.int .i64 m] [.box [.sl .u8 bs,.int .i64 q],.box [.sl .kind ks,.sl .point ps]])):=fun q x0 x1 m h2 h3 h4 h5 h6=>by
  obtain ⟨d,rfl⟩:=Int.eq_ofNat_of_zero_le h4
  refine SatE.mono (SatE.cut (Q3yw bs ks ps hbs hps h1 h16 d x0 x1 q (by omega) (by omega) (by omega) (by omega))) ?_
  rintro v h ⟨x,rfl,rfl,b1,b2,b3⟩
  exact ⟨x,rfl,rfl,by omega,by omega,by omega⟩
 have hE : CallE Qttc.P Qttc.C Qwqy [.ptr 0 0,.agg [.sl .kind ks,.sl .point ps],.int .i64 w] [.box [.sl .u8 bs,.int .i64 p]] (fun v h=>∃ x : TxP,v = .str x.s ∧ h = [.box [.sl .u8 bs,.int .i64 x.p]] ∧ Qr3b p x):=by
  refine CallE.of Qyl0 (by kernel_rfl) (Q12p bs p ks ps w) ?_
  refine SatE.ifb (fun _=>SatE.need (by rw [hrd]; rfl) (SatE.ret (Qb5x (Nat.le_trans (Qgo3 (M:=5) (by rfl)) (by omega)) (by omega) (by omega)))) (fun _=>SatE.ifb (fun _=>?_) (fun _=>SatE.ifb (fun _=>?_) (fun _=>SatE.ifb (fun _=>?_) (fun _=>SatE.need (by rw [hrd]; rfl) (SatE.ret (Qb5x (Nat.le_trans (Qgo3 (M:=6) (by rfl)) (by omega)) (by omega) (by omega)))))))
  ·obtain ⟨a1,a2⟩:=pk p 200 (by omega) (by omega) (by omega)
   obtain ⟨c1,c2⟩:=pk (p + 1 + 1) 80 (by omega) (by omega) (by omega)
   obtain ⟨e1,e2⟩:=pk (p + 1 + 1 + 1) 20 (by omega) (by omega) (by omega)
   obtain ⟨f1,f2⟩:=pk (p + 1 + 1) 20 (by omega) (by omega) (by omega)
   have w1 : IntKind.i64.wrap (10000 - pickV bs (p + 1 + 1) 80) = 10000 - pickV bs (p + 1 + 1) 80:=Qbrg (by omega) (by omega)
   have w2 : IntKind.i64.wrap (10000 - pickV bs (p + 1 + 1) 80 + pickV bs (p + 1 + 1 + 1) 20) = 10000 - pickV bs (p + 1 + 1) 80 + pickV bs (p + 1 + 1 + 1) 20:=Qbrg (by omega) (by omega)
   have w3 : IntKind.i64.wrap (pickV bs p 200 + pickV bs (p + 1 + 1) 20) = pickV bs p 200 + pickV bs (p + 1 + 1) 20:=Qbrg (by omega) (by omega)
   rw [w1,w2,w3]
   obtain ⟨g1,l1⟩:=decs (n:=10000) (by omega) (by omega)
   obtain ⟨g2,l2⟩:=decs (n:=10000 - pickV bs (p + 1 + 1) 80) (by omega) (by omega)
   obtain ⟨g3,l3⟩:=decs (n:=10000 - pickV bs (p + 1 + 1) 80 + pickV bs (p + 1 + 1 + 1) 20) (by omega) (by omega)
   obtain ⟨g4,l4⟩:=decs (n:=pickV bs p 200) (by omega) (by omega)
   obtain ⟨g5,l5⟩:=decs (n:=pickV bs p 200 + pickV bs (p + 1 + 1) 20) (by omega) (by omega)
   refine SatE.need (ps0 _ (by omega) (by omega)) (SatE.need (ps0 _ (by omega) (by omega)) (SatE.ifb (fun _=>?_) (fun _=>?_)))
   ·refine SatE.need (ps0 _ (by omega) (by omega)) (SatE.need (ps0 _ (by omega) (by omega)) (SatE.ifb (fun _=>?_) (fun _=>?_)))
    ·exact SatE.need g2 (SatE.need (decide_eq_true (by simp; omega)) (SatE.need (decide_eq_true (by simp; omega)) (SatE.ret (Qb5x (by simp; omega) (by omega) (by omega)))))
    ·exact SatE.need g2 (SatE.need (decide_eq_true (by simp; omega)) (SatE.need g3 (SatE.need (decide_eq_true (by simp; omega)) (SatE.ret (Qb5x (by simp; omega) (by omega) (by omega))))))
   ·refine SatE.need (ps0 _ (by omega) (by omega)) (SatE.ifb (fun _=>?_) (fun _=>?_))
    ·exact SatE.need g4 (SatE.need (decide_eq_true (by simp; omega)) (SatE.need (decide_eq_true (by simp; omega)) (SatE.ret (Qb5x (by simp; omega) (by omega) (by omega)))))
    ·exact SatE.need g4 (SatE.need (decide_eq_true (by simp; omega)) (SatE.need g5 (SatE.need (decide_eq_true (by simp; omega)) (SatE.ret (Qb5x (by simp; omega) (by omega) (by omega))))))
  ·obtain ⟨a1,a2⟩:=pk p 6 (by omega) (by omega) (by omega)
   have w1 : IntKind.i64.wrap (1 + pickV bs p 6) = 1 + pickV bs p 6:=Qbrg (by omega) (by omega)
   rw [w1]
   obtain ⟨g1,l1⟩:=decs (n:=1 + pickV bs p 6) (by omega) (by omega)
   exact SatE.need (ps0 _ (by omega) (by omega)) (SatE.need g1 (SatE.ret (Qb5x (by omega) (by omega) (by omega))))
  ·obtain ⟨a1,a2⟩:=pk p (ps.length : Int) (by omega) (by omega) (by omega)
   obtain ⟨b1,b2⟩:=pk (p + 1) 4 (by omega) (by omega) (by omega)
   have hi : inb (pickV bs p (ps.length : Int)) ps.length = true:=by simp only [inb,qaT,qdT]; exact ⟨a1,a2⟩
   have w1 : IntKind.i64.wrap (1 + pickV bs (p + 1) 4) = 1 + pickV bs (p + 1) 4:=Qbrg (by omega) (by omega)
   rw [w1]
   have hn : (ps.getD (pickV bs p (ps.length : Int)).toNat (Qttc.C.dflt Ty.point)).name.length ≤ 8:=by
    rw [qgD,qeG (by omega)]
    exact hps _ (List.getElem_mem _)
   refine SatE.need (ps0 _ (by omega) (by omega)) (SatE.need hi (SatE.need (ps0 _ (by omega) (by omega)) (SatE.need (ps0 _ (by omega) (by omega)) (SatE.ifb (fun _=>?_) (fun _=>?_)))))
   ·exact rt _ _ _ _ (by omega) (by omega) (by omega) (by omega) hn
   ·exact rt _ _ _ _ (by omega) (by omega) (by omega) (by omega) hn
 obtain ⟨v,H',h,x,rfl,rfl,hx⟩:=hE
 exact Qk78 (p:=fun x : TxP=>Qewq Tryz.prog CP Qwqy [.ptr 0 0,.agg [.sl .kind ks,.sl .point ps],.int .i64 w] [.box [.sl .u8 bs,.int .i64 p]] (.str x.s) [.box [.sl .u8 bs,.int .i64 x.p]] ∧ Qr3b p x) ⟨x,h,hx⟩
theorem Q95u (bs : List Int) (p : Int) (ks : List Kind) (ps : List Point) (w : Int) (hg : valK bs p ks ps = true) : Qewq Tryz.prog CP Qwqy [.ptr 0 0,.agg [.sl .kind ks,.sl .point ps],.int .i64 w] [.box [.sl .u8 bs,.int .i64 p]] (.str (dVal bs p ks ps w).s) [.box [.sl .u8 bs,.int .i64 (dVal bs p ks ps w).p]]:=by
 exact (Qpyo bs p ks ps w hg).1
theorem Qnck : EntOK Tryz.prog CP Qwqy Q0t5:=by
 refine ⟨eob (by kernel_rfl),fun _ _ _ _ h=>?_⟩
 simp only [Q0t5] at h
 split at h
 ·obtain ⟨hg,rfl,rfl⟩:=eoh h
  exact Q95u _ _ _ _ _ hg
 ·cases h
end Lx
namespace Lx
open Go Go.Proofs
structure ChgP where
 c : Chg
 p : Int
 deriving Inhabited
def chgK (bs : List Int) (p : Int) (ks : List Kind) (ps : List Point) : Bool:=Qf9o bs && (decide (0 ≤ p) && (decide (p ≤ 890000) && (decide (ps.length ≤ 100) && (Qeqt ps && decide (1 ≤ ps.length)))))
structure ChgsP where
 l : List Chg
 p : Int
 deriving Inhabited
end Lx
namespace Lx
open Go Go.Proofs
noncomputable def Qgih : RE Ty El:=⟨Tryz.prog,CP,[(Qpxs,Q7v2),(Qchm,Q2vb),(Qwqy,Q0t5)],Tryz.f90,1,[],[(4,[(0,.any),(3,.any),(4,.any),(5,.any)])]⟩
theorem Qe50 : REOK Qgih Qhy2:=⟨CP_ok,(TabOK.cons Q0e7 (TabOK.cons Qyvd (TabOK.cons Qnck Qye1))),by kernel_rfl,by kernel_rfl⟩
theorem Qhjm (bs : List Int) (p : Int) (ks : List Kind) (ps : List Point) : aRun Qgih 600 false (body0 Qgih.fn) (Q4gm Qgih.fn [.ptr 0 0,.agg [.sl .kind ks,.sl .point ps]] [.box [.sl .u8 bs,.int .i64 p]]) =
 ifb (posOk p) (ifb (IntKind.i64.wrap ((1 : Int) + pickV bs p (5 : Int)) == (5 : Int)) (ifb (posOk (p + 1)) (ifb (pickV bs (p + 1) (2 : Int) == (0 : Int)) (some (.go (Qu6t Qgih.fn 4) [.ptr 0 0,.ptr 1 0,.ptr 2 0,.int .i64 4] [.box [.sl .u8 bs,.int .i64 (p + 1 + 1)],.box [.sl .kind ks,.sl .point ps],.box [.str #[].toList,.int .i64 0,.int .i64 0,.str #[].toList]])) (some (.go (Qu6t Qgih.fn 4) [.ptr 0 0,.ptr 1 0,.ptr 2 0,.int .i64 (IntKind.i64.wrap ((1 : Int) + pickV bs p (5 : Int)))] [.box [.sl .u8 bs,.int .i64 (p + 1 + 1)],.box [.sl .kind ks,.sl .point ps],.box [.str #[].toList,.int .i64 0,.int .i64 0,.str #[].toList]]))) (none)) (some (.go (Qu6t Qgih.fn 4) [.ptr 0 0,.ptr 1 0,.ptr 2 0,.int .i64 (IntKind.i64.wrap ((1 : Int) + pickV bs p (5 : Int)))] [.box [.sl .u8 bs,.int .i64 (p + 1)],.box [.sl .kind ks,.sl .point ps],.box [.str #[].toList,.int .i64 0,.int .i64 0,.str #[].toList]]))) (none):=by kernel_rfl
theorem Qczd (x0 : Int) (x1 : List (El .u8)) (x2 : Int) (x3 : List (El .kind)) (x4 : List (El .point)) (x5 : Str) (x6 : Int) (x7 : Int) (x8 : Str) : aRun Qgih 600 true (Qu6t Qgih.fn 4) (cutSt Qgih.fn (Q1m4 Qgih (Qu6t Qgih.fn 4)) [.ptr 0 0,.ptr 1 0,.ptr 2 0,.int .i64 x0] [.box [.sl .u8 x1,.int .i64 x2],.box [.sl .kind x3,.sl .point x4],.box [.str x5,.int .i64 x6,.int .i64 x7,.str x8]]) =
 ifb (rdOk x1 x2 && decide ((0 : Nat) < [#[(107 : UInt8),(108 : UInt8),(49 : UInt8)].toList, #[(107 : UInt8),(108 : UInt8),(49 : UInt8)].toList, #[(107 : UInt8),(108 : UInt8),(49 : UInt8)].toList, #[(98 : UInt8),(97 : UInt8),(45 : UInt8),(50 : UInt8)].toList, #[(98 : UInt8),(97 : UInt8),(45 : UInt8),(50 : UInt8)].toList, #[(108 : UInt8),(104 : UInt8),(51 : UInt8)].toList, #[(120 : UInt8)].toList].length)) (ifb (posOk (x2 + 1)) (ifb (valK x1 (x2 + 1 + 1) x3 x4) (some (.ret (.agg [.str (ofV x1 x2 [#[(107 : UInt8),(108 : UInt8),(49 : UInt8)].toList, #[(107 : UInt8),(108 : UInt8),(49 : UInt8)].toList, #[(107 : UInt8),(108 : UInt8),(49 : UInt8)].toList, #[(98 : UInt8),(97 : UInt8),(45 : UInt8),(50 : UInt8)].toList, #[(98 : UInt8),(97 : UInt8),(45 : UInt8),(50 : UInt8)].toList, #[(108 : UInt8),(104 : UInt8),(51 : UInt8)].toList, #[(120 : UInt8)].toList]),.int .i64 x0,.int .i64 (IntKind.i64.wrap ((1 : Int) + pickV x1 (x2 + 1) (12 : Int))),.str ((dVal x1 (x2 + 1 + 1) x3 x4 x0).s)]) [.box [.sl .u8 x1,.int .i64 ((dVal x1 (x2 + 1 + 1) x3 x4 x0).p)]])) (none)) (none)) (none):=by kernel_rfl
end Lx
namespace Lx
open Go Go.Proofs
structure TkP where
 es : List Entry
 cs : List Int
 deriving Inhabited
end Lx
namespace Lx
open Go Go.Proofs
end Lx
namespace Lx
open Go Go.Proofs
structure BkP where
 es : List Entry
 p : Int
 deriving Inhabited
theorem Qkew {ks : List Kind} {ps : List Point} (h : Qib4 ks ps = true) : goodE ks ps [] = true:=by
 have h0:=h
 simp only [Qib4,qaT,qdT] at h
 have k1 : Q6lz ks = true:=by simp only [Q6lz,Bool.and_true,qdT]; omega
 have k2 : Qjyp ps = true:=by simp only [Qjyp,Bool.and_true,qdT]; omega
 have k3 : Qn0o ks ps [] = true:=by rw [Qn0o,h0]; rfl
 have k4 : Q8cx ks ps [] = true:=by rw [Q8cx,k1,k2]; rfl
 rw [goodE,goodB,k3,k4]; rfl
end Lx
namespace Lx
open Go Go.Proofs
end Lx
namespace Lx
open Go Go.Proofs
theorem inbL {α : Type} {n : Int} {l : List α} (h : 0 ≤ n ∧ n < (l.length : Int)) : inb n l.length = true:=by
 simp only [inb,qaT,qdT]; exact h
end Lx
namespace Lx
open Go Go.Proofs
end Lx
namespace Lx
open Go Go.Proofs
structure BookP where
 ks : List Kind
 ps : List Point
 es : List Entry
 p : Int
 deriving Inhabited
def small (x : Entry) : Prop:=x.fields.length ≤ 20 ∧ ∀ f ∈ x.fields,szV f.value = true
end Lx
namespace Lx
open Go Go.Proofs
end Lx
namespace Lx
open Go Go.Proofs
end Lx
namespace Lx
open Go Go.Proofs
end Lx
namespace Lx
open Go Go.Proofs
structure OvP where
 ks : List Kind
 ps : List Point
 es : List Entry
 n : Str
 q : Str
 deriving Inhabited
structure FlP where
 ks : List Kind
 ps : List Point
 es : List Entry
 n : Str
 l : List Int
 deriving Inhabited
structure CeP where
 ks : List Kind
 ps : List Point
 l : List Str
 deriving Inhabited
theorem Qz2g {c : List Int} (h : Qf9o c = true) (n : Nat) : Qf9o (c.take n) = true:=qlA.2 fun b hb=>qlA.1 h b (List.mem_of_mem_take hb)
end Lx
namespace Lx
open Go Go.Proofs
end Lx
namespace Lx
open Go Go.Proofs
end Lx
namespace Lx
open Go Go.Proofs
end Lx
namespace Lx
open Go Go.Proofs
noncomputable def Q6fp : RE Ty El:=⟨Tryz.prog,CP,[(Qpxs,Q7v2),(Qchm,Q2vb),(Q1eg,Qvc4),(Q0nv,Qwn9)],Tryz.f91,1,[],[]⟩
theorem Qi6u : REOK Q6fp Qpj2:=⟨CP_ok,(TabOK.cons Q0e7 (TabOK.cons Qyvd (TabOK.cons Q8hv (TabOK.cons Q83y Qye1)))),by kernel_rfl,by kernel_rfl⟩
theorem Q2cc (bs : List Int) (p : Int) (fl : Str) (w n : Int) (v : Str) : aRun Q6fp 600 false (body0 Q6fp.fn) (Q4gm Q6fp.fn [.ptr 0 0,.agg [.str fl,.int .i64 w,.int .i64 n,.str v]] [.box [.sl .u8 bs,.int .i64 p]]) =
 ifb (posOk p) (ifb (pickV bs p (5 : Int) == (0 : Int)) (ifb (posOk (p + 1)) (ifb (decide (#[(102 : UInt8)].toList.length ≤ (1 : Nat)) && decide (IntKind.i64.wrap ((8 : Int) + pickV bs (p + 1) (2 : Int)) < (64 : Int))) (ifb (rdOk bs (p + 1 + 1) && decide ((0 : Nat) < [#[].toList, #[(75 : UInt8)].toList,dMany #[(102 : UInt8)].toList (IntKind.i64.wrap ((8 : Int) + pickV bs (p + 1) (2 : Int)))].length)) (some (.ret (.agg [.str (ofV bs (p + 1 + 1) [#[].toList, #[(75 : UInt8)].toList,dMany #[(102 : UInt8)].toList (IntKind.i64.wrap ((8 : Int) + pickV bs (p + 1) (2 : Int)))]),.int .i64 w,.int .i64 n,.str v]) [.box [.sl .u8 bs,.int .i64 (p + 1 + 1 + 1)]])) (none)) (none)) (none)) (ifb (pickV bs p (5 : Int) == (1 : Int)) (ifb (posOk (p + 1)) (some (.ret (.agg [.str fl,.int .i64 (IntKind.i64.wrap (pickV bs (p + 1) (8 : Int) - 1)),.int .i64 n,.str v]) [.box [.sl .u8 bs,.int .i64 (p + 1 + 1)]])) (none)) (ifb (pickV bs p (5 : Int) == (2 : Int)) (ifb (posOk (p + 1)) (ifb (inb (pickV bs (p + 1) (4 : Int)) [(0 : Int),(-1 : Int),(1000000 : Int),(1000001 : Int)].length) (some (.ret (.agg [.str fl,.int .i64 w,.int .i64 ([(0 : Int),(-1 : Int),(1000000 : Int),(1000001 : Int)].getD (pickV bs (p + 1) (4 : Int)).toNat (Q6fp.C.dflt Ty.int)),.str v]) [.box [.sl .u8 bs,.int .i64 (p + 1 + 1)]])) (none)) (none)) (ifb (rdOk bs (p + 1)) (some (.ret (.agg [.str fl,.int .i64 w,.int .i64 n,.str (ofV bs (p + 1) bad12)]) [.box [.sl .u8 bs,.int .i64 (p + 1 + 1)]])) (none))))) (none):=by kernel_rfl
end Lx
namespace Lx
open Go Go.Proofs
end Lx
namespace Lx
open Go Go.Proofs
end Lx
namespace Lx
open Go Go.Proofs
end Lx
namespace Lx
open Go Go.Proofs
structure MgR where
 ks : List Kind
 ps : List Point
 es : List Entry
 code : Int
 deriving Inhabited
end Lx
namespace Lx
open Go Go.Proofs
def decS (n : Int) : Str:=Lib.decDigits n.toNat
theorem digB {n : Nat} (h : n < 10) : (UInt8.ofNat (48 + n)).toNat = 48 + n:=by simp [UInt8.toNat_ofNat]; omega
theorem Q7pa : ∀ (l m : Str) (acc : Nat),Lib.decFrom acc (l ++ m) = (Lib.decFrom acc l).bind fun a=>Lib.decFrom a m
 | [],m,acc=>rfl
 | b :: l,m,acc=>by
  rw [List.cons_append,Lib.decFrom,Lib.decFrom]
  cases Lib.digitVal b with
  | none=>rfl
  | some d=>exact Q7pa l m _
theorem Qg6g {n acc : Nat} (h : n < 10) : Lib.decFrom acc [UInt8.ofNat (48 + n)] = some (acc * 10 + n):=by
 simp only [Lib.decFrom,Lib.digitVal,digB h]
 rw [if_pos (by omega)]
 simp only [Lib.decFrom]
 congr 2; omega
theorem Qadg {n : Nat} (h : ¬ n < 10) : Lib.decDigits n = Lib.decDigits (n / 10) ++ [UInt8.ofNat (48 + n % 10)]:=by rw [Lib.decDigits,dif_neg h]
theorem Qo8t (n : Nat) : Lib.decFrom 0 (Lib.decDigits n) = some n:=by
 induction n using Nat.strongRecOn with
 | ind n ih =>
  by_cases h : n < 10
  ·rw [Lib.decDigits_one h,Qg6g h]; simp
  ·rw [Qadg h,Q7pa,ih (n / 10) (by omega),Option.bind_some,Qg6g (by omega)]
   congr 1; omega
theorem Qsbn (n : Nat) : 1 ≤ (Lib.decDigits n).length:=by
 by_cases h : n < 10
 ·rw [Lib.decDigits_one h]; simp
 ·rw [Qadg h]; simp
theorem Qqxq : ∀ (k : Nat) {n : Nat},n < 10 ^ (k + 1) → (Lib.decDigits n).length ≤ k + 1
 | 0,n,h=>by rw [Lib.decDigits_one (by simpa using h)]; simp
 | k + 1,n,h=>by
  by_cases h10 : n < 10
  ·rw [Lib.decDigits_one h10]; simp
  ·rw [Qadg h10,List.length_append]
   have:=Qqxq k (n:=n / 10) (by rw [Nat.pow_succ] at h; exact Nat.div_lt_of_lt_mul (by omega))
   simp only [List.length_singleton]; omega
theorem Qtlb (n : Nat) : (Lib.decDigits n).all isDig = true:=by rw [Q2qd _ 0,Qo8t]; rfl
theorem Qqed (n : Nat) (h1 : 1 ≤ n) : ((Lib.decDigits n).getD 0 0).toNat ≠ 48:=by
 induction n using Nat.strongRecOn with
 | ind n ih =>
  by_cases h : n < 10
  ·rw [Lib.decDigits_one h]
   show (UInt8.ofNat (48 + n)).toNat ≠ 48
   rw [digB h]; omega
  ·have:=ih (n / 10) (by omega) (by omega)
   rw [Qadg h]
   have hp:=Qsbn (n / 10)
   rw [qgD,List.getElem?_append_left (by omega),← qgD]
   exact this
theorem Q1t8 {n : Nat} (h : n < 10000000) : numF (Lib.decDigits n) = n:=by
 have hp:=Qsbn n
 have hl:=Qqxq 6 (n:=n) (by simpa using h)
 unfold numF
 rw [if_pos]
 ·have:=Qe53 (Lib.decDigits n) 0
  rw [Qo8t] at this
  exact this
 ·refine ⟨hp,hl,fun hh=>?_⟩
  by_cases h1 : 1 ≤ n
  ·exact Qqed n h1 (by have:=hh.2; omega)
  ·have : n = 0:=by omega
   subst this
   rw [Lib.decDigits_one (by omega)] at hh
   simp at hh
theorem Qvx3 {n : Int} (h0 : 0 ≤ n) (h : n < 10000000) : numF (decS n) = n:=by
 unfold decS
 rw [Q1t8 (by omega)]; omega
def wSet : Str:=[115,101,116]
def wKind : Str:=[107,105,110,100]
def wTime : Str:=[116,105,109,101]
def Qswv : Str:=[108,101,118,101,108]
def Qxlh : Str:=[114,111,117,116,101]
def Qbwf : Str:=[115,116,97,116,101]
def Qkm3 : List Str:=[[],wKind,wTime,Qswv,Qxlh,Qbwf]
def hasNL (v : Str) : Bool:=v.any fun b=>b.toNat == 10
def Qenx (c : Chg) : Bool:=Q2rq c.flight && (inR c.what 1 5 && (inR c.number 1 1000000 && (!(c.value == []) && !hasNL c.value)))
def formB (c : Chg) : Str:=wSet ++ 32 :: (c.flight ++ 32 :: (Qkm3.getD c.what.toNat [] ++ 32 :: (decS c.number ++ 32 :: c.value)))
def formF (c : Chg) : Str:=if Qenx c = true then formB c else []
def whatF (w : Str) : Int:=max (idxF (fun x=>x == w) Qkm3) 0
def readC (s : Str) (ws : List Str) : Chg:=⟨ws.getD 1 [],whatF (ws.getD 2 []),numF (ws.getD 3 []),s.drop ((ws.getD 0 []).length + (ws.getD 1 []).length + (ws.getD 2 []).length + (ws.getD 3 []).length + 4)⟩
def readF (s : Str) : Option Chg:=if 5 ≤ (cutS 32 s).length ∧ formF (readC s (cutS 32 s)) = s then some (readC s (cutS 32 s)) else none
def noSp (a : Str) : Bool:=a.all fun b=>!((b.toNat : Int) == 32)
theorem Qk8q : ∀ {a s : Str},noSp a = true → cutS 32 (a ++ 32 :: s) = a :: cutS 32 s
 | [],s,_=>by rw [List.nil_append,cutS,if_pos (by decide)]
 | b :: a,s,h=>by
  simp only [noSp,List.all_cons,qaT,Bool.not_eq_true'] at h
  have ih:=Qk8q (a:=a) (s:=s) (by simpa [noSp] using h.2)
  rw [List.cons_append,cutS,if_neg (by rw [h.1]; simp),ih]
theorem Qx0s {n : Str} (h : Q2rq n = true) : noSp n = true:=by
 simp only [Q2rq,qaT] at h
 refine qlA.2 fun b hb=>?_
 have:=qlA.1 h.2.2 b hb
 simp only [nameB,Bool.or_eq_true,qaT,qdT,beq_iff_eq] at this
 simp only [Bool.not_eq_true',beq_eq_false_iff_ne]
 omega
theorem Qy1c {n : Str} (h : n.all isDig = true) : noSp n = true:=by
 refine qlA.2 fun b hb=>?_
 have:=qlA.1 h b hb
 simp only [isDig,qaT,qdT] at this
 simp only [Bool.not_eq_true',beq_eq_false_iff_ne]
 omega
theorem Q1pf {k : Int} (h : inR k 1 5 = true) : noSp (Qkm3.getD k.toNat []) = true ∧ whatF (Qkm3.getD k.toNat []) = k:=by
 simp only [inR,qaT,qdT] at h
 have : k = 1 ∨ k = 2 ∨ k = 3 ∨ k = 4 ∨ k = 5:=by omega
 rcases this with rfl | rfl | rfl | rfl | rfl <;> exact ⟨by decide,by decide⟩
theorem Qxui {c : Chg} (h : Qenx c = true) : cutS 32 (formB c) = wSet :: c.flight :: Qkm3.getD c.what.toNat [] :: decS c.number :: cutS 32 c.value:=by
 simp only [Qenx,qaT] at h
 obtain ⟨h1,h2,h3,_⟩:=h
 unfold formB
 rw [Qk8q (by decide),Qk8q (Qx0s h1),Qk8q (Q1pf h2).1,Qk8q (a:=decS c.number) (Qy1c (Qtlb _))]
theorem Qkx5 {c : Chg} (h : Qenx c = true) : readF (formF c) = some c:=by
 have e : formF c = formB c:=if_pos h
 have hc:=Qxui h
 have h':=h
 simp only [Qenx,qaT] at h
 obtain ⟨h1,h2,h3,_⟩:=h
 have hn:=h3
 simp only [inR,qaT,qdT] at hn
 have hr : readC (formB c) (cutS 32 (formB c)) = c:=by
  rw [hc]
  unfold readC
  simp only [List.getD_cons_zero,List.getD_cons_succ]
  rw [(Q1pf h2).2,Qvx3 (by omega) (by omega)]
  have : (formB c).drop (wSet.length + c.flight.length + (Qkm3.getD c.what.toNat []).length + (decS c.number).length + 4) = c.value:=by
   have e2 : formB c = (wSet ++ 32 :: (c.flight ++ 32 :: (Qkm3.getD c.what.toNat [] ++ 32 :: (decS c.number ++ [32])))) ++ c.value:=by simp [formB]
   rw [e2,List.drop_append_of_le_length (by simp; omega),List.drop_of_length_le (by simp; omega)]; rfl
  rw [this]
 have hl : 5 ≤ (cutS 32 (formB c)).length:=by
  rw [hc]
  have:=List.length_pos_iff.2 (Qk4w 32 c.value)
  simp only [List.length_cons]; omega
 unfold readF
 rw [e,hr]
 rw [if_pos ⟨hl,e⟩]
theorem Qu52 {c : Chg} : formF c ≠ [] ↔ Qenx c = true:=by
 unfold formF
 by_cases h : Qenx c = true
 ·rw [if_pos h]; simp [formB,wSet,h]
 ·rw [if_neg h]; simp [h]
theorem Q184 {s : Str} {c : Chg} (h : readF s = some c) : formF c = s:=by
 unfold readF at h
 split at h
 ·rename_i hh
  rw [← Option.some.inj h]; exact hh.2
 ·cases h
theorem Qyn4 : readF [] = none:=by
 unfold readF
 rw [if_neg]
 intro h
 have:=h.1
 simp [cutS] at this
theorem Qkck {n : Str} (h : Q2rq n = true) : n ≠ [] ∧ hasNL n = false:=by
 simp only [Q2rq,qaT,qdT] at h
 refine ⟨fun e=>by rw [e] at h; simp at h, ?_⟩
 unfold hasNL
 rw [List.any_eq_false]
 intro b hb
 have:=qlA.1 h.2.2 b hb
 simp only [nameB,Bool.or_eq_true,qaT,qdT,beq_iff_eq] at this
 simp only [beq_iff_eq]; omega
theorem Qine {l : List Kind} {q : Option Str} (h : Qh9e q l = true) : ∀ k ∈ l,Q2rq k.name = true:=fun k hk=>by
 have:=Q315 h k hk; simp only [Kind.ok,qaT] at this; exact this.1
theorem Q21i {l seen : List Point} {q : Option Str} (h : Qaym seen q l = true) : ∀ k ∈ l,Q2rq k.name = true:=fun k hk=>by
 have:=Q1nj h k hk; simp only [Point.ok,qaT] at this; exact this.1
theorem Qpsb : ∀ {s : Str},(∀ w ∈ cutS 32 s,hasNL w = false) → hasNL s = false
 | [],_=>rfl
 | b :: s,h=>by
  have hc : hasNL (b :: s) = (b.toNat == 10 || hasNL s):=rfl
  rw [hc,Bool.or_eq_false_iff]
  rw [cutS] at h
  split at h
  ·rename_i hb
   have e : (b.toNat : Int) = 32:=eq_of_beq hb
   refine ⟨by simp only [beq_eq_false_iff_ne]; omega,Qpsb (fun w hw=>h w (List.mem_cons_of_mem _ hw))⟩
  ·split at h
   ·rename_i hn; exact absurd hn (Qk4w 32 s)
   ·rename_i w ws hw
    have h0:=h (b :: w) (List.mem_cons_self ..)
    have hc0 : hasNL (b :: w) = (b.toNat == 10 || hasNL w):=rfl
    rw [hc0,Bool.or_eq_false_iff] at h0
    refine ⟨h0.1,Qpsb (fun x hx=>?_)⟩
    rw [hw] at hx
    rcases List.mem_cons.1 hx with rfl | hx
    ·exact h0.2
    ·exact h x (List.mem_cons_of_mem _ hx)
theorem Qotl {s : Str} (h : 0 ≤ numF s) : s ≠ [] ∧ hasNL s = false:=by
 unfold numF at h
 split at h
 ·rename_i hh
  refine ⟨fun e=>by rw [e] at hh; simp at hh, ?_⟩
  cases hd : s.all isDig with
  | false=>rw [Qz12 hd] at h; omega
  | true =>
   unfold hasNL
   rw [List.any_eq_false]
   intro b hb
   have:=qlA.1 hd b hb
   simp only [isDig,qaT,qdT] at this
   simp only [beq_iff_eq]; omega
 ·omega
theorem Q7cm {ps : List Point} (hp : ∀ k ∈ ps,Q2rq k.name = true) : ∀ {w : List Str} {q : Option Str},Qyf3 ps q w = true → ∀ n ∈ w,Q2rq n = true
 | [],_,_,n,hn=>by simp at hn
 | a :: w,q,h,n,hn=>by
  simp only [Qyf3,qaT,Bool.not_eq_true',decide_eq_false_iff_not] at h
  rcases List.mem_cons.1 hn with rfl | hn
  ·rcases Qur7 (fun p : Point=>p.name == n) (dfltP .point) ps with ⟨h1,_⟩ | ⟨_,h2⟩
   ·exact absurd h1 h.1
   ·have hm:=hp _ (List.mem_of_find?_eq_some h2)
    have hnm:=List.find?_some h2
    rw [beq_iff_eq] at hnm
    rw [hnm] at hm; exact hm
  ·exact Q7cm hp h.2.2 n hn
theorem Qjih {ks : List Kind} {ps : List Point} {w : Int} {v : Str} (hb : Qib4 ks ps = true) (h : fitsV ks ps w v = true) : inR w 1 5 = true ∧ v ≠ [] ∧ hasNL v = false:=by
 simp only [Qib4,qaT] at hb
 obtain ⟨_,_,hk,hp⟩:=hb
 have cut1 : ∀ {s : Str},s = [] → cutS 32 s = [[]]:=fun e=>by subst e; rfl
 unfold fitsV at h
 split at h
 ·rename_i e; subst e
  refine ⟨by decide, ?_⟩
  have h:=of_decide_eq_true h
  rcases Qur7 (fun p : Kind=>p.name == v) (dfltP .kind) ks with ⟨h1,_⟩ | ⟨_,h2⟩
  ·exact absurd (show Qh2z ks v < 0 from h1) (by omega)
  ·have hm:=Qine hk _ (List.mem_of_find?_eq_some h2)
   have hnm:=List.find?_some h2
   rw [beq_iff_eq] at hnm
   rw [hnm] at hm
   exact Qkck hm
 split at h
 ·rename_i e; subst e
  refine ⟨by decide,fun e=>by rw [cut1 e] at h; simp [Q2es] at h,Qpsb fun w hw=>?_⟩
  cases hc : cutS 32 v with
  | nil=>rw [hc] at hw; simp at hw
  | cons a l =>
   rw [hc] at h hw
   match l with
   | []=>simp [Q2es] at h
   | [b] =>
    simp only [Q2es,inR,qaT,qdT] at h
    simp only [List.mem_cons,List.not_mem_nil,or_false] at hw
    rcases hw with rfl | rfl
    ·exact (Qotl h.1).2
    ·exact (Qotl (by omega)).2
   | b :: c :: l=>simp [Q2es] at h
 split at h
 ·rename_i e; subst e
  simp only [inR,qaT,qdT] at h
  exact ⟨by decide,Qotl (by omega)⟩
 split at h
 ·rename_i e; subst e
  simp only [Qyhl,qaT] at h
  refine ⟨by decide,fun e=>by rw [cut1 e] at h; simp [inR] at h,Qpsb fun n hn=>(Qkck (Q7cm (Q21i hp) h.2 n hn)).2⟩
 split at h
 ·rename_i e; subst e
  simp only [Bool.or_eq_true,beq_iff_eq] at h
  refine ⟨by decide, ?_⟩
  rcases h with rfl | rfl
  ·exact ⟨by decide,by decide⟩
  ·exact ⟨by decide,by decide⟩
 ·cases h
theorem Qfpc {ks : List Kind} {ps : List Point} {c : Chg} (h : Qs7k ks ps c = true) : Qenx c = true:=by
 simp only [Qs7k,qaT] at h
 obtain ⟨h1,h2,h3,h4⟩:=h
 obtain ⟨q1,q2,q3⟩:=Qjih h3 h4
 simp only [Qenx,h1,h2,q1,q3,Bool.true_and,Bool.not_false,Bool.and_true,Bool.not_eq_true',beq_eq_false_iff_ne]
 exact q2
end Lx
namespace Lx
open Go Go.Proofs
def Qf28 : Ent Ty El:=⟨[.ro,.ro],0,fun a h=>match a,h with
 | [.str s,.str [c]],[]=>some (szS s,.bool (s.any fun b=>b == c),[])
 | _,_=>none⟩
def Qsxi : Ent Ty El:=⟨[.ro],0,fun a h=>match a,h with
 | [.str s],[]=>some (szS s,.str s,[])
 | _,_=>none⟩
def Qo6n : Ent Ty El:=⟨[.ro],0,fun a h=>match a,h with
 | [.int .i64 n],[]=>some (inR n 0 1000000000,.str (decS n),[])
 | _,_=>none⟩
def Qqy9 : Ent Ty El:=⟨[.ro,.ro],0,fun a h=>match a,h with
 | [.sl .str l,.str x],[]=>some (decide (l.length ≤ 1000000000),.int .i64 (idxF (fun y=>y == x) l),[])
 | _,_=>none⟩
def chV (c : Chg) : V:=.agg [.str c.flight,.int .i64 c.what,.int .i64 c.number,.str c.value]
def Qvn1 : Ent Ty El:=⟨[.ro],0,fun a h=>match a,h with
 | [.agg [.str fl,.int .i64 w,.int .i64 m,.str v]],[]=>some (szV v,.str (formF ⟨fl,w,m,v⟩),[])
 | _,_=>none⟩
def Qzlv : Ent Ty El:=Qvn1
def readR (s : Str) : Chg:=(readF s).getD ⟨[],0,0,[]⟩
def Qdux : Ent Ty El:=⟨[.ro],0,fun a h=>match a,h with
 | [.str s],[]=>some (szS s,.tup [chV (readR s),.bool (readF s).isSome],[])
 | _,_=>none⟩
def Q01i : Ent Ty El:=Qdux
def Qz84 : Ent Ty El:=⟨[],0,fun a h=>match a,h with
 | [],[]=>some (true,.sl .str [wKind,wTime,Qswv,Qxlh,Qbwf],[])
 | _,_=>none⟩
def Qsiq : Ent Ty El:=⟨[.ro],0,fun a h=>match a,h with
 | [.str v],[]=>some (szV v,.bool (hasNL v),[])
 | _,_=>none⟩
def Q947 (k : Int) : Ent Ty El:=⟨[.ro],0,fun a h=>match a,h with
 | [.int .i64 n],[]=>some (inR n 0 k,.str (decS n),[])
 | _,_=>none⟩
def Q9bk : Ent Ty El:=Q947 9
def Qol5 : Ent Ty El:=Q947 99
def Q5dm : Ent Ty El:=Q947 999
def Qyz8 : Ent Ty El:=Q947 9999
def Q8wj : Ent Ty El:=Q947 99999
def Q7xl : Ent Ty El:=Q947 999999
def Qzn9 : Ent Ty El:=Q947 9999999
end Lx
namespace Go.Proofs
open Go.Shelf
def Tryz.laysM171_ren : Go.Shelf.Ren:=⟨fun | 171=>102 | 243=>183 | 246=>236 | 283=>283 | 284=>284 | 285=>285 | 286=>286 | 129=>269 | 317=>327 | 318=>328 | 319=>329 | 320=>330 | 337=>344 | 338=>345 | n=>n,fun | 3=>3 | 9=>9 | 2=>2 | 4=>4 | 171=>305 | 0=>0 | 53=>298 | 37=>22 | 5=>5 | 173=>307 | 212=>343 | 51=>296 | 20=>20 | 213=>344 | 46=>261 | 232=>371 | 233=>372 | n=>n,fun | 17=>2 | 18=>7 | 19=>8 | n=>n⟩
theorem Tryz.laysM171 : Go.Proofs.LaysM.n171 Tryz.prog Tryz.laysM171_ren:={
 mixed:=by kernel_rfl
 f129:=Tryz.func269.trans (congrArg some (by kernel_rfl))
 f171:=Tryz.func102.trans (congrArg some (by kernel_rfl))
 f243:=Tryz.func183.trans (congrArg some (by kernel_rfl))
 f246:=Tryz.func236.trans (congrArg some (by kernel_rfl))
 f283:=Tryz.func283.trans (congrArg some (by kernel_rfl))
 f284:=Tryz.func284.trans (congrArg some (by kernel_rfl))
 f285:=Tryz.func285.trans (congrArg some (by kernel_rfl))
 f286:=Tryz.func286.trans (congrArg some (by kernel_rfl))
 f317:=Tryz.func327.trans (congrArg some (by kernel_rfl))
 f318:=Tryz.func328.trans (congrArg some (by kernel_rfl))
 f319:=Tryz.func329.trans (congrArg some (by kernel_rfl))
 f320:=Tryz.func330.trans (congrArg some (by kernel_rfl))
 f337:=Tryz.func344.trans (congrArg some (by kernel_rfl))
 f338:=Tryz.func345.trans (congrArg some (by kernel_rfl))
 t0:=Tryz.underlying0
 a0:=Tryz.isAgg0
 z0:=Tryz.sizeOf0
 v0:=Tryz.zeroValue0
 t2:=Tryz.underlying2
 a2:=Tryz.isAgg2
 z2:=Tryz.sizeOf2
 v2:=Tryz.zeroValue2
 t3:=Tryz.underlying3
 a3:=Tryz.isAgg3
 z3:=Tryz.sizeOf3
 v3:=Tryz.zeroValue3
 t4:=Tryz.underlying4
 a4:=Tryz.isAgg4
 z4:=Tryz.sizeOf4
 v4:=Tryz.zeroValue4
 t5:=Tryz.underlying5
 a5:=Tryz.isAgg5
 z5:=Tryz.sizeOf5
 v5:=Tryz.zeroValue5
 t9:=Tryz.underlying9
 a9:=Tryz.isAgg9
 z9:=Tryz.sizeOf9
 v9:=Tryz.zeroValue9
 t20:=Tryz.underlying20
 a20:=Tryz.isAgg20
 z20:=Tryz.sizeOf20
 v20:=Tryz.zeroValue20
 t37:=Tryz.underlying22
 a37:=Tryz.isAgg22
 z37:=Tryz.sizeOf22
 v37:=Tryz.zeroValue22
 t46:=Tryz.underlying261
 a46:=Tryz.isAgg261
 z46:=Tryz.sizeOf261
 v46:=Tryz.zeroValue261
 t51:=Tryz.underlying296
 a51:=Tryz.isAgg296
 z51:=Tryz.sizeOf296
 v51:=Tryz.zeroValue296
 t53:=Tryz.underlying298
 a53:=Tryz.isAgg298
 z53:=Tryz.sizeOf298
 v53:=Tryz.zeroValue298
 t171:=Tryz.underlying305
 a171:=Tryz.isAgg305
 z171:=Tryz.sizeOf305
 v171:=Tryz.zeroValue305
 t173:=Tryz.underlying307
 a173:=Tryz.isAgg307
 z173:=Tryz.sizeOf307
 v173:=Tryz.zeroValue307
 t212:=Tryz.underlying343
 a212:=Tryz.isAgg343
 z212:=Tryz.sizeOf343
 v212:=Tryz.zeroValue343
 t213:=Tryz.underlying344
 a213:=Tryz.isAgg344
 z213:=Tryz.sizeOf344
 t232:=Tryz.underlying371
 a232:=Tryz.isAgg371
 z232:=Tryz.sizeOf371
 v232:=Tryz.zeroValue371
 t233:=Tryz.underlying372
 a233:=Tryz.isAgg372
 z233:=Tryz.sizeOf372
 v233:=Tryz.zeroValue372
 g17:=by kernel_rfl
 g18:=by kernel_rfl
 g19:=by kernel_rfl
 i0:=by kernel_rfl
 i2:=by kernel_rfl
 i3:=by kernel_rfl
 i4:=by kernel_rfl
 i5:=by kernel_rfl
 i9:=by kernel_rfl
 i20:=by kernel_rfl
 i37:=by kernel_rfl
 i46:=by kernel_rfl
 i51:=by kernel_rfl
 i53:=by kernel_rfl
 i171:=by kernel_rfl
 i173:=by kernel_rfl
 i212:=by kernel_rfl
 i232:=by kernel_rfl
 i233:=by kernel_rfl
 m17:=by kernel_rfl
 m18:=by kernel_rfl
 m19:=by kernel_rfl }
open Go.RowKit Go.Sort Go.Lib in
theorem Tryz.strconv_Itoa (n : Int) (h0 : -9223372036854775808 ≤ n) (h1 : n ≤ 9223372036854775807) (w : World) (htab : Lib.TabIs Tryz.prog w "internal/strconv.uint64pow10" .u64 Lib.pow10Tab) :
  Calls Tryz.prog 102 #[.int .i64 n] w fun e w'=>e = .returned (.string ⟨(Lib.itoa n).toArray⟩) ∧ ∃ k os,w' = grow (w.drewN k) os:=Any.strconv_Itoa Tryz.laysM171 n h0 h1 w htab
def Tryz.lays144_ren : Go.Shelf.Ren:=⟨fun | 144=>101 | 143=>182 | 219=>235 | 217=>279 | 225=>280 | 224=>281 | 267=>282 | 266=>325 | 314=>326 | n=>n,fun | 9=>9 | 4=>4 | 3=>3 | 5=>5 | 46=>261 | 146=>340 | 51=>296 | n=>n,fun | 1=>1 | n=>n⟩
theorem Tryz.lays144 : Go.Proofs.Lays.n144 Tryz.prog Tryz.lays144_ren:={
 mixed:=by kernel_rfl
 f143:=Tryz.func182.trans (congrArg some (by kernel_rfl))
 f144:=Tryz.func101.trans (congrArg some (by kernel_rfl))
 f217:=Tryz.func279.trans (congrArg some (by kernel_rfl))
 f219:=Tryz.func235.trans (congrArg some (by kernel_rfl))
 f224:=Tryz.func281.trans (congrArg some (by kernel_rfl))
 f225:=Tryz.func280.trans (congrArg some (by kernel_rfl))
 f266:=Tryz.func325.trans (congrArg some (by kernel_rfl))
 f267:=Tryz.func282.trans (congrArg some (by kernel_rfl))
 f314:=Tryz.func326.trans (congrArg some (by kernel_rfl))
 t3:=Tryz.underlying3
 a3:=Tryz.isAgg3
 z3:=Tryz.sizeOf3
 v3:=Tryz.zeroValue3
 t4:=Tryz.underlying4
 a4:=Tryz.isAgg4
 z4:=Tryz.sizeOf4
 v4:=Tryz.zeroValue4
 t5:=Tryz.underlying5
 a5:=Tryz.isAgg5
 z5:=Tryz.sizeOf5
 v5:=Tryz.zeroValue5
 t9:=Tryz.underlying9
 a9:=Tryz.isAgg9
 z9:=Tryz.sizeOf9
 v9:=Tryz.zeroValue9
 t46:=Tryz.underlying261
 a46:=Tryz.isAgg261
 z46:=Tryz.sizeOf261
 v46:=Tryz.zeroValue261
 t51:=Tryz.underlying296
 a51:=Tryz.isAgg296
 z51:=Tryz.sizeOf296
 v51:=Tryz.zeroValue296
 t146:=Tryz.underlying340
 a146:=Tryz.isAgg340
 z146:=Tryz.sizeOf340
 v146:=Tryz.zeroValue340
 g1:=by kernel_rfl }
open Go.RowKit Go.Lib in
theorem Tryz.strings_Contains_one (s : ByteArray) (c : UInt8) (w : World) :
  Calls Tryz.prog 101 #[.string s,.string ⟨#[c]⟩] w fun e w'=>e = .returned (.bool (decide (0 ≤ Lib.indexByte s.data.toList c))) ∧ w' = w:=Any.strings_Contains_one Tryz.lays144 s c w
def Tryz.laysM316_ren : Go.Shelf.Ren:=⟨fun | 316=>187 | n=>n,fun | 9=>9 | 3=>3 | 4=>4 | 37=>22 | 0=>0 | 127=>250 | 5=>5 | n=>n,fun | n=>n⟩
theorem Tryz.laysM316 : Go.Proofs.LaysM.n316 Tryz.prog Tryz.laysM316_ren:={
 mixed:=by kernel_rfl
 f316:=Tryz.func187.trans (congrArg some (by kernel_rfl))
 t0:=Tryz.underlying0
 a0:=Tryz.isAgg0
 z0:=Tryz.sizeOf0
 v0:=Tryz.zeroValue0
 t3:=Tryz.underlying3
 a3:=Tryz.isAgg3
 z3:=Tryz.sizeOf3
 v3:=Tryz.zeroValue3
 t4:=Tryz.underlying4
 a4:=Tryz.isAgg4
 z4:=Tryz.sizeOf4
 v4:=Tryz.zeroValue4
 t9:=Tryz.underlying9
 a9:=Tryz.isAgg9
 z9:=Tryz.sizeOf9
 v9:=Tryz.zeroValue9
 t37:=Tryz.underlying22
 a37:=Tryz.isAgg22
 z37:=Tryz.sizeOf22
 v37:=Tryz.zeroValue22
 t127:=Tryz.underlying250
 a127:=Tryz.isAgg250
 z127:=Tryz.sizeOf250
 v127:=Tryz.zeroValue250
 t5:=Tryz.underlying5
 a5:=Tryz.isAgg5
 z5:=Tryz.sizeOf5
 v5:=Tryz.zeroValue5
 i0:=by kernel_rfl
 i3:=by kernel_rfl
 i4:=by kernel_rfl
 i5:=by kernel_rfl
 i9:=by kernel_rfl
 i37:=by kernel_rfl
 i127:=by kernel_rfl }
open Go.RowKit Go.Lib in
theorem Tryz.stringslite_Clone (s : ByteArray) (w : World) (hlim : s.size ≤ 281474976710656) :
  Calls Tryz.prog 187 #[.string s] w fun e w'=>e = .returned (.string s) ∧ Below w.heap.size w w':=Any.stringslite_Clone Tryz.laysM316 s w hlim
end Go.Proofs
namespace Lx
open Go Go.Proofs
def Q1ft : Ent Ty El:=Qsxi
theorem ixB (c : UInt8) : ∀ l : List UInt8,decide (0 ≤ Lib.indexByte l c) = l.any fun b=>b == c
 | []=>rfl
 | b :: l=>by
  have ih:=ixB c l
  have hge:=Lib.indexByte_ge l c
  rw [List.any_cons,Lib.indexByte]
  by_cases h : (b == c) = true
  ·rw [if_pos h,h]; rfl
  ·rw [if_neg h,show (b == c) = false by simpa using h,Bool.false_or,← ih]
   by_cases h2 : (Lib.indexByte l c == -1) = true
   ·rw [if_pos h2,eq_of_beq h2]
   ·rw [if_neg h2]
    have h3 : ¬ Lib.indexByte l c = -1:=fun e=>h2 (by rw [e]; rfl)
    exact (decide_eq_true (show (0 : Int) ≤ Lib.indexByte l c + 1 by omega)).trans (decide_eq_true (show (0 : Int) ≤ Lib.indexByte l c by omega)).symm
theorem Qbr2 (s : Str) (c : UInt8) : Qewq Tryz.prog CP Q0am [.str s,.str [c]] [] (.bool (s.any fun b=>b == c)) []:=by
 refine Qewq.quiet CP_ok fun w N vs hsz hrep=>?_
 obtain ⟨sb,h0,hsb⟩:=Qfrf hrep hsz (j:=0) rfl
 obtain ⟨cb,h1,hcb⟩:=Qfrf hrep hsz (j:=1) rfl
 obtain rfl : cb = ⟨#[c]⟩:=Qa5q hcb
 rw [arr2 hsz h0 h1]
 refine (Tryz.strings_Contains_one sb c w).mono ?_
 rintro en w' ⟨rfl,rfl⟩
 refine ⟨_,rfl,Fr.refl' _ _,fun N' _ _=>?_⟩
 rw [ixB,hsb]
 exact .bool _
theorem Q8b1 : EntOK Tryz.prog CP Q0am Qf28:=by
 refine ⟨eob (by kernel_rfl),fun _ _ _ _ h=>?_⟩
 simp only [Qf28] at h
 split at h
 ·obtain ⟨hg,rfl,rfl⟩:=eoh h
  exact Qbr2 _ _
 ·cases h
theorem Qpph (s : Str) (hg : szS s = true) : Qewq Tryz.prog CP Qnsr [.str s] [] (.str s) []:=by
 refine Qewq.quiet CP_ok fun w N vs hsz hrep=>?_
 obtain ⟨sb,h0,hsb⟩:=Qfrf hrep hsz (j:=0) rfl
 rw [arr1 hsz h0]
 have hs:=of_decide_eq_true hg
 have hsize : sb.size = s.length:=by rw [Lib.size_eq,hsb]
 refine (Tryz.stringslite_Clone sb w (by omega)).mono ?_
 rintro en w' ⟨rfl,hb⟩
 exact ⟨_,rfl,Fr.below hb,fun N' _ _=>.str _ _ hsb⟩
theorem Q6zv : EntOK Tryz.prog CP Qnsr Q1ft:=by
 refine ⟨eob (by kernel_rfl),fun _ _ _ _ h=>?_⟩
 simp only [Q1ft,Qsxi] at h
 split at h
 ·obtain ⟨hg,rfl,rfl⟩:=eoh h
  exact Qpph _ hg
 ·cases h
theorem Qg3a {N : Nm} {H : List O} {w : World} (h : HR CP N (hpOf H) w) : Lib.TabIs Tryz.prog w "internal/strconv.uint64pow10" .u64 Lib.pow10Tab:=by
 obtain ⟨hq,_,arr,t,fr,h1,h2⟩:=h.gl 2 (globT.map fun n=>.int .u64 n) rfl
 have hn : Tryz.prog.globalNamed "internal/strconv.uint64pow10" = some 2:=by kernel_rfl
 have hcell : ∀ j,j < 20 → w.cell? ⟨2,j,none⟩ = some (.int .u64 (globT.getD j 0)):=fun j hj=>by
  generalize hp : (Value.pointer (some ⟨2,0,none⟩)) = q at hq
  cases hq with
  | rop cs b o off f hro hcell hrep =>
   simp only [Value.pointer.injEq,qsI,Addr.mk.injEq,and_true] at hp
   obtain ⟨rfl,ho⟩:=hp
   obtain rfl : o = 0:=by omega
   have h3:=hcell j (by rw [List.length_map]; exact hj)
   rw [Nat.zero_add] at h3
   have h4 : (globT.map fun n=>(.int .u64 n : V))[j]? = some (.int .u64 (globT.getD j 0)):=by
    rw [List.getElem?_map,qgD,qeG (show j < globT.length from hj)]; rfl
   rw [h3,(hrep j _ h4).inv_int]
 unfold Lib.TabIs
 have e : Lib.pow10Tab = globT:=by decide
 simp only [World.var?,hn,Option.bind_some,h1,e,qsI]
 apply Array.ext_getElem?
 intro j
 have hz : arr.size = 20:=by rw [h2,List.length_map]; rfl
 by_cases hj : j < 20
 ·have h3:=hcell j hj
  simp only [World.cell?,h1] at h3
  have h4 : arr[j]? = some (.int .u64 (globT.getD j 0)):=by simpa using h3
  rw [h4,List.getElem?_toArray,List.getElem?_map,qgD,qeG (show j < globT.length from hj)]; rfl
 ·rw [Array.getElem?_eq_none (by omega),Array.getElem?_eq_none (by simp [globT]; omega)]
theorem Qpzp (n : Int) (hg : inR n 0 1000000000 = true) : Qewq Tryz.prog CP Qvow [.int .i64 n] [] (.str (decS n)) []:=by
 refine Qewq.quietG CP_ok fun w N vs hN hsz hrep=>?_
 have h0:=Qf6o hrep hsz (j:=0) rfl
 rw [arr1 hsz h0]
 simp only [inR,qaT,qdT] at hg
 refine (Tryz.strconv_Itoa n (by omega) (by omega) w (Qg3a hN)).mono ?_
 rintro en w' ⟨rfl,k,os,rfl⟩
 refine ⟨_,rfl,⟨rfl,rfl,rfl,by simp [Sort.grow,World.drewN],fun b hb _=>?_⟩,fun N' _ _=>?_⟩
 ·simp only [Sort.grow,World.drewN]
  rw [Array.getElem?_append_left hb]
 ·have e : Lib.itoa n = decS n:=by
   unfold Lib.itoa decS
   rw [if_neg (by omega)]
  rw [e]
  exact .str _ _ rfl
theorem Quvh : EntOK Tryz.prog CP Qvow Qo6n:=by
 refine ⟨eob (by kernel_rfl),fun _ _ _ _ h=>?_⟩
 simp only [Qo6n] at h
 split at h
 ·obtain ⟨hg,rfl,rfl⟩:=eoh h
  exact Qpzp _ hg
 ·cases h
end Lx
namespace Lx
open Go Go.Proofs
section
variable {Ty : Type} {El : Ty → Type} {R : RE Ty El} {f : FuncId} {res : AV Ty El} {H' : List (AObj Ty El)}
theorem Sat.nd {c : Bool} {A : Option (Leaf Ty El)} (h : c = true) (hs : Sat R f res H' A) : Sat R f res H' (Lx.ifb c A none):=by
 subst h; exact hs
end
def lensL : List Str → Nat
 | []=>0
 | w :: l=>w.length + lensL l
theorem Qscd (c : UInt8) (k : Nat) : Lib.splitK [c] 0 k [] = [[]]:=by
 cases k with
 | zero=>rfl
 | succ k =>
  rw [Lib.splitK]
  rfl
theorem Qe7u (c : UInt8) : ∀ (s : Str) (k : Nat),Lib.splitK [c] 0 k s = if k < (cutS (c.toNat : Int) s).length then (cutS (c.toNat : Int) s).take k ++ [s.drop (lensL ((cutS (c.toNat : Int) s).take k) + k)] else cutS (c.toNat : Int) s
 | [],0=>rfl
 | [],k + 1=>by
  have e : cutS (c.toNat : Int) [] = [[]]:=rfl
  rw [Qscd,e,if_neg (by simp)]
 | b :: s,0=>by
  have : 0 < (cutS (c.toNat : Int) (b :: s)).length:=List.length_pos_iff.2 (Qk4w _ _)
  rw [if_pos this]; rfl
 | b :: s,k + 1=>by
  by_cases h : b = c
  ·subst h
   have e : cutS (b.toNat : Int) (b :: s) = [] :: cutS (b.toNat : Int) s:=by rw [cutS,if_pos (by simp)]
   rw [Qzmh,Qe7u b s k,e]
   by_cases hk : k < (cutS (b.toNat : Int) s).length
   ·rw [if_pos hk,if_pos (by simp only [List.length_cons]; omega)]
    simp only [List.take_succ_cons,List.cons_append,lensL,List.length_nil,Nat.zero_add]
    rw [show lensL ((cutS (b.toNat : Int) s).take k) + (k + 1) = (lensL ((cutS (b.toNat : Int) s).take k) + k) + 1 by omega,List.drop_succ_cons]
   ·rw [if_neg hk,if_neg (by simp only [List.length_cons]; omega)]
  ·obtain ⟨w,ws,h1,h2⟩:=Q7sv h (k + 1) s
   have ih:=Qe7u c s (k + 1)
   rw [h1] at ih
   have hb : ¬ ((b.toNat : Int) == (c.toNat : Int)) = true:=fun e=>h (UInt8.toNat_inj.1 (by have:=eq_of_beq e; omega))
   cases hc : cutS (c.toNat : Int) s with
   | nil=>exact absurd hc (Qk4w _ _)
   | cons v vs =>
    have e : cutS (c.toNat : Int) (b :: s) = (b :: v) :: vs:=by rw [cutS,if_neg hb,hc]
    rw [hc] at ih
    rw [h2,e]
    by_cases hk : k + 1 < (v :: vs).length
    ·rw [if_pos hk] at ih
     simp only [List.take_succ_cons,List.cons_append,List.cons.injEq] at ih
     obtain ⟨rfl,rfl⟩:=ih
     rw [if_pos (show k + 1 < ((b :: w) :: vs).length by simpa using hk)]
     simp only [List.take_succ_cons,List.cons_append,lensL,List.length_cons]
     rw [show w.length + 1 + lensL (vs.take k) + (k + 1) = (w.length + lensL (vs.take k) + (k + 1)) + 1 by omega,List.drop_succ_cons]
    ·rw [if_neg hk] at ih
     obtain ⟨rfl,rfl⟩:=List.cons.inj ih
     rw [if_neg (show ¬ k + 1 < ((b :: w) :: ws).length by simpa using hk)]
theorem Qh3y (c : Int) : ∀ (s : Str),∀ w ∈ cutS c s,w.length ≤ s.length
 | [],w,hw=>by
  simp only [cutS,List.mem_singleton] at hw
  subst hw; exact Nat.le_refl _
 | b :: s,w,hw=>by
  have ih:=Qh3y c s
  rw [cutS] at hw
  split at hw
  ·rcases List.mem_cons.1 hw with rfl | hw
   ·simp
   ·have:=ih w hw; simp only [List.length_cons]; omega
  ·split at hw
   ·rename_i hn; exact absurd hn (Qk4w _ _)
   ·rename_i v vs hv
    rcases List.mem_cons.1 hw with rfl | hw
    ·have:=ih v (by rw [hv]; exact List.mem_cons_self ..); simp only [List.length_cons]; omega
    ·have:=ih w (by rw [hv]; exact List.mem_cons_of_mem _ hw); simp only [List.length_cons]; omega
theorem Q72i (c : Int) : ∀ (s : Str),lensL (cutS c s) + (cutS c s).length = s.length + 1
 | []=>rfl
 | b :: s=>by
  have ih:=Q72i c s
  rw [cutS]
  split
  ·simp only [lensL,List.length_nil,List.length_cons]; omega
  ·split
   ·rename_i hn; exact absurd hn (Qk4w _ _)
   ·rename_i v vs hv
    rw [hv] at ih
    simp only [lensL,List.length_cons] at ih ⊢; omega
theorem Q34y (s : Str) : (∃ w0 w1 w2 w3 l,l ≠ [] ∧ cutS 32 s = w0 :: w1 :: w2 :: w3 :: l ∧ Lib.splitK [32] 0 (Q6c2 s 32 5) s = [w0,w1,w2,w3,s.drop (w0.length + w1.length + w2.length + w3.length + 4)] ∧ w0.length + w1.length + w2.length + w3.length + 4 ≤ s.length) ∨
  ((cutS 32 s).length < 5 ∧ (Lib.splitK [32] 0 (Q6c2 s 32 5) s).length ≠ 5):=by
 have hk : Q6c2 s 32 5 = min 4 s.length:=by
  unfold Q6c2
  rw [if_neg (by omega)]
  have : (5 : Int).toNat = 5:=rfl
  rw [this]; omega
 have hsp:=Qe7u 32 s (Q6c2 s 32 5)
 have e32 : ((32 : UInt8).toNat : Int) = 32:=rfl
 rw [e32] at hsp
 have hs:=Q72i 32 s
 have hl:=Qtox 32 s
 rw [hsp,hk]
 by_cases h5 : 5 ≤ (cutS 32 s).length
 ·left
  match hc : cutS 32 s with
  | []=>rw [hc] at h5; simp at h5
  | [_]=>rw [hc] at h5; simp at h5
  | [_,_]=>rw [hc] at h5; simp at h5
  | [_,_,_]=>rw [hc] at h5; simp at h5
  | [_,_,_,_]=>rw [hc] at h5; simp at h5
  | w0 :: w1 :: w2 :: w3 :: w4 :: l =>
   rw [hc] at hs hl
   simp only [lensL,List.length_cons] at hs hl
   refine ⟨w0,w1,w2,w3,w4 :: l,by simp,rfl, ?_,by omega⟩
   rw [show min 4 s.length = 4 by omega,if_pos (by simp)]
   have e : w0.length + (w1.length + (w2.length + (w3.length + 0))) + 4 = w0.length + w1.length + w2.length + w3.length + 4:=by omega
   simp only [List.take_succ_cons,List.take_zero,lensL,List.cons_append,List.nil_append]
   rw [e]
 ·right
  refine ⟨by omega, ?_⟩
  by_cases hq : min 4 s.length < (cutS 32 s).length
  ·rw [if_pos hq,List.length_append,List.length_take,List.length_singleton]; omega
  ·rw [if_neg hq]; omega
theorem anyNL (v : Str) : (v.any fun b=>b == 10) = hasNL v:=by
 unfold hasNL
 congr 1
 funext b
 apply Bool.eq_iff_iff.2
 simp only [beq_iff_eq]
 exact ⟨fun h=>by rw [h]; rfl,fun h=>UInt8.toNat_inj.1 h⟩
theorem Qgf2 {c : Chg} (h : Qenx c = false) : formF c = []:=if_neg (by simp [h])
theorem Qj32 {n : Int} (h : inR n 0 1000000000 = true) : (decS n).length ≤ 10:=by
 simp only [inR,qaT,qdT] at h
 exact Qqxq 9 (by omega)
theorem Q9ne (k : Int) : (Qkm3.getD k.toNat []).length ≤ 5:=by
 have : ∀ w ∈ Qkm3,w.length ≤ 5:=by decide
 rw [qgD]
 cases h : Qkm3[k.toNat]? with
 | none=>exact Nat.zero_le _
 | some w=>exact this w (qmG h)
theorem Qtk8 {s : Str} (h : (cutS 32 s).length < 5) : readF s = none:=by
 unfold readF
 rw [if_neg (fun hh=>by omega)]
theorem Qfem (w : Str) : max2A (idxF (fun y=>y == w) globW) 0 = whatF w:=by
 unfold max2A whatF
 have e : globW = Qkm3:=rfl
 rw [e]
 by_cases h : (0 : Int) > idxF (fun y=>y == w) Qkm3
 ·rw [if_pos h,Int.max_eq_right (by omega)]
 ·rw [if_neg h,Int.max_eq_left (by omega)]
def Q2ck : List Str:=[wKind,wTime,Qswv,Qxlh,Qbwf]
def whatG (w : Str) : Nat → Int
 | 0=>0
 | i + 1=>if (Q2ck.getD i [] == w) = true then ((i + 1 : Nat) : Int) else whatG w i
theorem Qu0p (w : Str) : whatG w 5 = whatF w:=by
 by_cases h5 : w = Qbwf
 ·subst h5; decide
 by_cases h4 : w = Qxlh
 ·subst h4; decide
 by_cases h3 : w = Qswv
 ·subst h3; decide
 by_cases h2 : w = wTime
 ·subst h2; decide
 by_cases h1 : w = wKind
 ·subst h1; decide
 have n1 : (wKind == w) = false:=by simp only [beq_eq_false_iff_ne]; exact fun e=>h1 e.symm
 have n2 : (wTime == w) = false:=by simp only [beq_eq_false_iff_ne]; exact fun e=>h2 e.symm
 have n3 : (Qswv == w) = false:=by simp only [beq_eq_false_iff_ne]; exact fun e=>h3 e.symm
 have n4 : (Qxlh == w) = false:=by simp only [beq_eq_false_iff_ne]; exact fun e=>h4 e.symm
 have n5 : (Qbwf == w) = false:=by simp only [beq_eq_false_iff_ne]; exact fun e=>h5 e.symm
 have e0 : whatG w 5 = 0:=by
  simp only [whatG,Q2ck,List.getD_cons_zero,List.getD_cons_succ,n1,n2,n3,n4,n5,Bool.false_eq_true,if_false]
 rw [e0]
 unfold whatF idxF Qkm3
 simp only [List.findIdx?_cons,n1,n2,n3,n4,n5,List.findIdx?_nil,Bool.false_eq_true,if_false,Option.map_none]
 by_cases hw : (([] : Str) == w) = true
 ·rw [if_pos hw]; rfl
 ·rw [if_neg hw]; rfl
theorem Q7ri {w3 : Str} (h : decB w3 = true) : decV w3 = numF w3:=by
 have:=of_decide_eq_true h
 unfold decV; omega
theorem Q8g8 {s : Str} {w0 w1 w2 w3 : Str} {l : List Str} (hc : cutS 32 s = w0 :: w1 :: w2 :: w3 :: l) (h : decB w3 = false) : readF s = none:=by
 unfold readF
 rw [if_neg]
 rintro ⟨h5,hf⟩
 have hn : Qenx (readC s (cutS 32 s)) = false:=by
  have : (readC s (cutS 32 s)).number = numF w3:=by rw [hc]; rfl
  have h3:=of_decide_eq_false h
  simp only [Qenx,this,inR]
  rw [decide_eq_false (show ¬ (1 : Int) ≤ numF w3 by omega)]
  simp
 rw [Qgf2 hn] at hf
 rw [← hf] at h5
 simp [cutS] at h5
end Lx
