/- The library's cutting of strings: its meaning, its contract. -/
import Derived.Lib.SlTrimSet
import Derived.Lib.Atoi
import Derived.Shelf.Strings.SlTrimAscii
import Derived.Test.YtefjaihaocdpcaaGreatDoorLlnfjfcjpgp
set_option linter.unusedVariables false
set_option linter.unusedSimpArgs false
namespace Lx
open Go Go.Proofs

theorem Qzmh (c : UInt8) (k : Nat) (s : Str) : Lib.splitK [c] 0 (k + 1) (c :: s) = [] :: Lib.splitK [c] 0 k s:=by
 have h : Lib.index (c :: s) [c] = 0:=by rw [Lib.index]; simp [List.isPrefixOf]
 rw [Lib.splitK,h]
 simp
theorem Q7sv {c b : UInt8} (h : b ≠ c) (k : Nat) (s : Str) : ∃ w ws,Lib.splitK [c] 0 k s = w :: ws ∧ Lib.splitK [c] 0 k (b :: s) = (b :: w) :: ws:=by
 cases k with
 | zero=>exact ⟨s,[],rfl,rfl⟩
 | succ k =>
  have hp : ([c] : List UInt8).isPrefixOf (b :: s) = false:=by simp [List.isPrefixOf,Ne.symm h]
  have hix : Lib.index (b :: s) [c] = if Lib.index s [c] == -1 then -1 else Lib.index s [c] + 1:=by rw [Lib.index,hp]; simp
  by_cases hm : Lib.index s [c] = -1
  ·refine ⟨s,[], ?_, ?_⟩
   ·rw [Lib.splitK,if_pos (beq_iff_eq.2 hm)]
   ·rw [Lib.splitK,if_pos (beq_iff_eq.2 (by rw [hix,if_pos (beq_iff_eq.2 hm)]))]
  ·have hge:=Lib.index_ge s [c]
   obtain ⟨j,hj⟩ : ∃ j : Nat,Lib.index s [c] = j:=⟨(Lib.index s [c]).toNat,by omega⟩
   have hix' : Lib.index (b :: s) [c] = ((j + 1 : Nat) : Int):=by rw [hix,if_neg (fun e=>hm (beq_iff_eq.1 e)),hj]; omega
   refine ⟨s.take j,Lib.splitK [c] 0 k (s.drop (j + 1)), ?_, ?_⟩
   ·rw [Lib.splitK,if_neg (fun e=>hm (beq_iff_eq.1 e)),hj]; simp
   ·rw [Lib.splitK,if_neg (fun e=>by have:=beq_iff_eq.1 e; omega),hix']
    have e : ((j + 1 : Nat) : Int).toNat = j + 1:=by omega
    rw [e]
    simp
theorem Q536 (c : UInt8) : ∀ (s : Str),Lib.splitK [c] 0 (s.count c) s = cutS (c.toNat : Int) s
 | []=>rfl
 | b :: s=>by
  by_cases h : b = c
  ·subst h
   rw [List.count_cons_self,Qzmh,Q536 b s]
   simp [cutS]
  ·obtain ⟨w,ws,h1,h2⟩:=Q7sv h (s.count c) s
   rw [List.count_cons_of_ne (by simpa using h),h2]
   have : ¬ ((b.toNat : Int) == (c.toNat : Int)) = true:=fun e=>h (UInt8.toNat_inj.1 (by have:=eq_of_beq e; omega))
   rw [cutS,if_neg this,← Q536 c s,h1]

def szS (s : Str) : Bool:=decide (s.length ≤ 1000000000)
def Q6c2 (s : Str) (c : UInt8) (n : Int) : Nat:=if n < 0 then s.count c else min n.toNat (s.length + 1) - 1
def Qowf : Ent Ty El:=⟨[.ro,.ro,.ro,.ro],0,fun a h=>match a,h with
 | [.str s,.str [c],.int .i64 0,.int .i64 n],[]=>some (szS s && (!decide (n = 0) && decide (n ≤ 1000000000)),.sl .str (Lib.splitK [c] 0 (Q6c2 s c n) s),[])
 | _,_=>none⟩
def Q123 : Ent Ty El:=⟨[.ro,.ro],0,fun a h=>match a,h with
 | [.str s,.str [c]],[]=>some (szS s,.sl .str (cutS (c.toNat : Int) s),[])
 | _,_=>none⟩
theorem cutB (s : ByteArray) (c : UInt8) (k : Nat) : (Lib.splitB ⟨#[c]⟩ 0 k s).map (fun x=>x.data.toList) = Lib.splitK [c] 0 k s.data.toList:=Lib.splitB_data ⟨#[c]⟩ 0 k s

theorem Qy5w (s : Str) (c : UInt8) (n : Int) (hg : (szS s && (!decide (n = 0) && decide (n ≤ 1000000000))) = true) : Qewq Tryz.prog CP Qs0p [.str s,.str [c],.int .i64 0,.int .i64 n] [] (.sl .str (Lib.splitK [c] 0 (Q6c2 s c n) s)) []:=by
 simp only [szS,Bool.and_eq_true,decide_eq_true_eq,Bool.not_eq_true',decide_eq_false_iff_not] at hg
 obtain ⟨hs,hn0,hn⟩:=hg
 refine Qewq.quiet CP_ok fun w N vs hsz hrep=>?_
 obtain ⟨sb,h0,hsb⟩:=Qfrf hrep hsz (j:=0) rfl
 obtain ⟨cb,h1,hcb⟩:=Qfrf hrep hsz (j:=1) rfl
 have h2:=Qf6o hrep hsz (j:=2) rfl
 have h3:=Qf6o hrep hsz (j:=3) rfl
 obtain rfl : cb = ⟨#[c]⟩:=Qa5q hcb
 rw [arr4 hsz h0 h1 h2 h3]
 have hsize : sb.size = s.length:=by rw [Lib.size_eq,hsb]
 have hcnt : Lib.countB sb ⟨#[c]⟩ = s.count c:=by
  show Lib.count sb.data.toList [c] = _
  rw [Lib.count_one,hsb]
 have hle : s.count c ≤ s.length:=List.count_le_length
 have hN : ((Q6c2 s c n + 1 : Nat) : Int) = min (if n < 0 then (Lib.countB sb ⟨#[c]⟩ : Int) + 1 else n) ((sb.size : Int) + 1):=by
  rw [hcnt,hsize]
  unfold Q6c2
  by_cases h : n < 0
  ·rw [if_pos h,if_pos h]; omega
  ·rw [if_neg h,if_neg h]; omega
 have hc:=Any.strings_genSplit_core Tryz.lays221 (by kernel_rfl) sb ⟨#[c]⟩ 0 n (Q6c2 s c n + 1) w (by omega) (Nat.le_refl 1) (Nat.zero_le _)
  (fun x cc hx=>by
   have:=Any.strings_Index_one Tryz.lays143 x c (w.alloc (.cells cc 9))
   refine Calls.mono this ?_
   rintro e w' ⟨rfl,rfl⟩
   refine ⟨?_,rfl⟩
   rw [← Lib.index_one])
  (by
   refine Calls.mono (Any.strings_Count_one Tryz.lays138 sb c w) ?_
   rintro e w' ⟨rfl,rfl⟩
   refine ⟨?_,rfl⟩
   rw [hcnt,← hsb]; rfl) hn0 (by omega) hN
 refine Calls.mono hc ?_
 rintro e w' ⟨rfl,rfl⟩
 refine ⟨_,rfl,Fr.alloc w _,fun N' hro hN'=>?_⟩
 have hlen:=Lib.splitB_length_le ⟨#[c]⟩ 0 (Q6c2 s c n) sb
 have:=RepA.newStrs (El:=El) CP_ok (T:=.str) (f:=fun x=>x) (g:=fun x=>x) (fun x=>rfl) (fun _=>rfl) (N:=N') (w:=w) (t:=9) (ss:=Lib.splitB ⟨#[c]⟩ 0 (Q6c2 s c n) sb) (n:=(Lib.splitB ⟨#[c]⟩ 0 (Q6c2 s c n) sb).length) (cap:=Q6c2 s c n + 1)
  (arr:=Lib.cellsOf (Lib.splitB ⟨#[c]⟩ 0 (Q6c2 s c n) sb) (Q6c2 s c n + 1)) rfl (by omega) (hN' _ (Nat.le_refl _) (by rw [Q541]; omega)) (fun i x hx=>by
   unfold Lib.cellsOf
   have hi:=(List.getElem?_eq_some_iff.1 hx).1
   rw [List.getElem?_toArray,List.getElem?_append_left (by simpa using hi),List.getElem?_map,hx]; rfl)
 rw [cutB,hsb] at this
 exact this
theorem Qtro : EntOK Tryz.prog CP Qs0p Qowf:=by
 refine ⟨⟨Tryz.f184,by kernel_rfl,by kernel_rfl,by kernel_rfl⟩,fun args H res H' h=>?_⟩
 simp only [Qowf] at h
 split at h
 ·simp only [Option.some.injEq,Prod.mk.injEq] at h
  obtain ⟨hg,rfl,rfl⟩:=h
  exact Qy5w _ _ _ hg
 ·cases h
end Lx
set_option maxRecDepth 4000
namespace Lx
open Go Go.Proofs
noncomputable def Qwzr : RE Ty El:=⟨Tryz.prog,CP,[(Qs0p,Qowf)],Tryz.f168,0,[],[]⟩
theorem Qvk0 : REOK Qwzr Qryc:=⟨CP_ok,(TabOK.cons Qtro Qye1),by kernel_rfl,by kernel_rfl⟩
theorem Q3is (s : Str) (c : UInt8) : aRun Qwzr 600 false (body0 Qwzr.fn) (Q4gm Qwzr.fn [.str s,.str [c]] []) =
 ifb (szS s && (!decide ((-1 : Int) = (0 : Int)) && decide ((-1 : Int) ≤ (1000000000 : Int)))) (some (.ret (.sl .str (Lib.splitK [c] (0 : Nat) (Q6c2 s c (-1 : Int)) s)) [])) (none):=by kernel_rfl
theorem Qpa7 (s : Str) (c : UInt8) (hg : szS s = true) : Qewq Tryz.prog CP Qryc [.str s,.str [c]] [] (.sl .str (cutS (c.toNat : Int) s)) []:=by
 refine Qewq.of Qvk0 (by kernel_rfl) (Q3is s c) ?_
 refine Sat.ifb (fun _=>?_) (fun h=>?_)
 ·refine Sat.ret ?_ rfl
  rw [← Q536]; rfl
 ·refine Sat.no ?_
  simp [hg] at h
theorem Qne7 : EntOK Tryz.prog CP Qryc Q123:=by
 refine ⟨⟨Tryz.f168,by kernel_rfl,by kernel_rfl,by kernel_rfl⟩,fun args H res H' h=>?_⟩
 simp only [Q123] at h
 split at h
 ·simp only [Option.some.injEq,Prod.mk.injEq] at h
  obtain ⟨hg,rfl,rfl⟩:=h
  exact Qpa7 _ _ hg
 ·cases h

end Lx
namespace Lx
open Go Go.Proofs
theorem Qnlg {K V : Ty} (hk : ∀ a b : El K,CP.keq K a b = true ↔ a = b) (c c' : El K) (y : El V) : ∀ m : List (El K × El V),getK CP K V c' (putK CP K V c y m) = if CP.keq K c' c = true then y else getK CP K V c' m
 | []=>by simp only [putK,getK]
 | p :: m=>by
  simp only [putK]
  by_cases h : CP.keq K c p.1 = true
  ·rw [if_pos h]
   simp only [getK]
   by_cases h2 : CP.keq K c' c = true
   ·rw [if_pos h2,if_pos h2]
   ·rw [if_neg h2,if_neg h2]
    have : ¬ CP.keq K c' p.1 = true:=fun e=>h2 ((hk _ _).2 (((hk _ _).1 e).trans ((hk _ _).1 h).symm))
    rw [if_neg this]
  ·rw [if_neg h]
   simp only [getK]
   rw [Qnlg hk c c' y m]
   by_cases h2 : CP.keq K c' p.1 = true
   ·have : ¬ CP.keq K c' c = true:=fun e=>h ((hk _ _).2 (((hk _ _).1 e).symm.trans ((hk _ _).1 h2)))
    rw [if_pos h2,if_neg this,if_pos h2]
   ·rw [if_neg h2,if_neg h2]
theorem Qfl4 (a b : Cell) : CP.keq .pair a b = true ↔ a = b:=by
 obtain ⟨ax,ay⟩:=a
 obtain ⟨bx,b_y⟩:=b
 show ((ax == bx && ay == b_y) = true) ↔ _
 simp
def knows (m : List (El .pair × El .bool)) (seen : List Point) : Prop:=∀ p : Point,getK CP .pair .bool (⟨p.x,p.y⟩ : Cell) m = !Q343 seen p
theorem Qhyl : knows [] []:=fun p=>rfl
theorem Qprk {m : List (El .pair × El .bool)} {seen : List Point} (h : knows m seen) (q : Point) : knows (putK CP .pair .bool (⟨q.x,q.y⟩ : Cell) true m) (seen ++ [q]):=fun p=>by
 rw [Qnlg Qfl4,h p]
 have e : CP.keq .pair (⟨p.x,p.y⟩ : Cell) (⟨q.x,q.y⟩ : Cell) = (q.x == p.x && q.y == p.y):=by
  show (p.x == q.x && p.y == q.y) = _
  rw [Bool.beq_comm (a:=p.x),Bool.beq_comm (a:=p.y)]
 rw [e]
 simp only [Q343,List.all_append,List.all_cons,List.all_nil,Bool.and_true]
 by_cases hc : (q.x == p.x && q.y == p.y) = true
 ·rw [if_pos hc,hc]; simp
 ·rw [if_neg hc]
  have : (q.x == p.x && q.y == p.y) = false:=by simpa using hc
  rw [this]; simp
def Qzuu : Ent Ty El:=Qm9f
theorem le_lt (a b : Str) : (Q7zj a b || a == b) = !Q7zj b a:=by
 have tot : ∀ a b : Str,(Q7zj a b || a == b) = !Q7zj b a:=by
  intro a
  induction a with
  | nil=>intro b; cases b <;> rfl
  | cons x a ih =>
   intro b
   cases b with
   | nil=>rfl
   | cons y b =>
    simp only [Q7zj]
    have hne : ((x :: a) == (y :: b)) = (x == y && a == b):=rfl
    rw [hne]
    by_cases h1 : x < y
    ·have h2 : ¬ y < x:=fun h=>by exact absurd (UInt8.lt_trans h1 h) (UInt8.lt_irrefl _)
     have h3 : (x == y) = false:=by simp; intro e; subst e; exact absurd h1 (UInt8.lt_irrefl _)
     have h4 : ¬ y = x:=fun e=>by subst e; exact absurd h1 (UInt8.lt_irrefl _)
     simp [h1,h2,h3,h4]
    ·by_cases h2 : y < x
     ·have h3 : (x == y) = false:=by simp; intro e; subst e; exact absurd h2 (UInt8.lt_irrefl _)
      simp [h1,h2,h3]
     ·have h3 : x = y:=by
       have a1:=UInt8.not_lt.1 h1
       have a2:=UInt8.not_lt.1 h2
       exact UInt8.le_antisymm a2 a1
      subst h3
      simp [h1,ih b]
 exact tot a b
end Lx
namespace Lx
open Go Go.Proofs
noncomputable def Qc92 : RE Ty El:=⟨Tryz.prog,CP,[(Qi5t,Qcb4),(Q3pj,Qj6w)],Tryz.f92,0,[],[(4,[(1,.any),(20,.any),(21,.any),(22,.any)]),(11,[(1,.any),(5,.any),(49,.any),(50,.any),(51,.any)])]⟩
theorem Qsdp : REOK Qc92 Qdaf:=⟨CP_ok,(TabOK.cons Qvs4 (TabOK.cons Qvb7 Qye1)),by kernel_rfl,by kernel_rfl⟩
theorem Qm8h (ks : List Kind) (ps : List Point) : aRun Qc92 600 false (body0 Qc92.fn) (Q4gm Qc92.fn [.agg [.sl .kind ks,.sl .point ps]] []) =
 ifb (decide ((↑ks.length : Int) > (6 : Int))) (some (.ret (.bool false) [])) (ifb (decide ((↑ps.length : Int) > (16 : Int))) (some (.ret (.bool false) [])) (some (.go (Qu6t Qc92.fn 4) [.ptr 0 0,.sl .kind ks,.int .i64 (↑ks.length : Int),.int .i64 (0 : Int)] [.box [.sl .kind ks,.sl .point ps]]))):=by kernel_rfl
theorem Q0bu (x0 : List (El .kind)) (x1 : Int) (x2 : Int) (x3 : List (El .kind)) (x4 : List (El .point)) : aRun Qc92 600 true (Qu6t Qc92.fn 4) (cutSt Qc92.fn (Q1m4 Qc92 (Qu6t Qc92.fn 4)) [.ptr 0 0,.sl .kind x0,.int .i64 x1,.int .i64 x2] [.box [.sl .kind x3,.sl .point x4]]) =
 ifb (decide (x2 < x1)) (ifb (inb x2 x0.length) (ifb (!Kind.ok (x0.getD x2.toNat (Qc92.C.dflt Ty.kind))) (some (.ret (.bool false) [])) (ifb (decide (x2 > (0 : Int))) (ifb (inb (IntKind.i64.wrap (x2 - (1 : Int))) x3.length) (ifb (Q7zj (x0.getD x2.toNat (Qc92.C.dflt Ty.kind)).name (x3.getD (IntKind.i64.wrap (x2 - (1 : Int))).toNat (Qc92.C.dflt Ty.kind)).name || (x0.getD x2.toNat (Qc92.C.dflt Ty.kind)).name == (x3.getD (IntKind.i64.wrap (x2 - (1 : Int))).toNat (Qc92.C.dflt Ty.kind)).name) (some (.ret (.bool false) [])) (some (.go (Qu6t Qc92.fn 4) [.ptr 0 0,.sl .kind x0,.int .i64 x1,.int .i64 (IntKind.i64.wrap (x2 + (1 : Int)))] [.box [.sl .kind x3,.sl .point x4]]))) (none)) (some (.go (Qu6t Qc92.fn 4) [.ptr 0 0,.sl .kind x0,.int .i64 x1,.int .i64 (IntKind.i64.wrap (x2 + (1 : Int)))] [.box [.sl .kind x3,.sl .point x4]])))) (none)) (some (.go (Qu6t Qc92.fn 11) [.ptr 0 0,.mapr 1,.sl .point x4,.int .i64 (↑x4.length : Int),.int .i64 (0 : Int)] [.box [.sl .kind x3,.sl .point x4],.mp .pair .bool []])):=by kernel_rfl
theorem Qdiq (x0 : List (El .point)) (x1 : Int) (x2 : Int) (x3 : List (El .kind)) (x4 : List (El .point)) (x5 : List (El .pair × El .bool)) : aRun Qc92 600 true (Qu6t Qc92.fn 11) (cutSt Qc92.fn (Q1m4 Qc92 (Qu6t Qc92.fn 11)) [.ptr 0 0,.mapr 1,.sl .point x0,.int .i64 x1,.int .i64 x2] [.box [.sl .kind x3,.sl .point x4],.mp .pair .bool x5]) =
 ifb (decide (x2 < x1)) (ifb (inb x2 x0.length) (ifb (!Point.ok (x0.getD x2.toNat (Qc92.C.dflt Ty.point))) (some (.ret (.bool false) [])) (ifb (getK Qc92.C Ty.pair Ty.bool { x:=(x0.getD x2.toNat (Qc92.C.dflt Ty.point)).x,y:=(x0.getD x2.toNat (Qc92.C.dflt Ty.point)).y } x5) (some (.ret (.bool false) [])) (ifb (decide (x2 > (0 : Int))) (ifb (inb (IntKind.i64.wrap (x2 - (1 : Int))) x4.length) (ifb (Q7zj (x0.getD x2.toNat (Qc92.C.dflt Ty.point)).name (x4.getD (IntKind.i64.wrap (x2 - (1 : Int))).toNat (Qc92.C.dflt Ty.point)).name || (x0.getD x2.toNat (Qc92.C.dflt Ty.point)).name == (x4.getD (IntKind.i64.wrap (x2 - (1 : Int))).toNat (Qc92.C.dflt Ty.point)).name) (some (.ret (.bool false) [])) (some (.go (Qu6t Qc92.fn 11) [.ptr 0 0,.mapr 1,.sl .point x0,.int .i64 x1,.int .i64 (IntKind.i64.wrap (x2 + (1 : Int)))] [.box [.sl .kind x3,.sl .point x4],.mp .pair .bool (putK Qc92.C Ty.pair Ty.bool { x:=(x0.getD x2.toNat (Qc92.C.dflt Ty.point)).x,y:=(x0.getD x2.toNat (Qc92.C.dflt Ty.point)).y } true x5)]))) (none)) (some (.go (Qu6t Qc92.fn 11) [.ptr 0 0,.mapr 1,.sl .point x0,.int .i64 x1,.int .i64 (IntKind.i64.wrap (x2 + (1 : Int)))] [.box [.sl .kind x3,.sl .point x4],.mp .pair .bool (putK Qc92.C Ty.pair Ty.bool { x:=(x0.getD x2.toNat (Qc92.C.dflt Ty.point)).x,y:=(x0.getD x2.toNat (Qc92.C.dflt Ty.point)).y } true x5)]))))) (none)) (some (.ret (.bool true) [])):=by kernel_rfl
theorem Qn1c (ks : List Kind) (ps : List Point) (hp : ps.length ≤ 16) : ∀ (d i : Nat) (m : List (El .pair × El .bool)),i + d = ps.length → knows m (ps.take i) →
  Cut Qc92 Qdaf 11 [.ptr 0 0,.mapr 1,.sl .point ps,.int .i64 (ps.length : Int),.int .i64 (i : Int)] [.box [.sl .kind ks,.sl .point ps],.mp .pair .bool m] (.bool (Qaym (ps.take i) ((ps.take i).getLast?.map (·.name)) (ps.drop i))) []:=by
 intro d
 induction d with
 | zero =>
  intro i m hi hm
  refine Cut.of Qsdp rfl (Qdiq ps ps.length i ks ps m) ?_
  rw [decide_eq_false (by omega),List.drop_of_length_le (by omega)]
  exact Sat.retB rfl rfl
 | succ d ih =>
  intro i m hi hm
  refine Cut.of Qsdp rfl (Qdiq ps ps.length i ks ps m) ?_
  have hlt : i < ps.length:=by omega
  have hw : IntKind.wrap .i64 ((i : Int) + 1) = ((i + 1 : Nat) : Int):=by rw [Qbrg] <;> omega
  have hw1 : IntKind.wrap .i64 ((i : Int) - 1) = (i : Int) - 1:=by rw [Qbrg] <;> omega
  have hd : ps.drop i = ps[i] :: ps.drop (i + 1):=List.drop_eq_getElem_cons hlt
  have hx : ps.getD (i : Int).toNat (Qc92.C.dflt .point) = ps[i]:=by simp [hlt]
  have hin : inb (i : Int) ps.length = true:=by simp only [inb,Bool.and_eq_true,decide_eq_true_eq]; omega
  have hlo : decide ((i : Int) < (ps.length : Int)) = true:=decide_eq_true (by omega)
  have hl : (ps.take (i + 1)).getLast? = some ps[i]:=by rw [List.take_succ_eq_append_getElem hlt,List.getLast?_concat]
  have ih':=ih (i + 1) (putK CP .pair .bool (⟨ps[i].x,ps[i].y⟩ : Cell) true m) (by omega) (by rw [List.take_succ_eq_append_getElem hlt]; exact Qprk hm ps[i])
  rw [hl,Option.map_some] at ih'
  rw [hw,hw1,hx,hd,hin,hlo,Qaym,← List.take_succ_eq_append_getElem hlt]
  simp only [Qd8q]
  cases hk : ps[i].ok with
  | false=>exact Sat.retB rfl rfl
  | true =>
   have hkn : getK Qc92.C .pair .bool ⟨ps[i].x,ps[i].y⟩ m = !Q343 (ps.take i) ps[i]:=hm ps[i]
   rw [hkn]
   simp only [Bool.not_true,Qk7y,Bool.true_and]
   cases hf : Q343 (ps.take i) ps[i] with
   | false =>
    refine Sat.retB ?_ rfl
    simp
   | true =>
   simp only [Bool.not_true,Qk7y,Bool.true_and]
   by_cases h0 : (i : Int) > 0
   ·have hi1 : i - 1 < ps.length:=by omega
    have hx1 : ps.getD ((i : Int) - 1).toNat (Qc92.C.dflt .point) = ps[i - 1]:=by
     rw [show ((i : Int) - 1).toNat = i - 1 by omega]; simp [hi1]
    have hl1 : (ps.take i).getLast? = some ps[i - 1]:=by
     have:=List.take_succ_eq_append_getElem hi1
     rw [show i - 1 + 1 = i by omega] at this
     rw [this,List.getLast?_concat]
    have hin1 : inb ((i : Int) - 1) ps.length = true:=by simp only [inb,Bool.and_eq_true,decide_eq_true_eq]; omega
    rw [decide_eq_true h0,hx1,hl1,hin1,le_lt]
    simp only [Qd8q,Option.map_some,Qe7t]
    cases hb : Q7zj ps[i - 1].name ps[i].name with
    | false=>exact Sat.retB rfl rfl
    | true =>
     simp only [Bool.not_true,Qk7y,Bool.true_and]
     exact Sat.cut ih'
   ·rw [decide_eq_false h0]
    have : i = 0:=by omega
    subst this
    exact Sat.cut ih'
theorem Qhbw (ks : List Kind) (ps : List Point) (hk6 : ks.length ≤ 6) (hp : ps.length ≤ 16) : ∀ (d i : Nat),i + d = ks.length →
  Cut Qc92 Qdaf 4 [.ptr 0 0,.sl .kind ks,.int .i64 (ks.length : Int),.int .i64 (i : Int)] [.box [.sl .kind ks,.sl .point ps]] (.bool (Qh9e ((ks.take i).getLast?.map (·.name)) (ks.drop i) && Qaym [] none ps)) []:=by
 intro d
 induction d with
 | zero =>
  intro i hi
  refine Cut.of Qsdp rfl (Q0bu ks ks.length i ks ps) ?_
  rw [decide_eq_false (by omega),List.drop_of_length_le (by omega)]
  have:=Qn1c ks ps hp ps.length 0 [] (by omega) Qhyl
  exact Sat.cut this
 | succ d ih =>
  intro i hi
  refine Cut.of Qsdp rfl (Q0bu ks ks.length i ks ps) ?_
  have hlt : i < ks.length:=by omega
  have hw : IntKind.wrap .i64 ((i : Int) + 1) = ((i + 1 : Nat) : Int):=by rw [Qbrg] <;> omega
  have hw1 : IntKind.wrap .i64 ((i : Int) - 1) = (i : Int) - 1:=by rw [Qbrg] <;> omega
  have hd : ks.drop i = ks[i] :: ks.drop (i + 1):=List.drop_eq_getElem_cons hlt
  have hx : ks.getD (i : Int).toNat (Qc92.C.dflt .kind) = ks[i]:=by simp [hlt]
  have hin : inb (i : Int) ks.length = true:=by simp only [inb,Bool.and_eq_true,decide_eq_true_eq]; omega
  have hlo : decide ((i : Int) < (ks.length : Int)) = true:=decide_eq_true (by omega)
  have hl : (ks.take (i + 1)).getLast? = some ks[i]:=by rw [List.take_succ_eq_append_getElem hlt,List.getLast?_concat]
  have ih':=ih (i + 1) (by omega)
  rw [hl,Option.map_some] at ih'
  rw [hw,hw1,hx,hd,hin,hlo,Qh9e]
  simp only [Qd8q]
  cases hk : ks[i].ok with
  | false=>exact Sat.retB rfl rfl
  | true =>
   simp only [Bool.not_true,Qk7y,Bool.true_and]
   by_cases h0 : (i : Int) > 0
   ·have hi1 : i - 1 < ks.length:=by omega
    have hx1 : ks.getD ((i : Int) - 1).toNat (Qc92.C.dflt .kind) = ks[i - 1]:=by
     rw [show ((i : Int) - 1).toNat = i - 1 by omega]; simp [hi1]
    have hl1 : (ks.take i).getLast? = some ks[i - 1]:=by
     have:=List.take_succ_eq_append_getElem hi1
     rw [show i - 1 + 1 = i by omega] at this
     rw [this,List.getLast?_concat]
    have hin1 : inb ((i : Int) - 1) ks.length = true:=by simp only [inb,Bool.and_eq_true,decide_eq_true_eq]; omega
    rw [decide_eq_true h0,hx1,hl1,hin1,le_lt]
    simp only [Qd8q,Option.map_some,Qe7t]
    cases hb : Q7zj ks[i - 1].name ks[i].name with
    | false=>exact Sat.retB rfl rfl
    | true =>
     simp only [Bool.not_true,Qk7y,Bool.true_and]
     exact Sat.cut ih'
   ·rw [decide_eq_false h0]
    have : i = 0:=by omega
    subst this
    exact Sat.cut ih'
theorem Qzr7 (ks : List Kind) (ps : List Point) : Qewq Tryz.prog CP Qdaf [.agg [.sl .kind ks,.sl .point ps]] [] (.bool (Qib4 ks ps)) []:=by
 refine Qewq.of Qsdp (by kernel_rfl) (Qm8h ks ps) ?_
 by_cases h6 : ks.length ≤ 6
 ·rw [decide_eq_false (by omega)]
  by_cases h16 : ps.length ≤ 16
  ·rw [decide_eq_false (by omega)]
   have:=Qhbw ks ps h6 h16 ks.length 0 (by omega)
   rw [show Qib4 ks ps = (Qh9e ((ks.take 0).getLast?.map (·.name)) (ks.drop 0) && Qaym [] none ps) by simp [Qib4,h6,h16]]
   exact Sat.cut this
  ·rw [decide_eq_true (by omega)]
   refine Sat.retB ?_ rfl
   simp [Qib4,h16]
 ·rw [decide_eq_true (by omega)]
  refine Sat.retB ?_ rfl
  simp [Qib4,h6]
theorem Qkfq : EntOK Tryz.prog CP Qdaf Qzuu:=by
 refine ⟨⟨Tryz.f92,by kernel_rfl,by kernel_rfl,by kernel_rfl⟩,fun args H res H' h=>?_⟩
 simp only [Qzuu,Qm9f] at h
 split at h
 ·simp only [Option.some.injEq,Prod.mk.injEq] at h
  obtain ⟨hg,rfl,rfl⟩:=h
  exact Qzr7 _ _
 ·cases h
end Lx
namespace Lx
open Go Go.Proofs
def Qy27 : Str:=[48,49,50,51,52,53,54,55,56,57]
def isDig (b : UInt8) : Bool:=decide (48 ≤ b.toNat) && decide (b.toNat ≤ 57)
theorem Q6yr (b : UInt8) : Qy27.contains b = isDig b:=by
 have h : ∀ k : UInt8,(b == k) = decide (b.toNat = k.toNat):=fun k=>by
  by_cases e : b = k
  ·subst e; simp
  ·rw [beq_eq_false_iff_ne.2 e,decide_eq_false (fun h=>e (UInt8.toNat_inj.1 h))]
 simp only [Qy27,List.contains_cons,List.contains_nil,Bool.or_false,h,isDig]
 simp only [show (48 : UInt8).toNat = 48 from rfl,show (49 : UInt8).toNat = 49 from rfl,show (50 : UInt8).toNat = 50 from rfl,show (51 : UInt8).toNat = 51 from rfl,show (52 : UInt8).toNat = 52 from rfl,
  show (53 : UInt8).toNat = 53 from rfl,show (54 : UInt8).toNat = 54 from rfl,show (55 : UInt8).toNat = 55 from rfl,show (56 : UInt8).toNat = 56 from rfl,show (57 : UInt8).toNat = 57 from rfl]
 apply Bool.eq_iff_iff.2
 simp only [Bool.or_eq_true,Bool.and_eq_true,decide_eq_true_eq]
 omega
theorem Qtw7 {p : UInt8 → Bool} : ∀ {l : List UInt8},(∀ x ∈ l.dropWhile p,p x = true) → ∀ x ∈ l,p x = true
 | [],_,x,h=>by simp at h
 | a :: l,h,x,hx=>by
  by_cases ha : p a = true
  ·rw [List.dropWhile_cons_of_pos ha] at h
   simp only [List.mem_cons] at hx
   rcases hx with rfl | hx
   ·exact ha
   ·exact Qtw7 h x hx
  ·rw [List.dropWhile_cons_of_neg ha] at h
   exact h x hx
theorem Q3mr {p : UInt8 → Bool} : ∀ {l : List UInt8},l.dropWhile p = [] ↔ ∀ x ∈ l,p x = true
 | []=>by simp
 | a :: l=>by
  by_cases ha : p a = true
  ·rw [List.dropWhile_cons_of_pos ha,Q3mr (l:=l)]
   simp [ha]
  ·rw [List.dropWhile_cons_of_neg ha]
   simp [ha]
theorem Qm0m (s : Str) : (Lib.trimS s Qy27 == []) = s.all isDig:=by
 have e : (fun b=>Qy27.contains b) = isDig:=funext Q6yr
 apply Bool.eq_iff_iff.2
 unfold Lib.trimS Lib.trimLeftS Lib.trimRightS
 rw [e,beq_iff_eq,Q3mr,List.all_eq_true]
 constructor
 ·intro h x hx
  exact Qtw7 (l:=s.reverse) (fun y hy=>h y (by simpa using hy)) x (by simpa using hx)
 ·intro h x hx
  have : s.reverse.dropWhile isDig = []:=Q3mr.2 (fun y hy=>h y (by simpa using hy))
  rw [this] at hx; simp at hx
def optI : Option Nat → Int
 | some k=>(k : Int)
 | none=>-1
theorem Qe53 : ∀ (s : Str) (acc : Nat),numGo (acc : Int) s = optI (Lib.decFrom acc s)
 | [],acc=>rfl
 | b :: s,acc=>by
  simp only [numGo,Lib.decFrom,Lib.digitVal]
  by_cases h : 48 ≤ b.toNat ∧ b.toNat ≤ 57
  ·rw [if_neg (by omega),if_pos h]
   have : (acc : Int) * 10 + ((b.toNat : Int) - 48) = ((acc * 10 + (b.toNat - 48) : Nat) : Int):=by omega
   rw [this]
   exact Qe53 s _
  ·rw [if_pos (by omega),if_neg h]
   rfl
theorem Q2qd : ∀ (s : Str) (acc : Nat),s.all isDig = (Lib.decFrom acc s).isSome
 | [],acc=>rfl
 | b :: s,acc=>by
  simp only [List.all_cons,Lib.decFrom,Lib.digitVal,isDig]
  by_cases h : 48 ≤ b.toNat ∧ b.toNat ≤ 57
  ·rw [if_pos h,decide_eq_true h.1,decide_eq_true h.2]
   simp only [Bool.and_self,Bool.true_and]
   exact Q2qd s _
  ·rw [if_neg h]
   have : (decide (48 ≤ b.toNat) && decide (b.toNat ≤ 57)) = false:=by
    apply Bool.eq_false_iff.2
    intro e
    simp only [Bool.and_eq_true,decide_eq_true_eq] at e
    exact h e
   rw [this]; rfl
theorem Qk3r {s : Str} (h : s.all isDig = true) : 0 ≤ numGo 0 s:=by
 have:=Qe53 s 0
 rw [Q2qd s 0] at h
 obtain ⟨k,hk⟩:=Option.isSome_iff_exists.1 h
 rw [hk] at this
 have e : ((0 : Nat) : Int) = 0:=rfl
 rw [e] at this
 rw [this]; exact Int.natCast_nonneg k
theorem Qz12 {s : Str} (h : s.all isDig = false) : numGo 0 s = -1:=by
 have:=Qe53 s 0
 rw [Q2qd s 0] at h
 have hn : Lib.decFrom 0 s = none:=by cases hd : Lib.decFrom 0 s with | none=>rfl | some k=>rw [hd] at h; cases h
 rw [hn] at this
 exact this
theorem Qf1l {s : Str} (h0 : 0 < s.length) (h : s.all isDig = true) : Lib.atoi s = some (numGo 0 s):=by
 cases s with
 | nil=>simp at h0
 | cons b s =>
  have hb : isDig b = true:=by simp only [List.all_cons,Bool.and_eq_true] at h; exact h.1
  simp only [isDig,Bool.and_eq_true,decide_eq_true_eq] at hb
  have n1 : ¬ (b == 45) = true:=fun e=>by have:=congrArg UInt8.toNat (eq_of_beq e); simp at this; omega
  have n2 : ¬ (b == 43) = true:=fun e=>by have:=congrArg UInt8.toNat (eq_of_beq e); simp at this; omega
  have hs:=Q2qd (b :: s) 0
  rw [h] at hs
  obtain ⟨k,hk⟩:=Option.isSome_iff_exists.1 hs.symm
  have hn:=Qe53 (b :: s) 0
  rw [hk] at hn
  have e : ((0 : Nat) : Int) = 0:=rfl
  rw [e] at hn
  rw [hn]
  unfold Lib.atoi
  simp only
  rw [if_neg n1,if_neg n2]
  simp [Lib.decNat,hk,optI]

def Q028 : Ent Ty El:=⟨[.ro,.ro],0,fun a h=>match a,h with
 | [.str s,.str d],[]=>some (decide (d = Qy27) && (decide (0 < s.length) && szS s),.str (Lib.trimS s Qy27),[])
 | _,_=>none⟩
def Qrl7 : Ent Ty El:=⟨[.ro],0,fun a h=>match a,h with
 | [.str s],[]=>some (decide (s.length ≤ 18) && (Lib.atoi s).isSome,.tup [.int .i64 ((Lib.atoi s).getD 0),.dead],[])
 | _,_=>none⟩
def decV (s : Str) : Int:=max 0 (numF s)
def decB (s : Str) : Bool:=decide (0 ≤ numF s)
def Q18u : Ent Ty El:=⟨[.ro,.ro],0,fun a h=>match a,h with
 | [.str s,.int .i64 m],[]=>some (decide (m = 7),.tup [.int .i64 (decV s),.bool (decB s)],[])
 | _,_=>none⟩
def decsV (w : List Str) : List Int:=if w.all decB then w.map decV else []
def Qroy : Ent Ty El:=⟨[.ro,.ro],0,fun a h=>match a,h with
 | [.sl .str w,.int .i64 m],[]=>some (decide (m = 7) && decide (w.length ≤ 2000000000),.tup [.sl .int (decsV w),.bool (w.all decB)],[])
 | _,_=>none⟩

theorem Fr.below {w w' : World} (h : RowKit.Below w.heap.size w w') : Fr w w' (fun _=>False):=⟨h.os,h.tape,h.output,h.size,fun b hb _=>h.block b hb⟩
theorem Q5oj (w : World) (e : TypeId) (s : ByteArray) : Fr w (Lib.bytesWorld w e s) (fun _=>False):=by
 refine ⟨?_, ?_, ?_,by rw [Lib.bytesWorld_size]; omega,fun b hb _=>Lib.bytesWorld_at_old w e s b hb⟩ <;> (unfold Lib.bytesWorld World.freeze; split <;> rfl)

theorem Qess (s : Str) (hg : (decide (s.length ≤ 18) && (Lib.atoi s).isSome) = true) : Qewq Tryz.prog CP Q6ji [.str s] [] (.tup [.int .i64 ((Lib.atoi s).getD 0),.dead]) []:=by
 simp only [Bool.and_eq_true,decide_eq_true_eq] at hg
 obtain ⟨hl,hs⟩:=hg
 obtain ⟨n,hn⟩:=Option.isSome_iff_exists.1 hs
 refine Qewq.quiet CP_ok fun w N vs hsz hrep=>?_
 obtain ⟨sb,h0,hsb⟩:=Qfrf hrep hsz (j:=0) rfl
 rw [arr1 hsz h0]
 refine Calls.mono (Tryz.strconv_Atoi sb n (by rw [Lib.size_eq,hsb]; exact hl) (by rw [hsb]; exact hn) w) ?_
 rintro e w' ⟨rfl,t,rfl⟩
 refine ⟨_,rfl,Q5oj w _ _,fun N' _ _=>?_⟩
 rw [hn]
 refine .tup _ _ rfl fun j v c hv hc=>?_
 match j with
 | 0=>simp at hv hc; subst hv; subst hc; exact .int _ _
 | 1=>simp at hv hc; subst hc; exact .dead _
 | j + 2=>simp at hv
theorem Qabz : EntOK Tryz.prog CP Q6ji Qrl7:=by
 refine ⟨⟨Tryz.f186,by kernel_rfl,by kernel_rfl,by kernel_rfl⟩,fun args H res H' h=>?_⟩
 simp only [Qrl7] at h
 split at h
 ·simp only [Option.some.injEq,Prod.mk.injEq] at h
  obtain ⟨hg,rfl,rfl⟩:=h
  exact Qess _ hg
 ·cases h
end Lx
namespace Lx
open Go Go.Proofs
theorem Qtm3 (w : World) : (zeroValue 267).run Tryz.prog w = .ok (.agg (Array.replicate 256 (.bool false))) w:=by
 have h : (Tryz.prog.info? 267).bind (·.zero) = some (.agg (Array.replicate 256 (.bool false))):=by kernel_rfl
 cases hi : Tryz.prog.info? 267 with
 | none=>rw [hi] at h; cases h
 | some i=>rw [hi] at h; exact Q4lz hi h w
theorem Qr77 (s d : Str) (hg : (decide (d = Qy27) && (decide (0 < s.length) && szS s)) = true) : Qewq Tryz.prog CP Q409 [.str s,.str d] [] (.str (Lib.trimS s Qy27)) []:=by
 simp only [Bool.and_eq_true,decide_eq_true_eq,szS] at hg
 obtain ⟨rfl,hl,hs⟩:=hg
 refine Qewq.quiet CP_ok fun w N vs hsz hrep=>?_
 obtain ⟨sb,h0,hsb⟩:=Qfrf hrep hsz (j:=0) rfl
 obtain ⟨cb,h1,hcb⟩:=Qfrf hrep hsz (j:=1) rfl
 rw [arr2 hsz h0 h1]
 have hz : sb.size = s.length:=by rw [Lib.size_eq,hsb]
 have hc : cb.size = 10:=by rw [Lib.size_eq,hcb]; rfl
 refine Calls.mono (Any.strings_Trim_set Tryz.lays160 Qtm3 (by kernel_rfl) sb cb w (by omega) (by omega) (by omega) (by omega) (fun j b hb=>by
  rw [hcb] at hb
  have hm : Qy27.contains b = true:=by simpa using List.mem_of_getElem? hb
  rw [Q6yr] at hm
  simp only [isDig,Bool.and_eq_true,decide_eq_true_eq] at hm
  omega)) ?_
 rintro e w' ⟨rfl,q,rfl⟩
 have f1:=Fr.alloc w (.cells (Lib.setCells cb.data.toList) 267)
 have f2:=Fr.alloc (w.alloc (.cells (Lib.setCells cb.data.toList) 267)) (.cells (Lib.setCells cb.data.toList) 267)
 have f3:=f1.trans' f2
 refine ⟨_,rfl,⟨f3.os,f3.tape,f3.output,f3.size,f3.block⟩,fun N' _ _=>.str _ _ (by rw [hsb,hcb])⟩
theorem Qgq4 : EntOK Tryz.prog CP Q409 Q028:=by
 refine ⟨⟨Tryz.f185,by kernel_rfl,by kernel_rfl,by kernel_rfl⟩,fun args H res H' h=>?_⟩
 simp only [Q028] at h
 split at h
 ·simp only [Option.some.injEq,Prod.mk.injEq] at h
  obtain ⟨hg,rfl,rfl⟩:=h
  exact Qr77 _ _ hg
 ·cases h
end Lx
namespace Lx
open Go Go.Proofs
noncomputable def Qhnv : RE Ty El:=⟨Tryz.prog,CP,[(Q409,Q028),(Q6ji,Qrl7)],Tryz.f104,0,[],[]⟩
theorem Qmyy : REOK Qhnv Q8l1:=⟨CP_ok,(TabOK.cons Qgq4 (TabOK.cons Qabz Qye1)),by kernel_rfl,by kernel_rfl⟩
theorem Qqay (s : Str) (m : Int) : aRun Qhnv 600 false (body0 Qhnv.fn) (Q4gm Qhnv.fn [.str s,.int .i64 m] []) =
 ifb (s == #[].toList) (some (.ret (.tup [.int .i64 (0 : Int),.bool false]) [])) (ifb (decide ((↑(List.length s) : Int) > m)) (some (.ret (.tup [.int .i64 (0 : Int),.bool false]) [])) (ifb (decide (#[(48 : UInt8),(49 : UInt8),(50 : UInt8),(51 : UInt8),(52 : UInt8),(53 : UInt8),(54 : UInt8),(55 : UInt8),(56 : UInt8),(57 : UInt8)].toList = Qy27) && (decide ((0 : Nat) < List.length s) && szS s)) (ifb (!Lib.trimS s Qy27 == #[].toList) (some (.ret (.tup [.int .i64 (0 : Int),.bool false]) [])) (ifb (inb (0 : Int) (List.length s)) (ifb ((↑(List.getD s (Int.toNat (0 : Int)) (0 : UInt8)).toNat : Int) == (48 : Int)) (ifb (!s == #[(48 : UInt8)].toList) (some (.ret (.tup [.int .i64 (0 : Int),.bool false]) [])) (ifb (decide (List.length s ≤ (18 : Nat)) && (Lib.atoi s).isSome) (some (.ret (.tup [.int .i64 ((Lib.atoi s).getD (0 : Int)),.bool true]) [])) (none))) (ifb (decide (List.length s ≤ (18 : Nat)) && (Lib.atoi s).isSome) (some (.ret (.tup [.int .i64 ((Lib.atoi s).getD (0 : Int)),.bool true]) [])) (none))) (none))) (none))):=by kernel_rfl
theorem Qxag (s : Str) (m : Int) (hg : decide (m = 7) = true) : Qewq Tryz.prog CP Q8l1 [.str s,.int .i64 m] [] (.tup [.int .i64 (decV s),.bool (decB s)]) []:=by
 refine Qewq.of Qmyy (by kernel_rfl) (Qqay s m) ?_
 have hm : m = 7:=of_decide_eq_true hg
 subst hm
 have no : numF s = -1 → Sat Qhnv Q8l1 (.tup [.int .i64 (decV s),.bool (decB s)]) [] (some (.ret (.tup [.int .i64 (0 : Int),.bool false]) [])):=fun h=>by
  refine Sat.ret ?_ rfl
  simp [decV,decB,h]
  decide
 have hdig : decide (#[(48 : UInt8),49,50,51,52,53,54,55,56,57].toList = Qy27) = true:=rfl
 rw [hdig]
 by_cases h0 : s = []
 ·subst h0
  exact no rfl
 ·have hl0 : 0 < s.length:=List.length_pos_iff.2 h0
  have e0 : (s == #[].toList) = false:=by simpa using h0
  rw [e0]
  simp only [Qk7y]
  by_cases h7 : s.length ≤ 7
  ·have hz : szS s = true:=decide_eq_true (by omega)
   rw [decide_eq_false (by omega),decide_eq_true hl0,hz,Qm0m]
   simp only [Qk7y,Bool.and_self,Qd8q]
   cases hd : s.all isDig with
   | false =>
    refine no ?_
    unfold numF
    by_cases hc : 1 ≤ s.length ∧ s.length ≤ 7 ∧ ¬ (1 < s.length ∧ ((s.getD 0 0).toNat : Int) = 48)
    ·rw [if_pos hc,Qz12 hd]
    ·rw [if_neg hc]
   | true =>
    have hat:=Qf1l hl0 hd
    have hg0:=Qk3r hd
    have hin : inb (0 : Int) s.length = true:=by simp only [inb,Bool.and_eq_true,decide_eq_true_eq]; omega
    have h18 : (decide (s.length ≤ 18) && (Lib.atoi s).isSome) = true:=by rw [hat,decide_eq_true (by omega)]; rfl
    have yes : ¬ (1 < s.length ∧ ((s.getD 0 0).toNat : Int) = 48) → Sat Qhnv Q8l1 (.tup [.int .i64 (decV s),.bool (decB s)]) [] (some (.ret (.tup [.int .i64 ((Lib.atoi s).getD (0 : Int)),.bool true]) [])):=fun h=>by
     have hn : numF s = numGo 0 s:=by unfold numF; rw [if_pos ⟨hl0,h7,h⟩]
     refine Sat.ret ?_ rfl
     rw [hat]
     have e1 : decV s = numGo 0 s:=by unfold decV; rw [hn]; omega
     have e2 : decB s = true:=by unfold decB; rw [hn]; exact decide_eq_true hg0
     rw [e1,e2]; rfl
    rw [hin,h18]
    simp only [Bool.not_true,Qk7y,Qd8q]
    have ez : s.getD (Int.toNat 0) 0 = s.getD 0 0:=rfl
    rw [ez]
    by_cases hz0 : ((s.getD 0 0).toNat : Int) = 48
    ·rw [hz0]
     simp only [beq_self_eq_true,Qd8q]
     by_cases h1 : 1 < s.length
     ·have hne : (s == #[(48 : UInt8)].toList) = false:=by
       apply beq_eq_false_iff_ne.2
       intro e
       rw [e] at h1; simp at h1
      rw [hne]
      refine no ?_
      unfold numF
      rw [if_neg (fun hc=>hc.2.2 ⟨h1,hz0⟩)]
     ·have hne : (s == #[(48 : UInt8)].toList) = true:=by
       cases s with
       | nil=>simp at hl0
       | cons b t =>
        have ht : t = []:=List.eq_nil_of_length_eq_zero (by simp only [List.length_cons] at h1; omega)
        subst ht
        have : b = 48:=UInt8.toNat_inj.1 (by have : ((b.toNat : Nat) : Int) = 48:=hz0; show b.toNat = 48; omega)
        subst this; rfl
      rw [hne]
      exact yes (fun hc=>h1 hc.1)
    ·rw [beq_eq_false_iff_ne.2 hz0]
     exact yes (fun hc=>hz0 hc.2)
  ·rw [decide_eq_true (by omega)]
   refine no ?_
   unfold numF
   rw [if_neg (by omega)]
theorem Qbi7 : EntOK Tryz.prog CP Q8l1 Q18u:=by
 refine ⟨⟨Tryz.f104,by kernel_rfl,by kernel_rfl,by kernel_rfl⟩,fun args H res H' h=>?_⟩
 simp only [Q18u] at h
 split at h
 ·simp only [Option.some.injEq,Prod.mk.injEq] at h
  obtain ⟨hg,rfl,rfl⟩:=h
  exact Qxag _ _ hg
 ·cases h

noncomputable def Qhfx : RE Ty El:=⟨Tryz.prog,CP,[(Q8l1,Q18u)],Tryz.f167,0,[.ro .int,.any],[(3,[(1,.any),(6,.any),(11,.any),(12,.any),(13,.any)])]⟩
theorem Qker : REOK Qhfx Q0gt:=⟨CP_ok,(TabOK.cons Qbi7 Qye1),by kernel_rfl,by kernel_rfl⟩
theorem Qu7l (w : List Str) (m : Int) : aRun Qhfx 600 false (body0 Qhfx.fn) (Q4gm Qhfx.fn [.sl .str w,.int .i64 m] []) =
 some (.go (Qu6t Qhfx.fn 3) [.int .i64 m,.own 0 [] 0,.sl .str w,.int .i64 (↑w.length : Int),.int .i64 (0 : Int)] [.row .int [] 0 0 0 .no]):=by kernel_rfl
theorem Qfs1 (x0 : Int) (x1 : List (El .str)) (x2 : Int) (x3 : Int) (x4 : List (El .int)) : aRun Qhfx 600 true (Qu6t Qhfx.fn 3) (cutSt Qhfx.fn (Q1m4 Qhfx (Qu6t Qhfx.fn 3)) [.int .i64 x0,.own 0 [] 0,.sl .str x1,.int .i64 x2,.int .i64 x3] [.row .int x4 0 0 0 .no]) =
 ifb (decide (x3 < x2)) (ifb (inb x3 x1.length) (ifb (decide (x0 = (7 : Int))) (ifb (!decB (x1.getD x3.toNat (Qhfx.C.dflt Ty.str))) (some (.ret (.tup [.sl .int [],.bool false]) [])) (ifb (decide ((x4.length + [decV (x1.getD x3.toNat (Qhfx.C.dflt Ty.str))].length) * Qbhn Qhfx.P (3 : Nat) ≤ (140737488355328 : Nat))) (some (.go (Qu6t Qhfx.fn 3) [.int .i64 x0,.own 0 [] 0,.sl .str x1,.int .i64 x2,.int .i64 (IntKind.i64.wrap (x3 + (1 : Int)))] [.row .int (x4 ++ [decV (x1.getD x3.toNat (Qhfx.C.dflt Ty.str))]) 0 0 0 .no])) (none))) (none)) (none)) (some (.ret (.tup [.sl .int x4,.bool true]) [])):=by kernel_rfl
theorem Qjoa (w : List Str) (hw : w.length ≤ 2000000000) : ∀ (d i : Nat),i + d = w.length → (w.take i).all decB = true → Cut Qhfx Q0gt 3 [.int .i64 7,.own 0 [] 0,.sl .str w,.int .i64 (w.length : Int),.int .i64 (i : Int)] [.row .int ((w.take i).map decV) 0 0 0 .no] (.tup [.sl .int (decsV w),.bool (w.all decB)]) []:=by
 intro d
 have hb : Qbhn Qhfx.P 3 = 8:=by kernel_rfl
 induction d with
 | zero =>
  intro i hi ha
  refine Cut.of Qker rfl (Qfs1 7 w w.length i _) ?_
  rw [decide_eq_false (by omega)]
  have : w.take i = w:=List.take_of_length_le (by omega)
  rw [this] at ha ⊢
  refine Sat.ret ?_ rfl
  unfold decsV
  rw [if_pos ha,ha]
 | succ d ih =>
  intro i hi ha
  refine Cut.of Qker rfl (Qfs1 7 w w.length i _) ?_
  have hlt : i < w.length:=by omega
  have hwr : IntKind.wrap .i64 ((i : Int) + 1) = ((i + 1 : Nat) : Int):=by rw [Qbrg] <;> omega
  have hx : w.getD (i : Int).toNat (Qhfx.C.dflt .str) = w[i]:=by simp [hlt]
  have hin : inb (i : Int) w.length = true:=by simp only [inb,Bool.and_eq_true,decide_eq_true_eq]; omega
  have htk:=List.take_succ_eq_append_getElem hlt
  have hroom : decide ((((w.take i).map decV).length + [decV w[i]].length) * 8 ≤ 140737488355328) = true:=decide_eq_true (by simp; omega)
  rw [decide_eq_true (by omega),hin,hx,hwr,hb,hroom,show decide ((7 : Int) = 7) = true from rfl]
  simp only [Qd8q]
  cases hd : decB w[i] with
  | false =>
   have : w.all decB = false:=by
    apply Bool.eq_false_iff.2
    intro h
    have:=List.all_eq_true.1 h w[i] (List.getElem_mem hlt)
    rw [hd] at this; cases this
   refine Sat.ret ?_ rfl
   unfold decsV
   rw [this]; rfl
  | true =>
   have:=ih (i + 1) (by omega) (by rw [htk,List.all_append,ha]; simp [hd])
   rw [htk,List.map_append] at this
   exact Sat.cut this
theorem Qlk2 (w : List Str) (m : Int) (hg : (decide (m = 7) && decide (w.length ≤ 2000000000)) = true) : Qewq Tryz.prog CP Q0gt [.sl .str w,.int .i64 m] [] (.tup [.sl .int (decsV w),.bool (w.all decB)]) []:=by
 refine Qewq.of Qker (by kernel_rfl) (Qu7l w m) ?_
 simp only [Bool.and_eq_true,decide_eq_true_eq] at hg
 obtain ⟨rfl,hw⟩:=hg
 exact Sat.cut (Qjoa w hw w.length 0 (by omega) rfl)
theorem Q6fz : EntOK Tryz.prog CP Q0gt Qroy:=by
 refine ⟨⟨Tryz.f167,by kernel_rfl,by kernel_rfl,by kernel_rfl⟩,fun args H res H' h=>?_⟩
 simp only [Qroy] at h
 split at h
 ·simp only [Option.some.injEq,Prod.mk.injEq] at h
  obtain ⟨hg,rfl,rfl⟩:=h
  exact Qlk2 _ _ hg
 ·cases h
end Lx
namespace Lx
open Go Go.Proofs
def ptOf (ps : List Point) (n : Str) : Point:=ps.getD (Qigq ps n).toNat (dfltP .point)
def Q51t (ps : List Point) (w : List Str) : List Point:=if Qyhl ps w then w.map (ptOf ps) else []
def Qbsc : Ent Ty El:=⟨[.ro,.ro],0,fun a h=>match a,h with
 | [.agg [.sl .kind ks,.sl .point ps],.sl .str w],[]=>some (decide (ps.length < 1000000000),.tup [.sl .point (Q51t ps w),.bool (Qyhl ps w)],[])
 | _,_=>none⟩
def Qmiz : Ent Ty El:=⟨[.ro,.ro,.ro],0,fun a h=>match a,h with
 | [.agg [.sl .kind ks,.sl .point ps],.int .i64 what,.str v],[]=>some (szV v && (decide (ks.length < 1000000000) && decide (ps.length < 1000000000)),.bool (fitsV ks ps what v),[])
 | _,_=>none⟩
def Qna9 : Ent Ty El:=⟨[.ro,.ro],0,fun a h=>match a,h with
 | [.agg [.sl .kind ks,.sl .point ps],.agg [.str fl,.int .i64 what,.int .i64 num,.str v]],[]=>some (szV v && (decide (ks.length < 1000000000) && decide (ps.length < 1000000000)),.bool (Qh2h ks ps fl what num v),[])
 | _,_=>none⟩
def Qjv4 : Ent Ty El:=Q124
theorem Qtox (c : Int) : ∀ s : Str,(cutS c s).length ≤ s.length + 1
 | []=>by simp [cutS]
 | b :: s=>by
  have:=Qtox c s
  simp only [cutS]
  split
  ·simp; omega
  ·split
   ·simp
   ·rename_i w ws h
    rw [h] at this
    simp at this ⊢; omega
theorem Qrzz {ks : List Kind} {ps : List Point} (h : Qib4 ks ps = true) : ks.length ≤ 6 ∧ ps.length ≤ 16:=by
 simp only [Qib4,Bool.and_eq_true,decide_eq_true_eq] at h
 exact ⟨h.1,h.2.1⟩
theorem Qxkm {ks : List Kind} {ps : List Point} {n : Str} {prev : Option Int} {f : Fld} {fs : List Fld} : Qt03 ks ps n prev (f :: fs) = (Qh2h ks ps n f.what f.number f.value && ((match prev with | none=>true | some q=>decide (q < f.what)) && Qt03 ks ps n (some f.what) fs)):=by cases prev <;> rfl
theorem Qvuh {ks : List Kind} {ps : List Point} {e : Entry} (h : ¬ e.fields.length = 0) : Q7i7 ks ps e = Qt03 ks ps e.name none e.fields:=by
 unfold Q7i7
 rw [decide_eq_false h]
 cases hf : e.fields with
 | nil=>rw [hf] at h; simp at h
 | cons f fs =>
  simp only [Qt03,Qh2h,Bool.not_false,Bool.true_and]
  cases Q2rq e.name <;> simp
end Lx
namespace Lx
open Go Go.Proofs
noncomputable def Qe0d : RE Ty El:=⟨Tryz.prog,CP,[(Qn2h,Q0vx),(Q8ie,Q4q8)],Tryz.f121,0,[.ro .point,.any],[(5,[(1,.any),(2,.any),(6,.any),(14,.any),(15,.any),(16,.any)])]⟩
theorem Qtsk : REOK Qe0d Qwtz:=⟨CP_ok,(TabOK.cons Qfgu (TabOK.cons Q5yh Qye1)),by kernel_rfl,by kernel_rfl⟩
theorem Qwrn (ks : List Kind) (ps : List Point) (w : List Str) : aRun Qe0d 600 false (body0 Qe0d.fn) (Q4gm Qe0d.fn [.agg [.sl .kind ks,.sl .point ps],.sl .str w] []) =
 ifb (!inR (↑w.length : Int) (2 : Int) (8 : Int)) (some (.ret (.tup [.sl .point [],.bool false]) [])) (some (.go (Qu6t Qe0d.fn 5) [.sl .str w,.ptr 0 0,.own 1 [] 0,.sl .str w,.int .i64 (↑w.length : Int),.int .i64 (0 : Int)] [.box [.sl .kind ks,.sl .point ps],.row .point [] 0 0 0 .no])):=by kernel_rfl
theorem Qpoy (x0 : List (El .str)) (x1 : List (El .str)) (x2 : Int) (x3 : Int) (x4 : List (El .kind)) (x5 : List (El .point)) (x6 : List (El .point)) : aRun Qe0d 600 true (Qu6t Qe0d.fn 5) (cutSt Qe0d.fn (Q1m4 Qe0d (Qu6t Qe0d.fn 5)) [.sl .str x0,.ptr 0 0,.own 1 [] 0,.sl .str x1,.int .i64 x2,.int .i64 x3] [.box [.sl .kind x4,.sl .point x5],.row .point x6 0 0 0 .no]) =
 ifb (decide (x3 < x2)) (ifb (inb x3 x1.length) (ifb (decide (x5.length < (1000000000 : Nat))) (ifb (decide (idxF (fun p=>p.name == x1.getD x3.toNat (Qe0d.C.dflt Ty.str)) x5 < (0 : Int))) (some (.ret (.tup [.sl .point [],.bool false]) [])) (ifb (decide (x3 > (0 : Int))) (ifb (inb (IntKind.i64.wrap (x3 - (1 : Int))) x0.length) (ifb (x1.getD x3.toNat (Qe0d.C.dflt Ty.str) == x0.getD (IntKind.i64.wrap (x3 - (1 : Int))).toNat (Qe0d.C.dflt Ty.str)) (some (.ret (.tup [.sl .point [],.bool false]) [])) (ifb (inb (idxF (fun p=>p.name == x1.getD x3.toNat (Qe0d.C.dflt Ty.str)) x5) x5.length) (ifb (decide ((x6.length + [x5.getD (idxF (fun p=>p.name == x1.getD x3.toNat (Qe0d.C.dflt Ty.str)) x5).toNat (Qe0d.C.dflt Ty.point)].length) * Qbhn Qe0d.P (160 : Nat) ≤ (140737488355328 : Nat))) (some (.go (Qu6t Qe0d.fn 5) [.sl .str x0,.ptr 0 0,.own 1 [] 0,.sl .str x1,.int .i64 x2,.int .i64 (IntKind.i64.wrap (x3 + (1 : Int)))] [.box [.sl .kind x4,.sl .point x5],.row .point (x6 ++ [x5.getD (idxF (fun p=>p.name == x1.getD x3.toNat (Qe0d.C.dflt Ty.str)) x5).toNat (Qe0d.C.dflt Ty.point)]) 0 0 0 .no])) (none)) (none))) (none)) (ifb (inb (idxF (fun p=>p.name == x1.getD x3.toNat (Qe0d.C.dflt Ty.str)) x5) x5.length) (ifb (decide ((x6.length + [x5.getD (idxF (fun p=>p.name == x1.getD x3.toNat (Qe0d.C.dflt Ty.str)) x5).toNat (Qe0d.C.dflt Ty.point)].length) * Qbhn Qe0d.P (160 : Nat) ≤ (140737488355328 : Nat))) (some (.go (Qu6t Qe0d.fn 5) [.sl .str x0,.ptr 0 0,.own 1 [] 0,.sl .str x1,.int .i64 x2,.int .i64 (IntKind.i64.wrap (x3 + (1 : Int)))] [.box [.sl .kind x4,.sl .point x5],.row .point (x6 ++ [x5.getD (idxF (fun p=>p.name == x1.getD x3.toNat (Qe0d.C.dflt Ty.str)) x5).toNat (Qe0d.C.dflt Ty.point)]) 0 0 0 .no])) (none)) (none)))) (none)) (none)) (some (.ret (.tup [.sl .point x6,.bool true]) [])):=by kernel_rfl
theorem Qf4k (ks : List Kind) (ps : List Point) (w : List Str) (hps : ps.length < 1000000000) (hw8 : inR w.length 2 8 = true) : ∀ (d i : Nat),i + d = w.length → Qyhl ps w = Qyf3 ps (w.take i).getLast? (w.drop i) →
  Cut Qe0d Qwtz 5 [.sl .str w,.ptr 0 0,.own 1 [] 0,.sl .str w,.int .i64 (w.length : Int),.int .i64 (i : Int)] [.box [.sl .kind ks,.sl .point ps],.row .point ((w.take i).map (ptOf ps)) 0 0 0 .no] (.tup [.sl .point (Q51t ps w),.bool (Qyhl ps w)]) []:=by
 intro d
 have hb : Qbhn Qe0d.P 160 = 32:=by kernel_rfl
 have hw9 : w.length ≤ 8:=by simp only [inR,Bool.and_eq_true,decide_eq_true_eq] at hw8; omega
 induction d with
 | zero =>
  intro i hi hr
  refine Cut.of Qtsk rfl (Qpoy w w w.length i ks ps _) ?_
  rw [decide_eq_false (by omega)]
  have e : w.take i = w:=List.take_of_length_le (by omega)
  rw [List.drop_of_length_le (by omega)] at hr
  have hr' : Qyhl ps w = true:=hr
  refine Sat.ret ?_ rfl
  rw [e,Q51t,if_pos hr',hr']
 | succ d ih =>
  intro i hi hr
  refine Cut.of Qtsk rfl (Qpoy w w w.length i ks ps _) ?_
  have hlt : i < w.length:=by omega
  have hw : IntKind.wrap .i64 ((i : Int) + 1) = ((i + 1 : Nat) : Int):=by rw [Qbrg] <;> omega
  have hw1 : IntKind.wrap .i64 ((i : Int) - 1) = (i : Int) - 1:=by rw [Qbrg] <;> omega
  have hd : w.drop i = w[i] :: w.drop (i + 1):=List.drop_eq_getElem_cons hlt
  have hx : w.getD (i : Int).toNat (Qe0d.C.dflt .str) = w[i]:=by simp [hlt]
  have hin : inb (i : Int) w.length = true:=by simp only [inb,Bool.and_eq_true,decide_eq_true_eq]; omega
  have hlo : decide ((i : Int) < (w.length : Int)) = true:=decide_eq_true (by omega)
  have htk:=List.take_succ_eq_append_getElem hlt
  have hl : (w.take (i + 1)).getLast? = some w[i]:=by rw [List.take_succ_eq_append_getElem hlt,List.getLast?_concat]
  have no : Qyhl ps w = false → Sat Qe0d Qwtz (.tup [.sl .point (Q51t ps w),.bool (Qyhl ps w)]) [] (some (.ret (.tup [.sl .point [],.bool false]) [])):=fun h=>by
   refine Sat.ret ?_ rfl
   rw [Q51t,h]; rfl
  have hroom : decide ((((w.take i).map (ptOf ps)).length + [ps.getD (idxF (fun p=>p.name == w[i]) ps).toNat (Qe0d.C.dflt .point)].length) * 32 ≤ 140737488355328) = true:=decide_eq_true (by simp; omega)
  rw [hlo,hin,hx,hw,hw1,hb,hroom,decide_eq_true hps]
  simp only [Qd8q]
  rw [hd,Qyf3] at hr
  have hpi : idxF (fun p=>p.name == w[i]) ps = Qigq ps w[i]:=rfl
  rw [hpi]
  by_cases hp0 : Qigq ps w[i] < 0
  ·rw [decide_eq_true hp0]
   rw [decide_eq_true hp0] at hr
   exact no (by rw [hr]; rfl)
  ·rw [decide_eq_false hp0]
   rw [decide_eq_false hp0] at hr
   have hlt2:=Q1mf (p:=fun q : Point=>q.name == w[i]) (l:=ps)
   have hinp : inb (Qigq ps w[i]) ps.length = true:=by
    simp only [inb,Bool.and_eq_true,decide_eq_true_eq]
    have : Qigq ps w[i] = idxF (fun q : Point=>q.name == w[i]) ps:=rfl
    omega
   rw [hinp]
   simp only [Qk7y,Qd8q]
   simp only [Bool.not_false,Bool.true_and] at hr
   have go : (w.take i).getLast? ≠ some w[i] → Sat Qe0d Qwtz (.tup [.sl .point (Q51t ps w),.bool (Qyhl ps w)]) [] (some (.go (Qu6t Qe0d.fn 5) [.sl .str w,.ptr 0 0,.own 1 [] 0,.sl .str w,.int .i64 (w.length : Int),.int .i64 ((i + 1 : Nat) : Int)] [.box [.sl .kind ks,.sl .point ps],.row .point ((w.take i).map (ptOf ps) ++ [ps.getD (Qigq ps w[i]).toNat (Qe0d.C.dflt .point)]) 0 0 0 .no])):=fun h=>by
    have hne : ((w.take i).getLast? == some w[i]) = false:=beq_eq_false_iff_ne.2 h
    rw [hne] at hr
    have:=ih (i + 1) (by omega) (by rw [hl]; exact hr)
    rw [htk,List.map_append] at this
    exact Sat.cut this
   by_cases h0 : (i : Int) > 0
   ·rw [decide_eq_true h0]
    have hi1 : i - 1 < w.length:=by omega
    have hx1 : w.getD ((i : Int) - 1).toNat (Qe0d.C.dflt .str) = w[i - 1]:=by
     rw [show ((i : Int) - 1).toNat = i - 1 by omega]; simp [hi1]
    have hl1 : (w.take i).getLast? = some w[i - 1]:=by
     have:=List.take_succ_eq_append_getElem hi1
     rw [show i - 1 + 1 = i by omega] at this
     rw [this,List.getLast?_concat]
    have hin1 : inb ((i : Int) - 1) w.length = true:=by simp only [inb,Bool.and_eq_true,decide_eq_true_eq]; omega
    rw [hin1,hx1]
    simp only [Qd8q]
    rw [hl1] at hr go
    by_cases he : w[i] = w[i - 1]
    ·rw [beq_iff_eq.2 he]
     have : ((some w[i - 1] : Option Str) == some w[i]) = true:=by rw [he]; simp
     rw [this] at hr
     exact no (by rw [hr]; rfl)
    ·rw [beq_eq_false_iff_ne.2 he]
     exact go (fun e=>he (Option.some.inj e).symm)
   ·rw [decide_eq_false h0]
    have : i = 0:=by omega
    subst this
    exact go (by simp)
theorem Qpn1 (ks : List Kind) (ps : List Point) (w : List Str) (hg : decide (ps.length < 1000000000) = true) : Qewq Tryz.prog CP Qwtz [.agg [.sl .kind ks,.sl .point ps],.sl .str w] [] (.tup [.sl .point (Q51t ps w),.bool (Qyhl ps w)]) []:=by
 refine Qewq.of Qtsk (by kernel_rfl) (Qwrn ks ps w) ?_
 cases h8 : inR (w.length : Int) 2 8 with
 | false =>
  refine Sat.ret ?_ rfl
  rw [Q51t,Qyhl,h8]; rfl
 | true =>
  have:=Qf4k ks ps w (of_decide_eq_true hg) h8 w.length 0 (by omega) (by rw [Qyhl,h8]; rfl)
  exact Sat.cut this
theorem Q09u : EntOK Tryz.prog CP Qwtz Qbsc:=by
 refine ⟨⟨Tryz.f121,by kernel_rfl,by kernel_rfl,by kernel_rfl⟩,fun args H res H' h=>?_⟩
 simp only [Qbsc] at h
 split at h
 ·simp only [Option.some.injEq,Prod.mk.injEq] at h
  obtain ⟨hg,rfl,rfl⟩:=h
  exact Qpn1 _ _ _ hg
 ·cases h

noncomputable def Qdvz : RE Ty El:=⟨Tryz.prog,CP,[(Qryc,Q123),(Q5ff,Qo07),(Q0gt,Qroy),(Q8l1,Q18u),(Qn2h,Q0vx),(Qwtz,Qbsc)],Tryz.f172,0,[],[]⟩
theorem Qpl8 : REOK Qdvz Qvlr:=⟨CP_ok,(TabOK.cons Qne7 (TabOK.cons Q8iz (TabOK.cons Q6fz (TabOK.cons Qbi7 (TabOK.cons Qfgu (TabOK.cons Q09u Qye1)))))),by kernel_rfl,by kernel_rfl⟩
theorem Ql56 (ks : List Kind) (ps : List Point) (what : Int) (v : Str) : aRun Qdvz 600 false (body0 Qdvz.fn) (Q4gm Qdvz.fn [.agg [.sl .kind ks,.sl .point ps],.int .i64 what,.str v] []) =
 ifb (szS v) (ifb (what == (1 : Int)) (ifb (decide (ks.length < (1000000000 : Nat))) (some (.ret (.bool (decide (idxF (fun p=>p.name == v) ks ≥ (0 : Int)))) [])) (none)) (ifb (what == (2 : Int)) (ifb (decide ((7 : Int) = (7 : Int)) && decide ((cutS (↑(UInt8.toNat (32 : UInt8)) : Int) v).length ≤ (2000000000 : Nat))) (ifb ((cutS (↑(UInt8.toNat (32 : UInt8)) : Int) v).all decB) (ifb ((↑(decsV (cutS (↑(UInt8.toNat (32 : UInt8)) : Int) v)).length : Int) == (2 : Int)) (ifb (inb (0 : Int) (decsV (cutS (↑(UInt8.toNat (32 : UInt8)) : Int) v)).length) (ifb (inb (1 : Int) (decsV (cutS (↑(UInt8.toNat (32 : UInt8)) : Int) v)).length) (ifb (decide ((decsV (cutS (↑(UInt8.toNat (32 : UInt8)) : Int) v)).getD (Int.toNat (0 : Int)) (Qdvz.C.dflt Ty.int) ≤ (decsV (cutS (↑(UInt8.toNat (32 : UInt8)) : Int) v)).getD (Int.toNat (1 : Int)) (Qdvz.C.dflt Ty.int))) (ifb (inb (1 : Int) (decsV (cutS (↑(UInt8.toNat (32 : UInt8)) : Int) v)).length) (some (.ret (.bool (decide ((decsV (cutS (↑(UInt8.toNat (32 : UInt8)) : Int) v)).getD (Int.toNat (1 : Int)) (Qdvz.C.dflt Ty.int) ≤ (10000 : Int)))) [])) (none)) (some (.ret (.bool false) []))) (none)) (none)) (some (.ret (.bool false) []))) (some (.ret (.bool false) []))) (none)) (ifb (what == (3 : Int)) (ifb (decB v) (some (.ret (.bool (inR (decV v) (1 : Int) (6 : Int))) [])) (some (.ret (.bool false) []))) (ifb (what == (4 : Int)) (ifb (decide (ps.length < (1000000000 : Nat))) (some (.ret (.bool (Qyhl ps (cutS (↑(UInt8.toNat (32 : UInt8)) : Int) v))) [])) (none)) (ifb (what == (5 : Int)) (ifb (v == #[(111 : UInt8),(112 : UInt8),(101 : UInt8),(110 : UInt8)].toList) (some (.ret (.bool true) [])) (some (.ret (.bool (v == #[(99 : UInt8),(108 : UInt8),(111 : UInt8),(115 : UInt8),(101 : UInt8),(100 : UInt8)].toList)) []))) (some (.ret (.bool false) []))))))) (none):=by kernel_rfl
theorem Qi63 {R : RE Ty El} {f : FuncId} (w : List Str) : Sat R f (.bool (Q2es w)) [] (ifb ((decide ((7 : Int) = (7 : Int)) && true)) (ifb (w.all decB) (ifb ((↑(decsV w).length : Int) == (2 : Int)) (ifb (inb (0 : Int) (decsV w).length) (ifb (inb (1 : Int) (decsV w).length) (ifb (decide ((decsV w).getD (Int.toNat (0 : Int)) (CP.dflt Ty.int) ≤ (decsV w).getD (Int.toNat (1 : Int)) (CP.dflt Ty.int))) (ifb (inb (1 : Int) (decsV w).length) (some (.ret (.bool (decide ((decsV w).getD (Int.toNat (1 : Int)) (CP.dflt Ty.int) ≤ (10000 : Int)))) [])) (none)) (some (.ret (.bool false) []))) (none)) (none)) (some (.ret (.bool false) []))) (some (.ret (.bool false) []))) (none)):=by
 rw [show decide ((7 : Int) = 7) = true from rfl]
 simp only [Bool.and_self,Qd8q]
 cases ha : w.all decB with
 | false =>
  refine Sat.retB ?_ rfl
  match w with
  | []=>rfl
  | [a]=>rfl
  | [a,b] =>
   simp only [Q2es]
   simp only [List.all_cons,List.all_nil,Bool.and_true,decB] at ha
   by_cases h1 : 0 ≤ numF a
   ·rw [decide_eq_true h1] at ha ⊢
    have h2 : ¬ 0 ≤ numF b:=of_decide_eq_false (by simpa using ha)
    have : inR (numF b) (numF a) 10000 = false:=by unfold inR; rw [decide_eq_false (by omega)]; rfl
    rw [this]; rfl
   ·rw [decide_eq_false h1]; rfl
  | a :: b :: c :: t=>rfl
 | true =>
  have hd : decsV w = w.map decV:=by unfold decsV; rw [if_pos ha]
  rw [hd]
  match w with
  | []=>exact Sat.retB rfl rfl
  | [a]=>exact Sat.retB rfl rfl
  | [a,b] =>
   simp only [List.all_cons,List.all_nil,Bool.and_true,Bool.and_eq_true,decB,decide_eq_true_eq] at ha
   have e1 : decV a = numF a:=by unfold decV; omega
   have e2 : decV b = numF b:=by unfold decV; omega
   show Sat R f _ _ (ifb (decide (decV a ≤ decV b)) (some (.ret (.bool (decide (decV b ≤ 10000))) [])) (some (.ret (.bool false) [])))
   rw [e1,e2]
   simp only [Q2es,inR]
   rw [decide_eq_true ha.1]
   by_cases h : numF a ≤ numF b
   ·rw [decide_eq_true h]
    exact Sat.retB rfl rfl
   ·rw [decide_eq_false h]
    exact Sat.retB rfl rfl
  | a :: b :: c :: t =>
   have : (((List.map decV (a :: b :: c :: t)).length : Int) == 2) = false:=by
    apply beq_eq_false_iff_ne.2
    simp; omega
   rw [this]
   exact Sat.retB rfl rfl
theorem Q602 (ks : List Kind) (ps : List Point) (what : Int) (v : Str) (hg : (szV v && (decide (ks.length < 1000000000) && decide (ps.length < 1000000000))) = true) : Qewq Tryz.prog CP Qvlr [.agg [.sl .kind ks,.sl .point ps],.int .i64 what,.str v] [] (.bool (fitsV ks ps what v)) []:=by
 refine Qewq.of Qpl8 (by kernel_rfl) (Ql56 ks ps what v) ?_
 simp only [Bool.and_eq_true,decide_eq_true_eq] at hg
 obtain ⟨hv,hks,hps⟩:=hg
 have hs : szS v = true:=hv
 have hcl : (cutS ((UInt8.toNat 32 : Nat) : Int) v).length ≤ 2000000000:=by
  have:=Qtox ((UInt8.toNat 32 : Nat) : Int) v
  have hv' : v.length ≤ 1000000000:=of_decide_eq_true hv
  omega
 rw [hs,decide_eq_true hks,decide_eq_true hps,Qd8q]
 unfold fitsV
 by_cases h1 : what = 1
 ·subst h1; exact Sat.retB rfl rfl
 rw [beq_eq_false_iff_ne.2 h1,if_neg h1,Qk7y]
 by_cases h2 : what = 2
 ·subst h2
  rw [if_pos rfl,decide_eq_true hcl,show ((2 : Int) == 2) = true from rfl,Qd8q]
  exact Qi63 (cutS 32 v)
 rw [beq_eq_false_iff_ne.2 h2,if_neg h2,Qk7y]
 by_cases h3 : what = 3
 ·subst h3
  rw [if_pos rfl,show ((3 : Int) == 3) = true from rfl,Qd8q]
  by_cases hn : 0 ≤ numF v
  ·have e1 : decB v = true:=decide_eq_true hn
   have e2 : decV v = numF v:=by unfold decV; omega
   rw [e1,e2]; exact Sat.retB rfl rfl
  ·have e1 : decB v = false:=decide_eq_false hn
   rw [e1]
   refine Sat.retB ?_ rfl
   have : inR (numF v) 1 6 = false:=by unfold inR; rw [decide_eq_false (by omega)]; rfl
   rw [this]
 rw [beq_eq_false_iff_ne.2 h3,if_neg h3,Qk7y]
 by_cases h4 : what = 4
 ·subst h4; exact Sat.retB rfl rfl
 rw [beq_eq_false_iff_ne.2 h4,if_neg h4,Qk7y]
 by_cases h5 : what = 5
 ·subst h5
  rw [if_pos rfl,show ((5 : Int) == 5) = true from rfl,Qd8q]
  have eo : (#[(111 : UInt8),112,101,110].toList) = wOpen:=rfl
  have ec : (#[(99 : UInt8),108,111,115,101,100].toList) = Qupw:=rfl
  rw [eo,ec]
  cases ho : (v == wOpen) with
  | true=>exact Sat.retB rfl rfl
  | false=>exact Sat.retB rfl rfl
 rw [beq_eq_false_iff_ne.2 h5,if_neg h5]
 exact Sat.retB rfl rfl
theorem Qp1l : EntOK Tryz.prog CP Qvlr Qmiz:=by
 refine ⟨⟨Tryz.f172,by kernel_rfl,by kernel_rfl,by kernel_rfl⟩,fun args H res H' h=>?_⟩
 simp only [Qmiz] at h
 split at h
 ·simp only [Option.some.injEq,Prod.mk.injEq] at h
  obtain ⟨hg,rfl,rfl⟩:=h
  exact Q602 _ _ _ _ hg
 ·cases h

noncomputable def Qvjx : RE Ty El:=⟨Tryz.prog,CP,[(Q9ho,Qcc2),(Qn2h,Q0vx),(Qvlr,Qmiz)],Tryz.f93,0,[],[]⟩
theorem Qh4n : REOK Qvjx Q4bs:=⟨CP_ok,(TabOK.cons Q8k7 (TabOK.cons Qfgu (TabOK.cons Qp1l Qye1))),by kernel_rfl,by kernel_rfl⟩
theorem Q0zs (ks : List Kind) (ps : List Point) (fl : Str) (what num : Int) (v : Str) : aRun Qvjx 600 false (body0 Qvjx.fn) (Q4gm Qvjx.fn [.agg [.sl .kind ks,.sl .point ps],.agg [.str fl,.int .i64 what,.int .i64 num,.str v]] []) =
 ifb (Q2rq fl) (ifb (inR num (1 : Int) (1000000 : Int)) (ifb (szV v && (decide (ks.length < (1000000000 : Nat)) && decide (ps.length < (1000000000 : Nat)))) (some (.ret (.bool (fitsV ks ps what v)) [])) (none)) (some (.ret (.bool false) []))) (some (.ret (.bool false) [])):=by kernel_rfl
theorem Q381 (ks : List Kind) (ps : List Point) (fl : Str) (what num : Int) (v : Str) (hg : (szV v && (decide (ks.length < 1000000000) && decide (ps.length < 1000000000))) = true) : Qewq Tryz.prog CP Q4bs [.agg [.sl .kind ks,.sl .point ps],.agg [.str fl,.int .i64 what,.int .i64 num,.str v]] [] (.bool (Qh2h ks ps fl what num v)) []:=by
 refine Qewq.of Qh4n (by kernel_rfl) (Q0zs ks ps fl what num v) ?_
 rw [hg]
 unfold Qh2h
 cases Q2rq fl with
 | false=>exact Sat.retB rfl rfl
 | true =>
  cases inR num 1 1000000 with
  | false=>exact Sat.retB rfl rfl
  | true=>exact Sat.retB rfl rfl
theorem Q0ms : EntOK Tryz.prog CP Q4bs Qna9:=by
 refine ⟨⟨Tryz.f93,by kernel_rfl,by kernel_rfl,by kernel_rfl⟩,fun args H res H' h=>?_⟩
 simp only [Qna9] at h
 split at h
 ·simp only [Option.some.injEq,Prod.mk.injEq] at h
  obtain ⟨hg,rfl,rfl⟩:=h
  exact Q381 _ _ _ _ _ _ hg
 ·cases h

noncomputable def Qeph : RE Ty El:=⟨Tryz.prog,CP,[(Qdaf,Qzuu),(Q4bs,Qna9)],Tryz.f48,0,[],[(4,[(1,.any),(18,.any),(19,.any),(20,.any)]),(9,[(1,.any),(4,.any),(18,.any),(19,.any),(20,.any),(46,.any),(47,.any),(48,.any)])]⟩
theorem Qfut : REOK Qeph Qaev:=⟨CP_ok,(TabOK.cons Qkfq (TabOK.cons Q0ms Qye1)),by kernel_rfl,by kernel_rfl⟩
theorem Q066 (ks : List Kind) (ps : List Point) (es : List Entry) : aRun Qeph 600 false (body0 Qeph.fn) (Q4gm Qeph.fn [.agg [.sl .kind ks,.sl .point ps,.sl .entry es]] []) =
 ifb (!Qib4 ks ps) (some (.ret (.bool false) [])) (ifb (decide ((↑es.length : Int) > (12 : Int))) (some (.ret (.bool false) [])) (some (.go (Qu6t Qeph.fn 4) [.ptr 0 0,.sl .entry es,.int .i64 (↑es.length : Int),.int .i64 (0 : Int)] [.box [.sl .kind ks,.sl .point ps,.sl .entry es]]))):=by kernel_rfl
theorem Q8mz (x0 : List (El .entry)) (x1 : Int) (x2 : Int) (x3 : List (El .kind)) (x4 : List (El .point)) (x5 : List (El .entry)) : aRun Qeph 600 true (Qu6t Qeph.fn 4) (cutSt Qeph.fn (Q1m4 Qeph (Qu6t Qeph.fn 4)) [.ptr 0 0,.sl .entry x0,.int .i64 x1,.int .i64 x2] [.box [.sl .kind x3,.sl .point x4,.sl .entry x5]]) =
 ifb (decide (x2 < x1)) (ifb (inb x2 x0.length) (ifb ((↑(x0.getD x2.toNat (Qeph.C.dflt Ty.entry)).fields.length : Int) == (0 : Int)) (some (.ret (.bool false) [])) (ifb (decide (x2 > (0 : Int))) (ifb (inb (IntKind.i64.wrap (x2 - (1 : Int))) x5.length) (ifb (Q7zj (x0.getD x2.toNat (Qeph.C.dflt Ty.entry)).name (x5.getD (IntKind.i64.wrap (x2 - (1 : Int))).toNat (Qeph.C.dflt Ty.entry)).name || (x0.getD x2.toNat (Qeph.C.dflt Ty.entry)).name == (x5.getD (IntKind.i64.wrap (x2 - (1 : Int))).toNat (Qeph.C.dflt Ty.entry)).name) (some (.ret (.bool false) [])) (some (.go (Qu6t Qeph.fn 9) [.ptr 0 0,.ptr 1 0,.sl .entry x0,.int .i64 x1,.int .i64 x2,.sl .fld ((x0.getD x2.toNat (Qeph.C.dflt Ty.entry)).fields),.int .i64 ((↑(x0.getD x2.toNat (Qeph.C.dflt Ty.entry)).fields.length : Int)),.int .i64 (0 : Int)] [.box [.sl .kind x3,.sl .point x4,.sl .entry x5],.box [.str ((x0.getD x2.toNat (Qeph.C.dflt Ty.entry)).name),.sl .fld ((x0.getD x2.toNat (Qeph.C.dflt Ty.entry)).fields)]]))) (none)) (some (.go (Qu6t Qeph.fn 9) [.ptr 0 0,.ptr 1 0,.sl .entry x0,.int .i64 x1,.int .i64 x2,.sl .fld ((x0.getD x2.toNat (Qeph.C.dflt Ty.entry)).fields),.int .i64 ((↑(x0.getD x2.toNat (Qeph.C.dflt Ty.entry)).fields.length : Int)),.int .i64 (0 : Int)] [.box [.sl .kind x3,.sl .point x4,.sl .entry x5],.box [.str ((x0.getD x2.toNat (Qeph.C.dflt Ty.entry)).name),.sl .fld ((x0.getD x2.toNat (Qeph.C.dflt Ty.entry)).fields)]])))) (none)) (some (.ret (.bool true) [])):=by kernel_rfl
theorem Qev7 (x0 : List (El .entry)) (x1 : Int) (x2 : Int) (x3 : List (El .fld)) (x4 : Int) (x5 : Int) (x6 : List (El .kind)) (x7 : List (El .point)) (x8 : List (El .entry)) (x9 : Str) (x10 : List (El .fld)) : aRun Qeph 600 true (Qu6t Qeph.fn 9) (cutSt Qeph.fn (Q1m4 Qeph (Qu6t Qeph.fn 9)) [.ptr 0 0,.ptr 1 0,.sl .entry x0,.int .i64 x1,.int .i64 x2,.sl .fld x3,.int .i64 x4,.int .i64 x5] [.box [.sl .kind x6,.sl .point x7,.sl .entry x8],.box [.str x9,.sl .fld x10]]) =
 ifb (decide (x5 < x4)) (ifb (inb x5 x3.length) (ifb (szV (x3.getD x5.toNat (Qeph.C.dflt Ty.fld)).value && (decide (x6.length < (1000000000 : Nat)) && decide (x7.length < (1000000000 : Nat)))) (ifb (!Qh2h x6 x7 x9 (x3.getD x5.toNat (Qeph.C.dflt Ty.fld)).what (x3.getD x5.toNat (Qeph.C.dflt Ty.fld)).number (x3.getD x5.toNat (Qeph.C.dflt Ty.fld)).value) (some (.ret (.bool false) [])) (ifb (decide (x5 > (0 : Int))) (ifb (inb (IntKind.i64.wrap (x5 - (1 : Int))) x10.length) (ifb (decide ((x3.getD x5.toNat (Qeph.C.dflt Ty.fld)).what ≤ (x10.getD (IntKind.i64.wrap (x5 - (1 : Int))).toNat (Qeph.C.dflt Ty.fld)).what)) (some (.ret (.bool false) [])) (some (.go (Qu6t Qeph.fn 9) [.ptr 0 0,.ptr 1 0,.sl .entry x0,.int .i64 x1,.int .i64 x2,.sl .fld x3,.int .i64 x4,.int .i64 (IntKind.i64.wrap (x5 + (1 : Int)))] [.box [.sl .kind x6,.sl .point x7,.sl .entry x8],.box [.str x9,.sl .fld x10]]))) (none)) (some (.go (Qu6t Qeph.fn 9) [.ptr 0 0,.ptr 1 0,.sl .entry x0,.int .i64 x1,.int .i64 x2,.sl .fld x3,.int .i64 x4,.int .i64 (IntKind.i64.wrap (x5 + (1 : Int)))] [.box [.sl .kind x6,.sl .point x7,.sl .entry x8],.box [.str x9,.sl .fld x10]])))) (none)) (none)) (some (.go (Qu6t Qeph.fn 4) [.ptr 0 0,.sl .entry x0,.int .i64 x1,.int .i64 (IntKind.i64.wrap (x2 + (1 : Int)))] [.box [.sl .kind x6,.sl .point x7,.sl .entry x8]])):=by kernel_rfl
theorem Q5ka (ks : List Kind) (ps : List Point) (es : List Entry) (hb : Qib4 ks ps = true) (n : Str) (fs : List Fld) (hfs : fs.length ≤ 1000000000) (hsz : fs.all (fun f=>szV f.value) = true) (i : Nat) (hi : i < 1000) (nx : Bool) (h4 : Cut Qeph Qaev 4 [.ptr 0 0,.sl .entry es,.int .i64 (es.length : Int),.int .i64 ((i + 1 : Nat) : Int)] [.box [.sl .kind ks,.sl .point ps,.sl .entry es]] (.bool nx) []) : ∀ (d k : Nat),k + d = fs.length →
  Cut Qeph Qaev 9 [.ptr 0 0,.ptr 1 0,.sl .entry es,.int .i64 (es.length : Int),.int .i64 (i : Int),.sl .fld fs,.int .i64 (fs.length : Int),.int .i64 (k : Int)] [.box [.sl .kind ks,.sl .point ps,.sl .entry es],.box [.str n,.sl .fld fs]] (.bool (Qt03 ks ps n ((fs.take k).getLast?.map (·.what)) (fs.drop k) && nx)) []:=by
 have hwi : IntKind.wrap .i64 ((i : Int) + 1) = ((i + 1 : Nat) : Int):=by rw [Qbrg] <;> omega
 obtain ⟨hkl,hpl⟩:=Qrzz hb
 intro d
 induction d with
 | zero =>
  intro k hk
  refine Cut.of Qfut rfl (Qev7 es es.length i fs fs.length k ks ps es n fs) ?_
  rw [decide_eq_false (by omega),List.drop_of_length_le (by omega),hwi]
  exact Sat.cut h4
 | succ d ih =>
  intro k hk
  refine Cut.of Qfut rfl (Qev7 es es.length i fs fs.length k ks ps es n fs) ?_
  have hlt : k < fs.length:=by omega
  have hw : IntKind.wrap .i64 ((k : Int) + 1) = ((k + 1 : Nat) : Int):=by rw [Qbrg] <;> omega
  have hw1 : IntKind.wrap .i64 ((k : Int) - 1) = (k : Int) - 1:=by rw [Qbrg] <;> omega
  have hd : fs.drop k = fs[k] :: fs.drop (k + 1):=List.drop_eq_getElem_cons hlt
  have hx : fs.getD (k : Int).toNat (Qeph.C.dflt .fld) = fs[k]:=by simp [hlt]
  have hin : inb (k : Int) fs.length = true:=by simp only [inb,Bool.and_eq_true,decide_eq_true_eq]; omega
  have hlo : decide ((k : Int) < (fs.length : Int)) = true:=decide_eq_true (by omega)
  have htk:=List.take_succ_eq_append_getElem hlt
  have hl : (fs.take (k + 1)).getLast? = some fs[k]:=by rw [List.take_succ_eq_append_getElem hlt,List.getLast?_concat]
  have hv : szV fs[k].value = true:=List.all_eq_true.1 hsz _ (List.getElem_mem hlt)
  have ih':=ih (k + 1) (by omega)
  rw [hl,Option.map_some] at ih'
  rw [hlo,hin,hx,hv,hw,hw1,hd,Qxkm,decide_eq_true (by omega : ks.length < 1000000000),decide_eq_true (by omega : ps.length < 1000000000)]
  simp only [Qd8q,Bool.and_self]
  cases hc : Qh2h ks ps n fs[k].what fs[k].number fs[k].value with
  | false=>exact Sat.retB rfl rfl
  | true =>
   simp only [Bool.not_true,Qk7y,Bool.true_and]
   by_cases h0 : (k : Int) > 0
   ·rw [decide_eq_true h0]
    have hi1 : k - 1 < fs.length:=by omega
    have hx1 : fs.getD ((k : Int) - 1).toNat (Qeph.C.dflt .fld) = fs[k - 1]:=by
     rw [show ((k : Int) - 1).toNat = k - 1 by omega]; simp [hi1]
    have hl1 : (fs.take k).getLast? = some fs[k - 1]:=by
     have:=List.take_succ_eq_append_getElem hi1
     rw [show k - 1 + 1 = k by omega] at this
     rw [this,List.getLast?_concat]
    have hin1 : inb ((k : Int) - 1) fs.length = true:=by simp only [inb,Bool.and_eq_true,decide_eq_true_eq]; omega
    rw [hin1,hx1,hl1]
    simp only [Qd8q,Option.map_some]
    by_cases hq : fs[k - 1].what < fs[k].what
    ·rw [decide_eq_true hq,decide_eq_false (by omega)]
     exact Sat.cut ih'
    ·rw [decide_eq_false hq,decide_eq_true (by omega)]
     exact Sat.retB rfl rfl
   ·rw [decide_eq_false h0]
    have : k = 0:=by omega
    subst this
    exact Sat.cut ih'
theorem Qrwz (ks : List Kind) (ps : List Point) (es : List Entry) (hb : Qib4 ks ps = true) (h12 : es.length ≤ 12) (hsz : es.all szE = true) : ∀ (d i : Nat),i + d = es.length →
  Cut Qeph Qaev 4 [.ptr 0 0,.sl .entry es,.int .i64 (es.length : Int),.int .i64 (i : Int)] [.box [.sl .kind ks,.sl .point ps,.sl .entry es]] (.bool (Qgea ks ps ((es.take i).getLast?.map (·.name)) (es.drop i))) []:=by
 intro d
 induction d with
 | zero =>
  intro i hi
  refine Cut.of Qfut rfl (Q8mz es es.length i ks ps es) ?_
  rw [decide_eq_false (by omega),List.drop_of_length_le (by omega)]
  exact Sat.retB rfl rfl
 | succ d ih =>
  intro i hi
  refine Cut.of Qfut rfl (Q8mz es es.length i ks ps es) ?_
  have hlt : i < es.length:=by omega
  have hw : IntKind.wrap .i64 ((i : Int) + 1) = ((i + 1 : Nat) : Int):=by rw [Qbrg] <;> omega
  have hw1 : IntKind.wrap .i64 ((i : Int) - 1) = (i : Int) - 1:=by rw [Qbrg] <;> omega
  have hd : es.drop i = es[i] :: es.drop (i + 1):=List.drop_eq_getElem_cons hlt
  have hx : es.getD (i : Int).toNat (Qeph.C.dflt .entry) = es[i]:=by simp [hlt]
  have hin : inb (i : Int) es.length = true:=by simp only [inb,Bool.and_eq_true,decide_eq_true_eq]; omega
  have hlo : decide ((i : Int) < (es.length : Int)) = true:=decide_eq_true (by omega)
  have htk:=List.take_succ_eq_append_getElem hlt
  have hl : (es.take (i + 1)).getLast? = some es[i]:=by rw [List.take_succ_eq_append_getElem hlt,List.getLast?_concat]
  have hz:=List.all_eq_true.1 hsz _ (List.getElem_mem hlt)
  simp only [szE,Bool.and_eq_true,decide_eq_true_eq] at hz
  have ih':=ih (i + 1) (by omega)
  rw [hl,Option.map_some] at ih'
  have inner:=Q5ka ks ps es hb es[i].name es[i].fields hz.1 hz.2 i (by omega) _ ih' es[i].fields.length 0 (by omega)
  rw [List.drop_zero] at inner
  rw [hlo,hin,hx,hw1,hd,Qgea]
  simp only [Qd8q]
  by_cases hf0 : es[i].fields.length = 0
  ·have e1 : ((es[i].fields.length : Int) == 0) = true:=by simp [hf0]
   rw [e1]
   refine Sat.retB ?_ rfl
   simp [Q7i7,hf0]
  ·have e1 : ((es[i].fields.length : Int) == 0) = false:=by simp; intro e; exact hf0 (by rw [e]; rfl)
   rw [e1,Qvuh hf0]
   simp only [Qk7y]
   by_cases h0 : (i : Int) > 0
   ·rw [decide_eq_true h0]
    have hi1 : i - 1 < es.length:=by omega
    have hx1 : es.getD ((i : Int) - 1).toNat (Qeph.C.dflt .entry) = es[i - 1]:=by
     rw [show ((i : Int) - 1).toNat = i - 1 by omega]; simp [hi1]
    have hl1 : (es.take i).getLast? = some es[i - 1]:=by
     have:=List.take_succ_eq_append_getElem hi1
     rw [show i - 1 + 1 = i by omega] at this
     rw [this,List.getLast?_concat]
    have hin1 : inb ((i : Int) - 1) es.length = true:=by simp only [inb,Bool.and_eq_true,decide_eq_true_eq]; omega
    rw [hin1,hx1,hl1,le_lt]
    simp only [Qd8q,Option.map_some,Qe7t]
    cases hq : Q7zj es[i - 1].name es[i].name with
    | false =>
     refine Sat.retB ?_ rfl
     simp
    | true =>
     simp only [Bool.not_true,Qk7y,Bool.true_and]
     exact Sat.cut inner
   ·rw [decide_eq_false h0]
    have : i = 0:=by omega
    subst this
    exact Sat.cut inner
theorem Qgs9 (ks : List Kind) (ps : List Point) (es : List Entry) (hg : szB es = true) : Qewq Tryz.prog CP Qaev [.agg [.sl .kind ks,.sl .point ps,.sl .entry es]] [] (.bool (Qn0o ks ps es)) []:=by
 refine Qewq.of Qfut (by kernel_rfl) (Q066 ks ps es) ?_
 simp only [szB,Bool.and_eq_true,decide_eq_true_eq] at hg
 cases hb : Qib4 ks ps with
 | false =>
  refine Sat.retB ?_ rfl
  simp [Qn0o,hb]
 | true =>
  simp only [Bool.not_true,Qk7y]
  by_cases h12 : es.length ≤ 12
  ·rw [decide_eq_false (by omega)]
   have:=Qrwz ks ps es hb h12 hg.2 es.length 0 (by omega)
   rw [show Qn0o ks ps es = Qgea ks ps ((es.take 0).getLast?.map (·.name)) (es.drop 0) by simp [Qn0o,hb,h12]]
   exact Sat.cut this
  ·rw [decide_eq_true (by omega)]
   refine Sat.retB ?_ rfl
   simp [Qn0o,h12]
theorem Qwza : EntOK Tryz.prog CP Qaev Qjv4:=by
 refine ⟨⟨Tryz.f48,by kernel_rfl,by kernel_rfl,by kernel_rfl⟩,fun args H res H' h=>?_⟩
 simp only [Qjv4,Q124] at h
 split at h
 ·simp only [Option.some.injEq,Prod.mk.injEq] at h
  obtain ⟨hg,rfl,rfl⟩:=h
  exact Qgs9 _ _ _ hg
 ·cases h
end Lx
namespace Lx
open Go Go.Proofs
def stE (ks : List Kind) (e : Entry) : Option Flight :=
 if valF e.fields 1 = [] ∨ valF e.fields 2 = [] ∨ valF e.fields 3 = [] ∨ valF e.fields 4 = [] then none
 else if valF e.fields 5 = Qupw then none
 else some ⟨e.name,ks.getD (Qh2z ks (valF e.fields 1)).toNat (dfltP .kind),numF ((cutS 32 (valF e.fields 2)).getD 0 []),numF ((cutS 32 (valF e.fields 2)).getD 1 []),numF (valF e.fields 3),cutS 32 (valF e.fields 4)⟩
def fl0 : Flight:=⟨[],⟨[],0,0⟩,0,0,0,[]⟩
def flV (o : Option Flight) : V:=.tup [.agg (rowP .flight (o.getD fl0)),.bool o.isSome]
def entIx (es : List Entry) (n : Str) : Int:=idxF (fun e=>e.name == n) es
def stB (ks : List Kind) (ps : List Point) (es : List Entry) (n : Str) : Option Flight:=if Qn0o ks ps es = true ∧ 0 ≤ entIx es n then stE ks (es.getD (entIx es n).toNat (dfltP .entry)) else none
theorem Qx66 {ks : List Kind} {ps : List Point} {n : Str} : ∀ {fs : List Fld} {prev : Option Int},Qt03 ks ps n prev fs = true → ∀ f ∈ fs,fitsV ks ps f.what f.value = true
 | [],_,_,f,hf=>by simp at hf
 | g :: fs,prev,h,f,hf=>by
  rw [Qxkm] at h
  simp only [Bool.and_eq_true,Qh2h] at h
  simp only [List.mem_cons] at hf
  rcases hf with rfl | hf
  ·exact h.1.2.2
  ·exact Qx66 h.2.2 f hf
theorem Qxu8 (fs : List Fld) (w : Int) : valF fs w = [] ∨ ∃ f ∈ fs,f.what = w ∧ valF fs w = f.value:=by
 unfold valF
 cases h : fs.find? (fun f=>f.what == w) with
 | none=>exact .inl rfl
 | some f=>exact .inr ⟨f,List.mem_of_find?_eq_some h,by simpa using List.find?_some h,rfl⟩
theorem Q256 {ks : List Kind} {ps : List Point} {e : Entry} (h : Q7i7 ks ps e = true) {w : Int} (hv : valF e.fields w ≠ []) : fitsV ks ps w (valF e.fields w) = true:=by
 rcases Qxu8 e.fields w with h1 | ⟨f,hf,hw,h1⟩
 ·exact absurd h1 hv
 ·simp only [Q7i7,Bool.and_eq_true] at h
  have:=Qx66 h.2.2 f hf
  rw [h1,← hw]; exact this
theorem Q46g {e : Entry} (h : szE e = true) (w : Int) : (valF e.fields w).length ≤ 1000000000:=by
 rcases Qxu8 e.fields w with h1 | ⟨f,hf,hw,h1⟩
 ·rw [h1]; simp
 ·simp only [szE,Bool.and_eq_true] at h
  have:=List.all_eq_true.1 h.2 f hf
  rw [h1]; exact of_decide_eq_true this
theorem fits1 {ks : List Kind} {ps : List Point} {v : Str} (h : fitsV ks ps 1 v = true) : 0 ≤ Qh2z ks v:=by
 simp only [fitsV,if_true] at h; exact of_decide_eq_true h
theorem fits2 {ks : List Kind} {ps : List Point} {v : Str} (h : fitsV ks ps 2 v = true) : Q2es (cutS 32 v) = true:=by
 simpa [fitsV] using h
theorem Qus2 {ks : List Kind} {v : Str} (h : 0 ≤ Qh2z ks v) : inb (Qh2z ks v) ks.length = true:=by
 have h2:=Q1mf (p:=fun k : Kind=>k.name == v) (l:=ks)
 have h3 : Qh2z ks v = idxF (fun k : Kind=>k.name == v) ks:=rfl
 simp only [inb,Bool.and_eq_true,decide_eq_true_eq]; omega
theorem Qohw {es : List Entry} {n : Str} (h : 0 ≤ entIx es n) : inb (entIx es n) es.length = true:=by
 have h2:=Q1mf (p:=fun k : Entry=>k.name == n) (l:=es)
 have h3 : entIx es n = idxF (fun k : Entry=>k.name == n) es:=rfl
 simp only [inb,Bool.and_eq_true,decide_eq_true_eq]; omega
theorem Q4rj {ks : List Kind} {ps : List Point} : ∀ {es : List Entry} {prev : Option Str},Qgea ks ps prev es = true → ∀ e ∈ es,Q7i7 ks ps e = true
 | [],_,_,e,he=>by simp at he
 | a :: es,prev,h,e,he=>by
  rw [Qgea] at h
  simp only [Bool.and_eq_true] at h
  simp only [List.mem_cons] at he
  rcases he with rfl | he
  ·exact h.1
  ·exact Q4rj h.2.2 e he
theorem Qg6k {ks : List Kind} {ps : List Point} {es : List Entry} (h : Qn0o ks ps es = true) : Qib4 ks ps = true ∧ es.length ≤ 12 ∧ ∀ e ∈ es,Q7i7 ks ps e = true:=by
 simp only [Qn0o,Bool.and_eq_true,decide_eq_true_eq] at h
 exact ⟨h.1,h.2.1,Q4rj h.2.2⟩
theorem Qhwx {es : List Entry} {n : Str} (h : 0 ≤ entIx es n) : es.getD (entIx es n).toNat (dfltP .entry) ∈ es:=by
 have h2:=Q1mf (p:=fun k : Entry=>k.name == n) (l:=es)
 have h3 : entIx es n = idxF (fun k : Entry=>k.name == n) es:=rfl
 have hlt : (entIx es n).toNat < es.length:=by omega
 rw [List.getD_eq_getElem?_getD,List.getElem?_eq_getElem hlt]
 exact List.getElem_mem hlt
theorem Qur7 {α : Type} (p : α → Bool) (d : α) : ∀ (l : List α),(idxF p l < 0 ∧ l.find? p = none) ∨ (0 ≤ idxF p l ∧ l.find? p = some (l.getD (idxF p l).toNat d))
 | []=>.inl ⟨by show (-1 : Int) < 0; decide,rfl⟩
 | a :: l=>by
  by_cases ha : p a = true
  ·have : idxF p (a :: l) = 0:=Qjgx (i:=0) rfl ha (fun k hk=>by omega)
   rw [this,List.find?_cons_of_pos ha]
   exact .inr ⟨by omega,rfl⟩
  ·rw [List.find?_cons_of_neg ha]
   have hs : idxF p (a :: l) = if idxF p l < 0 then -1 else idxF p l + 1:=by
    have hf : p a = false:=by simpa using ha
    unfold idxF
    rw [List.findIdx?_cons,hf]
    cases l.findIdx? p with
    | none=>rfl
    | some i =>
     have : ¬ ((i : Int) < 0):=by omega
     simp [this]
   rcases Qur7 p d l with ⟨h1,h2⟩ | ⟨h1,h2⟩
   ·rw [hs,if_pos h1]; exact .inl ⟨by decide,h2⟩
   ·rw [hs,if_neg (by omega)]
    refine .inr ⟨by omega, ?_⟩
    rw [h2]
    have : (idxF p l + 1).toNat = (idxF p l).toNat + 1:=by omega
    rw [this]; rfl

def Q4sg : Ent Ty El:=⟨[.ro,.ro],0,fun a h=>match a,h with
 | [.agg [.sl .kind ks,.sl .point ps,.sl .entry es],.str n],[]=>some (szB es && decide (es.length < 1000000000),flV (stB ks ps es n),[])
 | _,_=>none⟩
def Qxe2 : Ent Ty El:=Q4sg
def fldF (es : List Entry) (n : Str) (w : Int) : Option Fld:=(es.find? fun e=>e.name == n).bind fun e=>e.fields.find? fun f=>f.what == w
def fld0 : Fld:=⟨0,0,[]⟩
def Qai8 : Ent Ty El:=⟨[.ro,.ro,.ro],0,fun a h=>match a,h with
 | [.agg [.sl .kind ks,.sl .point ps,.sl .entry es],.str n,.int .i64 w],[]=>some (decide (es.length < 1000000000) && es.all szE,.tup [.agg (rowP .fld ((fldF es n w).getD fld0)),.bool (fldF es n w).isSome],[])
 | _,_=>none⟩
end Lx
namespace Lx
open Go Go.Proofs
noncomputable def Ql25 : RE Ty El:=⟨Tryz.prog,CP,[(Q659,Qb5f)],Tryz.f147,0,[],[(4,[(2,.any),(6,.any),(21,.any),(22,.any),(23,.any)])]⟩
theorem Q6pu : REOK Ql25 Qbgv:=⟨CP_ok,(TabOK.cons Q4vp Qye1),by kernel_rfl,by kernel_rfl⟩
theorem Qh7t (ks : List Kind) (ps : List Point) (es : List Entry) (n : Str) (w : Int) : aRun Ql25 600 false (body0 Ql25.fn) (Q4gm Ql25.fn [.agg [.sl .kind ks,.sl .point ps,.sl .entry es],.str n,.int .i64 w] []) =
 ifb (decide (es.length < (1000000000 : Nat))) (ifb (decide (idxF (fun p=>p.name == n) es ≥ (0 : Int))) (ifb (inb (idxF (fun p=>p.name == n) es) es.length) (some (.go (Qu6t Ql25.fn 4) [.int .i64 w,.ptr 0 0,.sl .fld ((es.getD (idxF (fun p=>p.name == n) es).toNat (Ql25.C.dflt Ty.entry)).fields),.int .i64 ((↑(es.getD (idxF (fun p=>p.name == n) es).toNat (Ql25.C.dflt Ty.entry)).fields.length : Int)),.int .i64 (0 : Int)] [.box [.int .i64 (0 : Int),.int .i64 (0 : Int),.str #[].toList]])) (none)) (some (.ret (.tup [.agg [.int .i64 (0 : Int),.int .i64 (0 : Int),.str #[].toList],.bool false]) []))) (none):=by kernel_rfl
theorem Q782 (x0 : Int) (x1 : List (El .fld)) (x2 : Int) (x3 : Int) (x4 : Int) (x5 : Int) (x6 : Str) : aRun Ql25 600 true (Qu6t Ql25.fn 4) (cutSt Ql25.fn (Q1m4 Ql25 (Qu6t Ql25.fn 4)) [.int .i64 x0,.ptr 0 0,.sl .fld x1,.int .i64 x2,.int .i64 x3] [.box [.int .i64 x4,.int .i64 x5,.str x6]]) =
 ifb (decide (x3 < x2)) (ifb (inb x3 x1.length) (ifb ((x1.getD x3.toNat (Ql25.C.dflt Ty.fld)).what == x0) (some (.ret (.tup [.agg [.int .i64 ((x1.getD x3.toNat (Ql25.C.dflt Ty.fld)).what),.int .i64 ((x1.getD x3.toNat (Ql25.C.dflt Ty.fld)).number),.str ((x1.getD x3.toNat (Ql25.C.dflt Ty.fld)).value)],.bool true]) [])) (some (.go (Qu6t Ql25.fn 4) [.int .i64 x0,.ptr 0 0,.sl .fld x1,.int .i64 x2,.int .i64 (IntKind.i64.wrap (x3 + (1 : Int)))] [.box [.int .i64 x4,.int .i64 x5,.str x6]]))) (none)) (some (.ret (.tup [.agg [.int .i64 (0 : Int),.int .i64 (0 : Int),.str #[].toList],.bool false]) [])):=by kernel_rfl
theorem Qztr (w : Int) (fs : List Fld) (hf : fs.length ≤ 1000000000) : ∀ (d i : Nat),i + d = fs.length →
  Cut Ql25 Qbgv 4 [.int .i64 w,.ptr 0 0,.sl .fld fs,.int .i64 (fs.length : Int),.int .i64 (i : Int)] [.box [.int .i64 0,.int .i64 0,.str []]] (.tup [.agg (rowP .fld (((fs.drop i).find? fun f=>f.what == w).getD fld0)),.bool ((fs.drop i).find? fun f=>f.what == w).isSome]) []:=by
 intro d
 induction d with
 | zero =>
  intro i hi
  refine Cut.of Q6pu rfl (Q782 w fs fs.length i 0 0 []) ?_
  rw [decide_eq_false (by omega),List.drop_of_length_le (by omega)]
  exact Sat.ret rfl rfl
 | succ d ih =>
  intro i hi
  refine Cut.of Q6pu rfl (Q782 w fs fs.length i 0 0 []) ?_
  have hlt : i < fs.length:=by omega
  have hw : IntKind.wrap .i64 ((i : Int) + 1) = ((i + 1 : Nat) : Int):=by rw [Qbrg] <;> omega
  have hw1 : IntKind.wrap .i64 ((i : Int) - 1) = (i : Int) - 1:=by rw [Qbrg] <;> omega
  have hd : fs.drop i = fs[i] :: fs.drop (i + 1):=List.drop_eq_getElem_cons hlt
  have hx : fs.getD (i : Int).toNat (Ql25.C.dflt .fld) = fs[i]:=by simp [hlt]
  have hin : inb (i : Int) fs.length = true:=by simp only [inb,Bool.and_eq_true,decide_eq_true_eq]; omega
  have hlo : decide ((i : Int) < (fs.length : Int)) = true:=decide_eq_true (by omega)
  have htk:=List.take_succ_eq_append_getElem hlt
  have hl : (fs.take (i + 1)).getLast? = some fs[i]:=by rw [List.take_succ_eq_append_getElem hlt,List.getLast?_concat]
  rw [hlo,hin,hx,hw,hd,List.find?_cons]
  simp only [Qd8q]
  cases hq : (fs[i].what == w) with
  | true=>exact Sat.ret rfl rfl
  | false=>exact Sat.cut (ih (i + 1) (by omega))
theorem Q79g (ks : List Kind) (ps : List Point) (es : List Entry) (n : Str) (w : Int) (hg : (decide (es.length < 1000000000) && es.all szE) = true) : Qewq Tryz.prog CP Qbgv [.agg [.sl .kind ks,.sl .point ps,.sl .entry es],.str n,.int .i64 w] [] (.tup [.agg (rowP .fld ((fldF es n w).getD fld0)),.bool (fldF es n w).isSome]) []:=by
 refine Qewq.of Q6pu (by kernel_rfl) (Qh7t ks ps es n w) ?_
 simp only [Bool.and_eq_true,decide_eq_true_eq] at hg
 obtain ⟨hlt,hz⟩:=hg
 have hp : idxF (fun p=>p.name == n) es = entIx es n:=rfl
 have hdf : Ql25.C.dflt Ty.entry = dfltP .entry:=rfl
 rw [hdf,decide_eq_true hlt]
 simp only [Qd8q]
 rcases Qur7 (fun e : Entry=>e.name == n) (dfltP .entry) es with ⟨h1,h2⟩ | ⟨h1,h2⟩
 ·rw [decide_eq_false (by omega)]
  refine Sat.ret ?_ rfl
  rw [fldF,h2]; rfl
 ·rw [decide_eq_true h1,hp,Qohw h1]
  simp only [Qd8q]
  have hm:=List.all_eq_true.1 hz _ (Qhwx (n:=n) h1)
  simp only [szE,Bool.and_eq_true,decide_eq_true_eq] at hm
  have:=Qztr w (es.getD (entIx es n).toNat (dfltP .entry)).fields hm.1 _ 0 (Nat.zero_add _)
  rw [fldF,h2]
  exact Sat.cut this
theorem Qkkz : EntOK Tryz.prog CP Qbgv Qai8:=by
 refine ⟨⟨Tryz.f147,by kernel_rfl,by kernel_rfl,by kernel_rfl⟩,fun args H res H' h=>?_⟩
 simp only [Qai8] at h
 split at h
 ·simp only [Option.some.injEq,Prod.mk.injEq] at h
  obtain ⟨hg,rfl,rfl⟩:=h
  exact Q79g _ _ _ _ _ hg
 ·cases h
end Lx
namespace Lx
open Go
section
variable {Ty : Type} {El : Ty → Type}
def SatE (R : RE Ty El) (f : FuncId) (Q : AV Ty El → List (AObj Ty El) → Prop) (T : Option (Leaf Ty El)) : Prop:=∃ res H',Sat R f res H' T ∧ Q res H'
variable {R : RE Ty El} {f : FuncId} {Q : AV Ty El → List (AObj Ty El) → Prop}
theorem SatE.ifb {c : Bool} {A B : Option (Leaf Ty El)} (h1 : c = true → SatE R f Q A) (h2 : c = false → SatE R f Q B) : SatE R f Q (Lx.ifb c A B):=by
 cases c with
 | true=>exact h1 rfl
 | false=>exact h2 rfl
theorem SatE.need {c : Bool} {A : Option (Leaf Ty El)} (h : c = true) (h1 : SatE R f Q A) : SatE R f Q (Lx.ifb c A none):=by
 subst h; exact h1
theorem SatE.ret {v : AV Ty El} {h : List (AObj Ty El)} (hq : Q v h) : SatE R f Q (some (.ret v h)):=⟨v,h,Sat.ret rfl rfl,hq⟩
def CutE (R : RE Ty El) (f : FuncId) (id : Nat) (vals : List (AV Ty El)) (h : List (AObj Ty El)) (Q : AV Ty El → List (AObj Ty El) → Prop) : Prop:=∃ res H',Cut R f id vals h res H' ∧ Q res H'
theorem SatE.cut {id : Nat} {vals : List (AV Ty El)} {h : List (AObj Ty El)} (hg : CutE R f id vals h Q) : SatE R f Q (some (.go (Qu6t R.fn id) vals h)):=by
 obtain ⟨res,H',h1,h2⟩:=hg
 exact ⟨res,H',Sat.cut h1,h2⟩
theorem CutE.of (hR : REOK R f) {id : Nat} {vals : List (AV Ty El)} {h : List (AObj Ty El)} {live : List (Nat × Sh Ty)} {fuel : Nat} {T : Option (Leaf Ty El)} (hl : Q1m4 R (Qu6t R.fn id) = live) (ht : aRun R fuel true (Qu6t R.fn id) (cutSt R.fn live vals h) = T) (hs : SatE R f Q T) : CutE R f id vals h Q:=by
 obtain ⟨res,H',h1,h2⟩:=hs
 exact ⟨res,H',Cut.of hR hl ht h1,h2⟩
def CallE (P : Program) (C : Cod Ty El) (g : FuncId) (args : List (AV Ty El)) (H : List (AObj Ty El)) (Q : AV Ty El → List (AObj Ty El) → Prop) : Prop:=∃ res H',Qewq P C g args H res H' ∧ Q res H'
theorem CallE.of (hR : REOK R f) {args : List (AV Ty El)} {H : List (AObj Ty El)} {fuel : Nat} {T : Option (Leaf Ty El)} (hfit : fitsB R args H = true) (ht : aRun R fuel false (body0 R.fn) (Q4gm R.fn args H) = T) (hs : SatE R f Q T) : CallE R.P R.C f args H Q:=by
 obtain ⟨res,H',h1,h2⟩:=hs
 exact ⟨res,H',Qewq.of hR hfit ht h1,h2⟩
theorem SatE.mono {Q' : AV Ty El → List (AObj Ty El) → Prop} {T : Option (Leaf Ty El)} (h : SatE R f Q T) (hq : ∀ v h,Q v h → Q' v h) : SatE R f Q' T:=by
 obtain ⟨v,H',h1,h2⟩:=h; exact ⟨v,H',h1,hq _ _ h2⟩
noncomputable def drawn {α : Type} [Inhabited α] (p : α → Prop) : α:=Classical.epsilon p
theorem Qk78 {α : Type} [Inhabited α] {p : α → Prop} (h : ∃ a,p a) : p (drawn p):=Classical.epsilon_spec h
end
end Lx
namespace Lx
open Go
section
variable {Ty : Type} {El : Ty → Type} {C : Cod Ty El} {P : Program}
def noNm (k : Nat) : Nat → AV Ty El → Bool
 | 0,_=>false
 | n + 1,v=>match v with
  | .own r _ _=>r != k
  | .view r _ _ _ _ _=>r != k
  | .ptr r _=>r != k
  | .eptr r _ _ _ _ _=>r != k
  | .mapr r=>r != k
  | .agg cs | .tup cs | .rop cs _ | .fn _ cs=>cs.all (noNm k n)
  | _=>true
def objNm (k : Nat) : AObj Ty El → Bool
 | .box cs=>cs.all (noNm k 6)
 | .mp ..=>false
 | _=>true
theorem Qn0f {k : Nat} {c : AV Ty El} (h : Qvgi c = true) : noNm k 1 c = true:=by
 cases c <;> simp [Qvgi] at h <;> rfl
theorem RepA.noNm (hC : CodOK P C) {N N' : Nm} {w : World} {k : Nat} (hG : ∀ r p v u,r ≠ k → N.G r p v u → N'.G r p v u) (hro : ∀ b,N.ro b → N'.ro b) {v : Value} {x : AV Ty El} (h : RepA C N w v x) : ∀ n,Lx.noNm k n x = true → RepA C N' w v x:=by
 have kids : ∀ {n : Nat} {cs : List (AV Ty El)},cs.all (Lx.noNm k n) = true → ∀ (j : Nat) c,cs[j]? = some c → Lx.noNm k n c = true:=fun h j c hj=>List.all_eq_true.1 h c (List.mem_of_getElem? hj)
 induction h with
 | int k n=>exact fun _ _=>.int k n
 | bool b=>exact fun _ _=>.bool b
 | str s l h=>exact fun _ _=>.str s l h
 | sl0 T a cap=>exact fun _ _=>.sl0 T a cap
 | sl T xs b o n cap f hn hc hr hcell _ ih =>
  exact fun _ _=>.sl T xs b o n cap f hn hc (hro b hr) hcell (fun i j c hi hj=>ih i j c hi hj 1 (Qn0f (hC.cell _ _ c (List.mem_of_getElem? hj))))
 | nils=>exact fun _ _=>.nils
 | own r p v u h =>
  intro n hn
  cases n with
  | zero=>simp [Lx.noNm] at hn
  | succ n=>exact .own r p v u (hG _ _ _ _ (by simpa [Lx.noNm] using hn) h)
 | view r p v wd lo m n cap a h hb =>
  intro n hn
  cases n with
  | zero=>simp [Lx.noNm] at hn
  | succ n=>exact .view r p v wd lo m _ cap a (hG _ _ _ _ (by simpa [Lx.noNm] using hn) h) hb
 | ptr r b off h =>
  intro n hn
  cases n with
  | zero=>simp [Lx.noNm] at hn
  | succ n=>exact .ptr r b off (hG _ _ _ _ (by simpa [Lx.noNm] using hn) h)
 | eptr r p v wd i j b n cap h hi =>
  intro n hn
  cases n with
  | zero=>simp [Lx.noNm] at hn
  | succ n=>exact .eptr r p v wd i j b _ cap (hG _ _ _ _ (by simpa [Lx.noNm] using hn) h) hi
 | rop cs b o off f hr hcell _ ih =>
  intro n hn
  cases n with
  | zero=>simp [Lx.noNm] at hn
  | succ n=>exact .rop cs b o off f (hro b hr) hcell (fun j c hj=>ih j c hj n (kids (by simpa [Lx.noNm] using hn) j c hj))
 | nilp=>exact fun _ _=>.nilp
 | mapr r b h =>
  intro n hn
  cases n with
  | zero=>simp [Lx.noNm] at hn
  | succ n=>exact .mapr r b (hG _ _ _ _ (by simpa [Lx.noNm] using hn) h)
 | agg vs cs hl _ ih =>
  intro n hn
  cases n with
  | zero=>simp [Lx.noNm] at hn
  | succ n=>exact .agg vs cs hl (fun j v c hv hc=>ih j v c hv hc n (kids (by simpa [Lx.noNm] using hn) j c hc))
 | tup vs cs hl _ ih =>
  intro n hn
  cases n with
  | zero=>simp [Lx.noNm] at hn
  | succ n=>exact .tup vs cs hl (fun j v c hv hc=>ih j v c hv hc n (kids (by simpa [Lx.noNm] using hn) j c hc))
 | fn f vs cs hl _ ih =>
  intro n hn
  cases n with
  | zero=>simp [Lx.noNm] at hn
  | succ n=>exact .fn f vs cs hl (fun j v c hv hc=>ih j v c hv hc n (kids (by simpa [Lx.noNm] using hn) j c hc))
 | dead v=>exact fun _ _=>.dead v

theorem Qf9x {H : List (AObj Ty El)} {k r : Nat} {o : AObj Ty El} (hk : k < H.length) : hpOf (H.set k o) r = if r = k then o else hpOf H r:=by
 unfold hpOf
 rw [List.getD_eq_getElem?_getD,List.getD_eq_getElem?_getD,List.getElem?_set]
 by_cases h : k = r
 ·subst h; simp [hk]
 ·rw [if_neg h,if_neg (fun e=>h e.symm)]
theorem Q13r {H : List (AObj Ty El)} {r : Nat} {o : AObj Ty El} (h : hpOf H r = o) (hg : o ≠ .gone) : o ∈ H:=by
 unfold hpOf at h
 rw [List.getD_eq_getElem?_getD] at h
 cases e : H[r]? with
 | none=>rw [e] at h; exact absurd h.symm hg
 | some x=>rw [e] at h; simp at h; subst h; exact List.mem_of_getElem? e

theorem Qewq.drop (hC : CodOK P C) {g : FuncId} {args : List (AV Ty El)} {H : List (AObj Ty El)} {res : AV Ty El} {H' : List (AObj Ty El)} (h : Qewq P C g args H res H') (k : Nat) (hk : k < H'.length) (hres : noNm k 6 res = true) (hobj : H'.all (objNm k) = true) :
  Qewq P C g args H res (H'.set k .out):=by
 intro w N vs hN hsz hrep
 refine (h w N vs hN hsz hrep).mono ?_
 rintro en w' ⟨v,N',rfl,hH,hv,hio,hroI,hroO,hfr,hF⟩
 let N2 : Nm:={ ν:=N'.ν,F:=fun r b=>r ≠ k ∧ N'.F r b,G:=fun r p v u=>r ≠ k ∧ N'.G r p v u,ro:=N'.ro }
 refine ⟨v,N2,rfl, ?_,hv.noNm hC (N':=N2) (fun r p v u hr hg=>⟨hr,hg⟩) (fun _ h=>h) 6 hres,fun r hr hs=>?_,hroI,hroO,hfr,fun r b hb=>hF r b hb.2⟩
 ·refine ⟨fun r=>?_,fun r p v u hg=>?_,fun r=>?_,fun r p v u hg=>hH.one r p v u hg.2,fun r r' b h1 h2=>hH.dist r r' b h1.2 h2.2,fun r b h1 h2=>hH.roNot r b h1.2 h2,hH.roLt⟩
  ·rw [Qf9x hk]
   by_cases hr : r = k
   ·rw [if_pos hr]; exact fun b hb=>hb.1 hr
   ·rw [if_neg hr]
    have ho:=hH.obj r
    cases e : hpOf H' r with
    | box cs =>
     rw [e] at ho
     have hm:=Q13r e (by simp)
     have hn:=List.all_eq_true.1 hobj _ hm
     obtain ⟨b,arr,t,h1,h2,h3,h4,h5,h6⟩:=ho
     exact ⟨b,arr,t,h1,h2,h3,h4,fun j v c hj hc=>(h5 j v c hj hc).noNm hC (N':=N2) (fun r p v u hr hg=>⟨hr,hg⟩) (fun _ h=>h) 6 (List.all_eq_true.1 hn c (List.mem_of_getElem? hc)),fun b'=>⟨fun hb=>(h6 b').1 hb.2,fun hb=>⟨hr,(h6 b').2 hb⟩⟩⟩
    | row T xs d vr vn m =>
     rw [e] at ho
     exact ⟨ho.1,(Deep.cast (N:=N') (N':=N2) hC (fun _ h=>h) (fun _ _=>rfl) _ _ _ _ _ _ ho.2 (fun _ _=>rfl)).blkEq (fun b=>⟨fun hb=>hb.2,fun hb=>⟨hr,hb⟩⟩)⟩
    | mp K V es =>
     have hm:=Q13r e (by simp)
     have hn:=List.all_eq_true.1 hobj _ hm
     simp [objNm] at hn
    | gone=>rw [e] at ho; exact fun b hb=>ho b hb.2
    | out=>rw [e] at ho; exact fun b hb=>ho b hb.2
  ·rw [Qf9x hk,if_neg hg.1]; exact hH.reg r p v u hg.2
  ·rw [Qf9x hk]
   by_cases hr : r = k
   ·rw [if_pos hr]; trivial
   ·rw [if_neg hr]
    have hf:=hH.full r
    cases e : hpOf H' r with
    | box cs=>rw [e] at hf; exact ⟨hr,hf⟩
    | mp K V es=>rw [e] at hf; exact ⟨hr,hf⟩
    | row T xs d vr vn m=>rw [e] at hf; exact ⟨⟨hr,hf.1⟩,fun p u h1 h2 h3 h4=>⟨hr,hf.2 p u h1 h2 h3 h4⟩⟩
    | gone=>trivial
    | out=>trivial
 ·refine hio r hr ?_
  by_cases e : r = k
  ·have : hpOf (H'.set k (.out : AObj Ty El)) r = .out:=by rw [Qf9x hk,if_pos e]
   simp [stays,this] at hs
  ·have : hpOf (H'.set k (.out : AObj Ty El)) r = hpOf H' r:=by rw [Qf9x hk,if_neg e]
   simpa only [stays,this] using hs

theorem Qewq.move (hC : CodOK P C) {g : FuncId} {args : List (AV Ty El)} {o0 : AObj Ty El} {T : Ty} {xs : List (El T)} {d : Nat} (h : Qewq P C g args [o0] (.own 0 [] 0) [.row T xs d 0 0 .no]) :
  Qewq P C g args [o0] (.own 1 [] 0) [.out,.row T xs d 0 0 .no]:=by
 intro w N vs hN hsz hrep
 refine (h w N vs hN hsz hrep).mono ?_
 rintro en w' ⟨v,N',rfl,hH,hv,hio,hroI,hroO,hfr,hF⟩
 let N2 : Nm:={ ν:=fun _=>N'.ν 0,F:=fun r b=>r = 1 ∧ N'.F 0 b,G:=fun r p v u=>r = 1 ∧ N'.G 0 p v u,ro:=N'.ro }
 have e0 : ∀ r,hpOf ([.out,.row T xs d 0 0 .no] : List (AObj Ty El)) (r + 2) = .gone:=fun r=>by simp [hpOf]
 refine ⟨v,N2,rfl,⟨fun r=>?_,fun r p v u hg=>?_,fun r=>?_,fun r p v u hg=>hH.one 0 p v u hg.2,fun r r' b h1 h2=>h1.1.trans h2.1.symm,fun r b h1 h2=>hH.roNot 0 b h1.2 h2,hH.roLt⟩,.own 1 [] 0 v ⟨rfl,hv.inv_own⟩,fun r hr hs=>?_,hroI,hroO,hfr,fun r b hb=>hF 0 b hb.2⟩
 ·match r with
  | 0=>exact fun b hb=>by cases hb.1
  | 1 =>
   have ho:=hH.obj 0
   exact ⟨ho.1,(Deep.cast (N:=N') (N':=N2) hC (fun _ h=>h) (fun _ _=>rfl) _ _ _ _ _ _ ho.2 (fun _ _=>rfl)).blkEq (fun b=>⟨fun hb=>hb.2,fun hb=>⟨rfl,hb⟩⟩)⟩
  | r + 2=>rw [e0]; exact fun b hb=>by have:=hb.1; omega
 ·obtain ⟨rfl,hg⟩:=hg
  exact hH.reg 0 p v u hg
 ·match r with
  | 0=>trivial
  | 1 =>
   have hf:=hH.full 0
   exact ⟨⟨rfl,hf.1⟩,fun p u h1 h2 h3 h4=>⟨rfl,hf.2 p u h1 h2 h3 h4⟩⟩
  | r + 2=>rw [e0]; trivial
 ·match r,hr with
  | 0,_=>simp [hpOf,stays] at hs
end
end Lx
namespace Lx
open Go Go.Proofs
def Qul0 : List Fld → Fld → List Fld
 | [],f=>[f]
 | g :: r,f=>if g.what < f.what then g :: Qul0 r f else if g.what = f.what then (if Fld.later f g = true then f :: r else g :: r) else f :: g :: r
def insE : List Entry → Str → Fld → List Entry
 | [],n,f=>[⟨n,[f]⟩]
 | e :: r,n,f=>if Q7zj e.name n = true then e :: insE r n f else ⟨n,[f]⟩ :: e :: r
def putF (es : List Entry) (n : Str) (f : Fld) : List Entry :=
 if 0 ≤ entIx es n then es.set (entIx es n).toNat ⟨(es.getD (entIx es n).toNat (dfltP .entry)).name,Qul0 (es.getD (entIx es n).toNat (dfltP .entry)).fields f⟩ else insE es n f
def Qs7k (ks : List Kind) (ps : List Point) (c : Chg) : Bool:=Q2rq c.flight && (inR c.number 1 1000000 && (Qib4 ks ps && fitsV ks ps c.what c.value))
structure BookR where
 ks : List Kind
 ps : List Point
 es : List Entry
 code : Int
 deriving Inhabited
def takeF (ks : List Kind) (ps : List Point) (es : List Entry) (c : Chg) : BookR :=
 if Qn0o ks ps es = true then
  if Qs7k ks ps c = true then (if entIx es c.flight < 0 ∧ 12 ≤ es.length then ⟨ks,ps,es,3⟩ else ⟨ks,ps,putF es c.flight ⟨c.what,c.number,c.value⟩,0⟩) else ⟨ks,ps,es,2⟩
 else ⟨[],[],[],1⟩
def Qf5p : Ent Ty El:=⟨[.ro],2,fun a h=>match a,h with
 | [.agg [.sl .kind ks,.sl .point ps]],[]=>some (Qzta ks ps,.agg [.own 0 [] 0,.own 1 [] 0],[.row .kind ks 0 0 0 .no,.row .point ps 0 0 0 .no])
 | _,_=>none⟩
def Qc1o : Ent Ty El:=⟨[.ro],3,fun a h=>match a,h with
 | [.agg [.sl .kind ks,.sl .point ps,.sl .entry es]],[]=>some (Q8cx ks ps es,.agg [.own 0 [] 0,.own 1 [] 0,.own 2 [] 0],[.row .kind ks 0 0 0 .no,.row .point ps 0 0 0 .no,.row .entry es 1 0 0 .no])
 | _,_=>none⟩
def Ql3g : Ent Ty El:=⟨[.io,.ro],1,fun a h=>match a,h with
 | [.own 0 [] 0,.agg [.int .i64 w,.int .i64 n,.str v]],[.row .fld l 0 0 0 .no]=>some (Qckx l,.own 1 [] 0,[.out,.row .fld (Qul0 l ⟨w,n,v⟩) 0 0 0 .no])
 | _,_=>none⟩
theorem Q1mk {b n : Nat} (hb : b ≤ 256) (hn : n ≤ 500000000000) : decide (n * b ≤ 140737488355328) = true:=by
 have h : n * b ≤ 500000000000 * 256:=Nat.mul_le_mul hn hb
 exact decide_eq_true (by omega)
theorem newL {l : List Fld} {i : Nat} {f : Fld} : ([] ++ List.take ((i : Int).toNat - Int.toNat (0 : Int)) (List.drop (Int.toNat (0 : Int)) l) ++ [f] ++ List.take ((l.length : Int).toNat - (i : Int).toNat) (List.drop (i : Int).toNat l)) = l.take i ++ f :: l.drop i:=by
 have h : List.take (l.length - i) (List.drop i l) = List.drop i l:=List.take_of_length_le (by simp)
 simp [h]
theorem Qp68 {r : List Fld} {g f : Fld} (h : g.what < f.what) : Qul0 (g :: r) f = g :: Qul0 r f:=by rw [Qul0,if_pos h]
end Lx
namespace Lx
open Go Go.Proofs
noncomputable def Ql8d : RE Ty El:=⟨Tryz.prog,CP,[],Tryz.f213,0,[],[]⟩
theorem Qdix : REOK Ql8d Qnlm:=⟨CP_ok,Qye1,by kernel_rfl,by kernel_rfl⟩
theorem Qr5q (a b c d : Int) (s t : Str) : aRun Ql8d 600 false (body0 Ql8d.fn) (Q4gm Ql8d.fn [.agg [.int .i64 a,.int .i64 b,.str s],.agg [.int .i64 c,.int .i64 d,.str t]] []) =
 ifb (b != d) (some (.ret (.bool (decide (b > d))) [])) (some (.ret (.bool (!(Q7zj s t || s == t))) [])):=by kernel_rfl
theorem Qxzd (a b c d : Int) (s t : Str) : Qewq Tryz.prog CP Qnlm [.agg [.int .i64 a,.int .i64 b,.str s],.agg [.int .i64 c,.int .i64 d,.str t]] [] (.bool (Fld.later ⟨a,b,s⟩ ⟨c,d,t⟩)) []:=by
 refine Qewq.of Qdix (by kernel_rfl) (Qr5q a b c d s t) ?_
 rw [le_lt,Bool.not_not]
 by_cases h : b = d
 ·subst h
  rw [show (b != b) = false by simp,show Fld.later ⟨a,b,s⟩ ⟨c,b,t⟩ = Q7zj t s from if_pos rfl]
  exact Sat.ret rfl rfl
 ·rw [show (b != d) = true by simp [h],show Fld.later ⟨a,b,s⟩ ⟨c,d,t⟩ = decide (b > d) from if_neg h]
  exact Sat.ret rfl rfl
theorem Qa3h : EntOK Tryz.prog CP Qnlm Q7bn:=by
 refine ⟨⟨Tryz.f213,by kernel_rfl,by kernel_rfl,by kernel_rfl⟩,fun args H res H' h=>?_⟩
 simp only [Q7bn] at h
 split at h
 ·simp only [Option.some.injEq,Prod.mk.injEq] at h
  obtain ⟨hg,rfl,rfl⟩:=h
  exact Qxzd _ _ _ _ _ _
 ·cases h

noncomputable def Q9x1 : RE Ty El:=⟨Tryz.prog,CP,[],Tryz.f191,0,[],[]⟩
theorem Qejk : REOK Q9x1 Q373:=⟨CP_ok,Qye1,by kernel_rfl,by kernel_rfl⟩
theorem Q4sv (ks : List Kind) (ps : List Point) : aRun Q9x1 600 false (body0 Q9x1.fn) (Q4gm Q9x1.fn [.agg [.sl .kind ks,.sl .point ps]] []) =
 ifb (decide (((0 : Nat) + ks.length) * Qbhn Q9x1.P (40 : Nat) ≤ (140737488355328 : Nat))) (ifb (decide (((0 : Nat) + ps.length) * Qbhn Q9x1.P (160 : Nat) ≤ (140737488355328 : Nat))) (some (.ret (.agg [.own 0 [] 0,.own 1 [] 0]) [.row .kind ([] ++ ks) 0 0 0 .no,.row .point ([] ++ ps) 0 0 0 .no])) (none)) (none):=by kernel_rfl
theorem Qxit (ks : List Kind) (ps : List Point) (hg : Qzta ks ps = true) : Qewq Tryz.prog CP Q373 [.agg [.sl .kind ks,.sl .point ps]] [] (.agg [.own 0 [] 0,.own 1 [] 0]) [.row .kind ks 0 0 0 .no,.row .point ps 0 0 0 .no]:=by
 refine Qewq.of Qejk (by kernel_rfl) (Q4sv ks ps) ?_
 simp only [Qzta,Q6lz,Qjyp,Bool.and_eq_true,decide_eq_true_eq] at hg
 obtain ⟨⟨g0,_⟩,⟨g1,_⟩,_⟩:=hg
 have hb40 : Qbhn Q9x1.P 40 ≤ 256:=of_decide_eq_true (by kernel_rfl)
 have hb160 : Qbhn Q9x1.P 160 ≤ 256:=of_decide_eq_true (by kernel_rfl)
 rw [Q1mk hb40 (by simp; omega),Q1mk hb160 (by simp; omega)]
 exact Sat.ret rfl rfl
theorem Qoq9 : EntOK Tryz.prog CP Q373 Qf5p:=by
 refine ⟨⟨Tryz.f191,by kernel_rfl,by kernel_rfl,by kernel_rfl⟩,fun args H res H' h=>?_⟩
 simp only [Qf5p] at h
 split at h
 ·simp only [Option.some.injEq,Prod.mk.injEq] at h
  obtain ⟨hg,rfl,rfl⟩:=h
  exact Qxit _ _ hg
 ·cases h

noncomputable def Q947 : RE Ty El:=⟨Tryz.prog,CP,[(Q373,Qf5p)],Tryz.f138,0,[.agg [.own .kind,.own .point,.own .entry]],[(3,[(1,.any),(2,.any),(3,.any),(4,.any)])]⟩
theorem Qg3r : REOK Q947 Qfx9:=⟨CP_ok,(TabOK.cons Qoq9 Qye1),by kernel_rfl,by kernel_rfl⟩
theorem Qhyh (ks : List Kind) (ps : List Point) (es : List Entry) : aRun Q947 600 false (body0 Q947.fn) (Q4gm Q947.fn [.agg [.sl .kind ks,.sl .point ps,.sl .entry es]] []) =
 ifb (Qzta ks ps) (some (.go (Qu6t Q947.fn 3) [.ptr 0 0,.ptr 1 0,.ptr 2 0,.int .i64 (0 : Int)] [.box [.sl .kind ks,.sl .point ps,.sl .entry es],.box [.nils,.nils,.nils],.box [.own 3 [] 0,.own 4 [] 0,.nils],.row .kind ks 0 0 0 .no,.row .point ps 0 0 0 .no])) (none):=by kernel_rfl
theorem Qswp (x0 : Int) (x1 : List (El .kind)) (x2 : List (El .point)) (x3 : List (El .entry)) (x4 : List (El .kind)) (x5 : List (El .point)) : aRun Q947 600 true (Qu6t Q947.fn 3) (cutSt Q947.fn (Q1m4 Q947 (Qu6t Q947.fn 3)) [.ptr 0 0,.ptr 1 0,.ptr 2 0,.int .i64 x0] [.box [.sl .kind x1,.sl .point x2,.sl .entry x3],.box [.nils,.nils,.nils],.box [.own 3 [] 0,.own 4 [] 0,.nils],.row .kind x4 0 0 0 .no,.row .point x5 0 0 0 .no]) =
 ifb (decide (x0 < (↑x3.length : Int))) (ifb (inb x0 x3.length) (ifb (inb x0 x3.length) (ifb (decide (((0 : Nat) + (x3.getD x0.toNat (Q947.C.dflt Ty.entry)).fields.length) * Qbhn Q947.P (94 : Nat) ≤ (140737488355328 : Nat))) (some (.go (Qu6t Q947.fn 3) [.ptr 0 0,.ptr 1 0,.ptr 2 0,.int .i64 (IntKind.i64.wrap (x0 + (1 : Int)))] [.box [.sl .kind x1,.sl .point x2,.sl .entry x3],.box [.nils,.nils,.nils],.box [.own 3 [] 0,.own 4 [] 0,.own 5 [] 0],.row .kind x4 0 0 0 .no,.row .point x5 0 0 0 .no,.row .entry ([Entry.mk (x3.getD x0.toNat (Q947.C.dflt Ty.entry)).name ([] ++ (x3.getD x0.toNat (Q947.C.dflt Ty.entry)).fields)]) 1 0 0 .no])) (none)) (none)) (none)) (some (.ret (.agg [.own 0 [] 0,.own 1 [] 0,.own 2 [] 0]) [.row .kind x4 0 0 0 .no,.row .point x5 0 0 0 .no,.row .entry [] 1 0 0 .no])):=by kernel_rfl
theorem Q3i1 (x0 : Int) (x1 : List (El .kind)) (x2 : List (El .point)) (x3 : List (El .entry)) (x4 : List (El .kind)) (x5 : List (El .point)) (x6 : List (El .entry)) : aRun Q947 600 true (Qu6t Q947.fn 3) (cutSt Q947.fn (Q1m4 Q947 (Qu6t Q947.fn 3)) [.ptr 0 0,.ptr 1 0,.ptr 2 0,.int .i64 x0] [.box [.sl .kind x1,.sl .point x2,.sl .entry x3],.box [.nils,.nils,.nils],.box [.own 3 [] 0,.own 4 [] 0,.own 5 [] 0],.row .kind x4 0 0 0 .no,.row .point x5 0 0 0 .no,.row .entry x6 1 0 0 .no]) =
 ifb (decide (x0 < (↑x3.length : Int))) (ifb (inb x0 x3.length) (ifb (inb x0 x3.length) (ifb (decide (((0 : Nat) + (x3.getD x0.toNat (Q947.C.dflt Ty.entry)).fields.length) * Qbhn Q947.P (94 : Nat) ≤ (140737488355328 : Nat))) (ifb (decide ((x6.length + [Entry.mk (x3.getD x0.toNat (Q947.C.dflt Ty.entry)).name ([] ++ (x3.getD x0.toNat (Q947.C.dflt Ty.entry)).fields)].length) * Qbhn Q947.P (92 : Nat) ≤ (140737488355328 : Nat))) (some (.go (Qu6t Q947.fn 3) [.ptr 0 0,.ptr 1 0,.ptr 2 0,.int .i64 (IntKind.i64.wrap (x0 + (1 : Int)))] [.box [.sl .kind x1,.sl .point x2,.sl .entry x3],.box [.nils,.nils,.nils],.box [.own 3 [] 0,.own 4 [] 0,.own 5 [] 0],.row .kind x4 0 0 0 .no,.row .point x5 0 0 0 .no,.row .entry (x6 ++ [Entry.mk (x3.getD x0.toNat (Q947.C.dflt Ty.entry)).name ([] ++ (x3.getD x0.toNat (Q947.C.dflt Ty.entry)).fields)]) 1 0 0 .no])) (none)) (none)) (none)) (none)) (some (.ret (.agg [.own 0 [] 0,.own 1 [] 0,.own 2 [] 0]) [.row .kind x4 0 0 0 .no,.row .point x5 0 0 0 .no,.row .entry x6 1 0 0 .no])):=by kernel_rfl
theorem Q8wy (ks : List Kind) (ps : List Point) (es : List Entry) (g0 : es.length ≤ 1000000000) (g1 : es.all (fun z : Entry=>Qytc z.name z.fields) = true) : ∀ (d i : Nat),i + d = es.length →
  Cut Q947 Qfx9 3 [.ptr 0 0,.ptr 1 0,.ptr 2 0,.int .i64 (i : Int)] [.box [.sl .kind ks,.sl .point ps,.sl .entry es],.box [.nils,.nils,.nils],.box [.own 3 [] 0,.own 4 [] 0,.own 5 [] 0],.row .kind ks 0 0 0 .no,.row .point ps 0 0 0 .no,.row .entry (es.take i) 1 0 0 .no] (.agg [.own 0 [] 0,.own 1 [] 0,.own 2 [] 0]) [.row .kind ks 0 0 0 .no,.row .point ps 0 0 0 .no,.row .entry es 1 0 0 .no]:=by
 have hb92 : Qbhn Q947.P 92 ≤ 256:=of_decide_eq_true (by kernel_rfl)
 have hb94 : Qbhn Q947.P 94 ≤ 256:=of_decide_eq_true (by kernel_rfl)
 intro d
 induction d with
 | zero =>
  intro i hi
  refine Cut.of Qg3r rfl (Q3i1 i ks ps es ks ps _) ?_
  rw [show decide ((i : Int) < (es.length : Int)) = false from decide_eq_false (by omega),List.take_of_length_le (by omega)]
  exact Sat.ret rfl rfl
 | succ d ih =>
  intro i hi
  refine Cut.of Qg3r rfl (Q3i1 i ks ps es ks ps _) ?_
  have hlt : i < es.length:=by omega
  have hw : IntKind.wrap .i64 ((i : Int) + 1) = ((i + 1 : Nat) : Int):=by rw [Qbrg] <;> omega
  have hw1 : IntKind.wrap .i64 ((i : Int) - 1) = (i : Int) - 1:=by rw [Qbrg] <;> omega
  have hd : es.drop i = es[i] :: es.drop (i + 1):=List.drop_eq_getElem_cons hlt
  have hx : es.getD (i : Int).toNat (Q947.C.dflt .entry) = es[i]:=by simp [hlt]
  have hin : inb (i : Int) es.length = true:=by simp only [inb,Bool.and_eq_true,decide_eq_true_eq]; omega
  have hlo : decide ((i : Int) < (es.length : Int)) = true:=decide_eq_true (by omega)
  have htk:=List.take_succ_eq_append_getElem hlt
  have hl : (es.take (i + 1)).getLast? = some es[i]:=by rw [List.take_succ_eq_append_getElem hlt,List.getLast?_concat]
  have hz:=List.all_eq_true.1 g1 es[i] (List.getElem_mem hlt)
  simp only [Qytc,Qckx,Bool.and_eq_true,decide_eq_true_eq] at hz
  rw [hlo,hin,hx,hw,Q1mk hb94 (by simp; omega),Q1mk hb92 (by simp; omega)]
  simp only [Qd8q,List.nil_append]
  have nx:=ih (i + 1) (by omega)
  rw [htk] at nx
  exact Sat.cut nx
theorem Qg48 (ks : List Kind) (ps : List Point) (es : List Entry) (g0 : es.length ≤ 1000000000) (g1 : es.all (fun z : Entry=>Qytc z.name z.fields) = true) :
  Cut Q947 Qfx9 3 [.ptr 0 0,.ptr 1 0,.ptr 2 0,.int .i64 (0 : Int)] [.box [.sl .kind ks,.sl .point ps,.sl .entry es],.box [.nils,.nils,.nils],.box [.own 3 [] 0,.own 4 [] 0,.nils],.row .kind ks 0 0 0 .no,.row .point ps 0 0 0 .no] (.agg [.own 0 [] 0,.own 1 [] 0,.own 2 [] 0]) [.row .kind ks 0 0 0 .no,.row .point ps 0 0 0 .no,.row .entry es 1 0 0 .no]:=by
 have hb92 : Qbhn Q947.P 92 ≤ 256:=of_decide_eq_true (by kernel_rfl)
 have hb94 : Qbhn Q947.P 94 ≤ 256:=of_decide_eq_true (by kernel_rfl)
 refine Cut.of Qg3r rfl (Qswp 0 ks ps es ks ps) ?_
 cases es with
 | nil=>exact Sat.ret rfl rfl
 | cons e es =>
  have hz:=g1
  rw [List.all_cons,Bool.and_eq_true] at hz
  replace hz:=hz.1
  simp only [Qytc,Qckx,Bool.and_eq_true,decide_eq_true_eq] at hz
  have hi0 : inb (0 : Int) (e :: es).length = true:=by simp only [inb,Bool.and_eq_true,decide_eq_true_eq,List.length_cons]; omega
  have hx0 : (e :: es).getD (Int.toNat 0) (Q947.C.dflt .entry) = e:=rfl
  rw [show decide ((0 : Int) < ((e :: es).length : Int)) = true from decide_eq_true (by simp only [List.length_cons]; omega),hi0,hx0,Q1mk hb94 (by simp; omega)]
  simp only [Qd8q,List.nil_append]
  exact Sat.cut (Q8wy ks ps (e :: es) g0 g1 es.length 1 (by simp only [List.length_cons]; omega))
theorem Ql4i (ks : List Kind) (ps : List Point) (es : List Entry) (hg : Q8cx ks ps es = true) : Qewq Tryz.prog CP Qfx9 [.agg [.sl .kind ks,.sl .point ps,.sl .entry es]] [] (.agg [.own 0 [] 0,.own 1 [] 0,.own 2 [] 0]) [.row .kind ks 0 0 0 .no,.row .point ps 0 0 0 .no,.row .entry es 1 0 0 .no]:=by
 refine Qewq.of Qg3r (by kernel_rfl) (Qhyh ks ps es) ?_
 simp only [Q8cx,Bool.and_eq_true] at hg
 obtain ⟨g0,g1,g2,_⟩:=hg
 rw [show Qzta ks ps = true by simp only [Qzta,g0,g1,Bool.and_true]]
 simp only [Qnwa,Bool.and_eq_true,decide_eq_true_eq] at g2
 exact Sat.cut (Qg48 ks ps es g2.1 g2.2)
theorem Qaka : EntOK Tryz.prog CP Qfx9 Qc1o:=by
 refine ⟨⟨Tryz.f138,by kernel_rfl,by kernel_rfl,by kernel_rfl⟩,fun args H res H' h=>?_⟩
 simp only [Qc1o] at h
 split at h
 ·simp only [Option.some.injEq,Prod.mk.injEq] at h
  obtain ⟨hg,rfl,rfl⟩:=h
  exact Ql4i _ _ _ hg
 ·cases h

noncomputable def Qfex : RE Ty El:=⟨Tryz.prog,CP,[(Qnlm,Q7bn)],Tryz.f212,1,[.own .fld],[(2,[(0,.any),(3,.any),(5,.any)])]⟩
theorem Qf5e : REOK Qfex Qfs9:=⟨CP_ok,(TabOK.cons Qa3h Qye1),by kernel_rfl,by kernel_rfl⟩
theorem Qj5p (l : List Fld) (w n : Int) (v : Str) : aRun Qfex 600 false (body0 Qfex.fn) (Q4gm Qfex.fn [.own 0 [] 0,.agg [.int .i64 w,.int .i64 n,.str v]] [.row .fld l 0 0 0 .no]) =
 some (.go (Qu6t Qfex.fn 2) [.own 0 [] 0,.ptr 1 0,.int .i64 (0 : Int)] [.row .fld l 0 0 0 .no,.box [.int .i64 w,.int .i64 n,.str v]]):=by kernel_rfl
theorem Qdk2 (x0 : Int) (x1 : List (El .fld)) (x2 : Int) (x3 : Int) (x4 : Str) : aRun Qfex 600 true (Qu6t Qfex.fn 2) (cutSt Qfex.fn (Q1m4 Qfex (Qu6t Qfex.fn 2)) [.own 0 [] 0,.ptr 1 0,.int .i64 x0] [.row .fld x1 0 0 0 .no,.box [.int .i64 x2,.int .i64 x3,.str x4]]) =
 ifb (decide (x0 < (↑x1.length : Int))) (ifb (inb x0 x1.length) (ifb (decide ((x1.getD x0.toNat (Qfex.C.dflt Ty.fld)).what < x2)) (some (.go (Qu6t Qfex.fn 2) [.own 0 [] 0,.ptr 1 0,.int .i64 (IntKind.i64.wrap (x0 + (1 : Int)))] [.row .fld x1 0 0 0 .no,.box [.int .i64 x2,.int .i64 x3,.str x4]])) (ifb (decide (x0 < (↑x1.length : Int))) (ifb (inb x0 x1.length) (ifb ((x1.getD x0.toNat (Qfex.C.dflt Ty.fld)).what == x2) (ifb (inb x0 x1.length) (ifb ((Fld.mk x2 x3 x4).later (x1.getD x0.toNat (Qfex.C.dflt Ty.fld))) (ifb (inb x0 x1.length) (some (.ret (.own 0 [] 0) [.row .fld (x1.set x0.toNat (Fld.mk x2 x3 x4)) 0 0 0 .no])) (none)) (some (.ret (.own 0 [] 0) [.row .fld x1 0 0 0 .no]))) (none)) (ifb (decide ((0 : Int) ≤ (0 : Int)) && (decide ((0 : Int) ≤ x0) && decide (x0 ≤ (↑x1.length : Int)))) (ifb (decide (((0 : Nat) + (List.take (x0.toNat - Int.toNat (0 : Int)) (List.drop (Int.toNat (0 : Int)) x1)).length) * Qbhn Qfex.P (94 : Nat) ≤ (140737488355328 : Nat))) (ifb (decide ((([] ++ List.take (x0.toNat - Int.toNat (0 : Int)) (List.drop (Int.toNat (0 : Int)) x1)).length + [Fld.mk x2 x3 x4].length) * Qbhn Qfex.P (94 : Nat) ≤ (140737488355328 : Nat))) (ifb (decide ((0 : Int) ≤ x0) && (decide (x0 ≤ (↑x1.length : Int)) && decide ((↑x1.length : Int) ≤ (↑x1.length : Int)))) (ifb (decide ((([] ++ List.take (x0.toNat - Int.toNat (0 : Int)) (List.drop (Int.toNat (0 : Int)) x1) ++ [Fld.mk x2 x3 x4]).length + (List.take ((↑x1.length : Int).toNat - x0.toNat) (List.drop x0.toNat x1)).length) * Qbhn Qfex.P (94 : Nat) ≤ (140737488355328 : Nat))) (some (.ret (.own 1 [] 0) [.row .fld x1 0 0 0 .no,.row .fld ([] ++ List.take (x0.toNat - Int.toNat (0 : Int)) (List.drop (Int.toNat (0 : Int)) x1) ++ [Fld.mk x2 x3 x4] ++ List.take ((↑x1.length : Int).toNat - x0.toNat) (List.drop x0.toNat x1)) 0 0 0 .no])) (none)) (none)) (none)) (none)) (none))) (none)) (ifb (decide ((0 : Int) ≤ (0 : Int)) && (decide ((0 : Int) ≤ x0) && decide (x0 ≤ (↑x1.length : Int)))) (ifb (decide (((0 : Nat) + (List.take (x0.toNat - Int.toNat (0 : Int)) (List.drop (Int.toNat (0 : Int)) x1)).length) * Qbhn Qfex.P (94 : Nat) ≤ (140737488355328 : Nat))) (ifb (decide ((([] ++ List.take (x0.toNat - Int.toNat (0 : Int)) (List.drop (Int.toNat (0 : Int)) x1)).length + [Fld.mk x2 x3 x4].length) * Qbhn Qfex.P (94 : Nat) ≤ (140737488355328 : Nat))) (ifb (decide ((0 : Int) ≤ x0) && (decide (x0 ≤ (↑x1.length : Int)) && decide ((↑x1.length : Int) ≤ (↑x1.length : Int)))) (ifb (decide ((([] ++ List.take (x0.toNat - Int.toNat (0 : Int)) (List.drop (Int.toNat (0 : Int)) x1) ++ [Fld.mk x2 x3 x4]).length + (List.take ((↑x1.length : Int).toNat - x0.toNat) (List.drop x0.toNat x1)).length) * Qbhn Qfex.P (94 : Nat) ≤ (140737488355328 : Nat))) (some (.ret (.own 1 [] 0) [.row .fld x1 0 0 0 .no,.row .fld ([] ++ List.take (x0.toNat - Int.toNat (0 : Int)) (List.drop (Int.toNat (0 : Int)) x1) ++ [Fld.mk x2 x3 x4] ++ List.take ((↑x1.length : Int).toNat - x0.toNat) (List.drop x0.toNat x1)) 0 0 0 .no])) (none)) (none)) (none)) (none)) (none)))) (none)) (ifb (decide (x0 < (↑x1.length : Int))) (ifb (inb x0 x1.length) (ifb ((x1.getD x0.toNat (Qfex.C.dflt Ty.fld)).what == x2) (ifb (inb x0 x1.length) (ifb ((Fld.mk x2 x3 x4).later (x1.getD x0.toNat (Qfex.C.dflt Ty.fld))) (ifb (inb x0 x1.length) (some (.ret (.own 0 [] 0) [.row .fld (x1.set x0.toNat (Fld.mk x2 x3 x4)) 0 0 0 .no])) (none)) (some (.ret (.own 0 [] 0) [.row .fld x1 0 0 0 .no]))) (none)) (ifb (decide ((0 : Int) ≤ (0 : Int)) && (decide ((0 : Int) ≤ x0) && decide (x0 ≤ (↑x1.length : Int)))) (ifb (decide (((0 : Nat) + (List.take (x0.toNat - Int.toNat (0 : Int)) (List.drop (Int.toNat (0 : Int)) x1)).length) * Qbhn Qfex.P (94 : Nat) ≤ (140737488355328 : Nat))) (ifb (decide ((([] ++ List.take (x0.toNat - Int.toNat (0 : Int)) (List.drop (Int.toNat (0 : Int)) x1)).length + [Fld.mk x2 x3 x4].length) * Qbhn Qfex.P (94 : Nat) ≤ (140737488355328 : Nat))) (ifb (decide ((0 : Int) ≤ x0) && (decide (x0 ≤ (↑x1.length : Int)) && decide ((↑x1.length : Int) ≤ (↑x1.length : Int)))) (ifb (decide ((([] ++ List.take (x0.toNat - Int.toNat (0 : Int)) (List.drop (Int.toNat (0 : Int)) x1) ++ [Fld.mk x2 x3 x4]).length + (List.take ((↑x1.length : Int).toNat - x0.toNat) (List.drop x0.toNat x1)).length) * Qbhn Qfex.P (94 : Nat) ≤ (140737488355328 : Nat))) (some (.ret (.own 1 [] 0) [.row .fld x1 0 0 0 .no,.row .fld ([] ++ List.take (x0.toNat - Int.toNat (0 : Int)) (List.drop (Int.toNat (0 : Int)) x1) ++ [Fld.mk x2 x3 x4] ++ List.take ((↑x1.length : Int).toNat - x0.toNat) (List.drop x0.toNat x1)) 0 0 0 .no])) (none)) (none)) (none)) (none)) (none))) (none)) (ifb (decide ((0 : Int) ≤ (0 : Int)) && (decide ((0 : Int) ≤ x0) && decide (x0 ≤ (↑x1.length : Int)))) (ifb (decide (((0 : Nat) + (List.take (x0.toNat - Int.toNat (0 : Int)) (List.drop (Int.toNat (0 : Int)) x1)).length) * Qbhn Qfex.P (94 : Nat) ≤ (140737488355328 : Nat))) (ifb (decide ((([] ++ List.take (x0.toNat - Int.toNat (0 : Int)) (List.drop (Int.toNat (0 : Int)) x1)).length + [Fld.mk x2 x3 x4].length) * Qbhn Qfex.P (94 : Nat) ≤ (140737488355328 : Nat))) (ifb (decide ((0 : Int) ≤ x0) && (decide (x0 ≤ (↑x1.length : Int)) && decide ((↑x1.length : Int) ≤ (↑x1.length : Int)))) (ifb (decide ((([] ++ List.take (x0.toNat - Int.toNat (0 : Int)) (List.drop (Int.toNat (0 : Int)) x1) ++ [Fld.mk x2 x3 x4]).length + (List.take ((↑x1.length : Int).toNat - x0.toNat) (List.drop x0.toNat x1)).length) * Qbhn Qfex.P (94 : Nat) ≤ (140737488355328 : Nat))) (some (.ret (.own 1 [] 0) [.row .fld x1 0 0 0 .no,.row .fld ([] ++ List.take (x0.toNat - Int.toNat (0 : Int)) (List.drop (Int.toNat (0 : Int)) x1) ++ [Fld.mk x2 x3 x4] ++ List.take ((↑x1.length : Int).toNat - x0.toNat) (List.drop x0.toNat x1)) 0 0 0 .no])) (none)) (none)) (none)) (none)) (none))):=by kernel_rfl
theorem Qnvi (l : List Fld) (w n : Int) (v : Str) (g0 : l.length ≤ 1000000000) : ∀ (d i : Nat),i + d = l.length → Qul0 l ⟨w,n,v⟩ = l.take i ++ Qul0 (l.drop i) ⟨w,n,v⟩ →
  CutE Qfex Qfs9 2 [.own 0 [] 0,.ptr 1 0,.int .i64 (i : Int)] [.row .fld l 0 0 0 .no,.box [.int .i64 w,.int .i64 n,.str v]] (fun v' h=>(v' = .own 0 [] 0 ∧ h = [.row .fld (Qul0 l ⟨w,n,v⟩) 0 0 0 .no]) ∨ (v' = .own 1 [] 0 ∧ h = [.row .fld l 0 0 0 .no,.row .fld (Qul0 l ⟨w,n,v⟩) 0 0 0 .no])):=by
 have hb : Qbhn Qfex.P 94 ≤ 256:=of_decide_eq_true (by kernel_rfl)
 intro d
 induction d with
 | zero =>
  intro i hi hf
  refine CutE.of Qf5e rfl (Qdk2 i l w n v) ?_
  rw [show decide ((i : Int) < (l.length : Int)) = false from decide_eq_false (by omega)]
  simp only [Qk7y]
  rw [List.drop_of_length_le (by omega)] at hf
  refine SatE.need (by simp; omega) (SatE.need (Q1mk hb (by simp; omega)) (SatE.need (Q1mk hb (by simp; omega)) (SatE.need (by simp; omega) (SatE.need (Q1mk hb (by simp; omega)) (SatE.ret (.inr ⟨rfl, ?_⟩))))))
  rw [newL,hf,List.drop_of_length_le (by omega)]; rfl
 | succ d ih =>
  intro i hi hf
  refine CutE.of Qf5e rfl (Qdk2 i l w n v) ?_
  have hlt : i < l.length:=by omega
  have hw : IntKind.wrap .i64 ((i : Int) + 1) = ((i + 1 : Nat) : Int):=by rw [Qbrg] <;> omega
  have hw1 : IntKind.wrap .i64 ((i : Int) - 1) = (i : Int) - 1:=by rw [Qbrg] <;> omega
  have hd : l.drop i = l[i] :: l.drop (i + 1):=List.drop_eq_getElem_cons hlt
  have hx : l.getD (i : Int).toNat (Qfex.C.dflt .fld) = l[i]:=by simp [hlt]
  have hin : inb (i : Int) l.length = true:=by simp only [inb,Bool.and_eq_true,decide_eq_true_eq]; omega
  have hlo : decide ((i : Int) < (l.length : Int)) = true:=decide_eq_true (by omega)
  have htk:=List.take_succ_eq_append_getElem hlt
  have hl : (l.take (i + 1)).getLast? = some l[i]:=by rw [List.take_succ_eq_append_getElem hlt,List.getLast?_concat]
  rw [hd] at hf
  rw [hlo,hin,hx,hw]
  simp only [Qd8q]
  by_cases h1 : l[i].what < w
  ·rw [show decide (l[i].what < w) = true from decide_eq_true h1]
   rw [Qp68 (r:=l.drop (i + 1)) (f:=⟨w,n,v⟩) h1] at hf
   have hf' : Qul0 l ⟨w,n,v⟩ = l.take (i + 1) ++ Qul0 (l.drop (i + 1)) ⟨w,n,v⟩:=hf.trans ((show l.take i ++ l[i] :: Qul0 (l.drop (i + 1)) ⟨w,n,v⟩ = (l.take i ++ [l[i]]) ++ Qul0 (l.drop (i + 1)) ⟨w,n,v⟩ by rw [List.append_assoc]; rfl).trans (congrArg (fun z=>z ++ Qul0 (l.drop (i + 1)) ⟨w,n,v⟩) htk.symm))
   exact SatE.cut (ih (i + 1) (by omega) hf')
  rw [show decide (l[i].what < w) = false from decide_eq_false h1]
  simp only [Qk7y]
  rw [Qul0,if_neg h1] at hf
  by_cases h2 : l[i].what = w
  ·rw [show (l[i].what == w) = true by simp [h2]]
   simp only [Qd8q]
   rw [if_pos h2] at hf
   cases h3 : Fld.later ⟨w,n,v⟩ l[i] with
   | true =>
    rw [h3] at hf
    refine SatE.ret (.inl ⟨rfl, ?_⟩)
    rw [hf,if_pos rfl,Int.toNat_natCast,List.set_eq_take_append_cons_drop,if_pos hlt]
   | false =>
    rw [h3] at hf
    refine SatE.ret (.inl ⟨rfl, ?_⟩)
    rw [hf,if_neg (by simp),← hd,List.take_append_drop]
  ·rw [show (l[i].what == w) = false by simp [h2]]
   simp only [Qk7y]
   rw [if_neg h2,← hd] at hf
   refine SatE.need (by simp; omega) (SatE.need (Q1mk hb (by simp; omega)) (SatE.need (Q1mk hb (by simp; omega)) (SatE.need (by simp; omega) (SatE.need (Q1mk hb (by simp; omega)) (SatE.ret (.inr ⟨rfl, ?_⟩))))))
   rw [newL,hf]
theorem Q6qg (l : List Fld) (w n : Int) (v : Str) (hg : Qckx l = true) : Qewq Tryz.prog CP Qfs9 [.own 0 [] 0,.agg [.int .i64 w,.int .i64 n,.str v]] [.row .fld l 0 0 0 .no] (.own 1 [] 0) [.out,.row .fld (Qul0 l ⟨w,n,v⟩) 0 0 0 .no]:=by
 simp only [Qckx,Bool.and_eq_true,decide_eq_true_eq] at hg
 have hE : CallE Qfex.P Qfex.C Qfs9 [.own 0 [] 0,.agg [.int .i64 w,.int .i64 n,.str v]] [.row .fld l 0 0 0 .no] (fun v' h=>(v' = .own 0 [] 0 ∧ h = [.row .fld (Qul0 l ⟨w,n,v⟩) 0 0 0 .no]) ∨ (v' = .own 1 [] 0 ∧ h = [.row .fld l 0 0 0 .no,.row .fld (Qul0 l ⟨w,n,v⟩) 0 0 0 .no])):=CallE.of Qf5e (by kernel_rfl) (Qj5p l w n v) (SatE.cut (Qnvi l w n v hg.1 l.length 0 (by omega) rfl))
 obtain ⟨res,H',h,hq⟩:=hE
 rcases hq with ⟨rfl,rfl⟩ | ⟨rfl,rfl⟩
 ·exact Qewq.move CP_ok h
 ·exact Qewq.drop CP_ok h 0 (by simp) rfl rfl
theorem Q0b0 : EntOK Tryz.prog CP Qfs9 Ql3g:=by
 refine ⟨⟨Tryz.f212,by kernel_rfl,by kernel_rfl,by kernel_rfl⟩,fun args H res H' h=>?_⟩
 simp only [Ql3g] at h
 split at h
 ·simp only [Option.some.injEq,Prod.mk.injEq] at h
  obtain ⟨hg,rfl,rfl⟩:=h
  exact Q6qg _ _ _ _ hg
 ·cases h
end Lx
namespace Lx
open Go Go.Proofs
def putOk (es : List Entry) : Bool:=decide (es.length < 1000000000) && es.all (fun z=>Qytc z.name z.fields)
def Q8fw : Ent Ty El:=⟨[.io,.ro,.ro],0,fun a h=>match a,h with
 | [.agg [.own 0 [] 0,.own 1 [] 0,.own 2 [] 0],.str n,.agg [.int .i64 w,.int .i64 m,.str v]],[.row .kind ks 0 0 0 .no,.row .point ps 0 0 0 .no,.row .entry es 1 0 0 .no] =>
  some (putOk es,.agg [.own 0 [] 0,.own 1 [] 0,.sl .entry (putF es n ⟨w,m,v⟩)],[.row .kind ks 0 0 0 .no,.row .point ps 0 0 0 .no,.out])
 | _,_=>none⟩
theorem newG {α : Type} {l : List α} {i : Nat} {f : α} : ([] ++ List.take ((i : Int).toNat - Int.toNat (0 : Int)) (List.drop (Int.toNat (0 : Int)) l) ++ [f] ++ List.take ((l.length : Int).toNat - (i : Int).toNat) (List.drop (i : Int).toNat l)) = l.take i ++ f :: l.drop i:=by
 have h : List.take (l.length - i) (List.drop i l) = List.drop i l:=List.take_of_length_le (by simp)
 simp [h]
theorem Q2m4 {r : List Entry} {e : Entry} {n : Str} {f : Fld} (h : Q7zj e.name n = true) : insE (e :: r) n f = e :: insE r n f:=by rw [insE,if_pos h]
theorem Qj3b {r : List Entry} {e : Entry} {n : Str} {f : Fld} (h : Q7zj e.name n = false) : insE (e :: r) n f = ⟨n,[f]⟩ :: e :: r:=by rw [insE,if_neg (by simp [h])]
theorem Q5v6 {es : List Entry} {n : Str} {f : Fld} (h : 0 ≤ entIx es n) : putF es n f = es.set (entIx es n).toNat ⟨(es.getD (entIx es n).toNat (dfltP .entry)).name,Qul0 (es.getD (entIx es n).toNat (dfltP .entry)).fields f⟩:=if_pos h
theorem Qk9v {es : List Entry} {n : Str} {f : Fld} (h : ¬ 0 ≤ entIx es n) : putF es n f = insE es n f:=if_neg h
end Lx
namespace Lx
open Go
section
variable {Ty : Type} {El : Ty → Type} {C : Cod Ty El} {P : Program}
theorem Qewq.frz (hC : CodOK P C) {g : FuncId} {args : List (AV Ty El)} {H : List (AObj Ty El)} {res : AV Ty El} {H' : List (AObj Ty El)} {r d d' : Nat} {T : Ty} {xs : List (El T)} (hk : r < H.length) (hr : hpOf H r = .row T xs d 0 0 .no) (hd : d' ≤ d)
  (h : Qewq P C g args (H.set r (.row T xs d' 0 0 .no)) res H') : Qewq P C g args H res H':=by
 intro w N vs hN hsz hrep
 have ho:=hN.obj r
 rw [hr] at ho
 obtain ⟨B',h1,h2,h3⟩:=Deep.freeze hC d' d _ _ _ _ _ hd ho.2 (fun _ h=>h)
 have hs : Step C (fun k=>k = r) N (N.upd r (N.ν r) B' (rowG C w T xs (N.ν r) d' 0 0 .no) (fun b=>N.F r b ∧ ¬ B' b)) (hpOf H) (setH (hpOf H) r (.row T xs d' 0 0 .no)) w w:=by
  refine Step.row hC hN (fun _ _ _=>rfl) (Nat.le_refl _) ho.1 (fun hL=>h3 _ hL (fun b hb hn=>.inr ⟨hb,hn⟩)) (fun p v u hg=>?_) (fun b hb=>.inl (h1 b hb)) (fun b hb=>.inr hb.1) (fun b hb hn=>hn.2 hb) rfl rfl rfl
  have:=hN.reg r p v u hg
  rw [hr] at this
  cases p with
  | nil=>exact this
  | cons q p=>exact ⟨this.1,fun hm e hl=>this.2 rfl e (Nat.le_trans hl hd)⟩
 have he : hpOf (H.set r (.row T xs d' 0 0 .no)) = setH (hpOf H) r (.row T xs d' 0 0 .no):=by
  funext k
  rw [Qf9x hk]
  by_cases e : k = r
  ·subst e; simp [Q3el]
  ·rw [if_neg e,Qte0 _ _ e]
 have hF2 : ∀ k b,(N.upd r (N.ν r) B' (rowG C w T xs (N.ν r) d' 0 0 .no) (fun b=>N.F r b ∧ ¬ B' b)).F k b → N.F k b:=fun k b hb=>by
  by_cases e : k = r
  ·subst e; simp only [Nm.upd_F_self] at hb; exact h1 b hb
  ·simpa [Nm.upd,e] using hb
 have hν2 : ∀ k,(N.upd r (N.ν r) B' (rowG C w T xs (N.ν r) d' 0 0 .no) (fun b=>N.F r b ∧ ¬ B' b)).ν k = N.ν k:=fun k=>by
  by_cases e : k = r
  ·subst e; simp
  ·simp [Nm.upd,e]
 refine (h w _ vs (by rw [he]; exact hN.step hC hs) hsz (fun j v x hv hx=>(hrep j v x hv hx).mono (hs.le hN))).mono ?_
 rintro en w' ⟨v,N',rfl,hH,hv,hio,hroI,hroO,hfr,hF⟩
 refine ⟨v,N',rfl,hH,hv,fun k hk hst=>(hio k (by simpa using hk) hst).trans (hν2 k),fun b hb=>hroI b ((hs.le hN).ro b hb),fun b hb=>?_,⟨hfr.os,hfr.tape,hfr.output,hfr.size,fun b hb hn=>hfr.block b hb (fun ⟨k,hb2⟩=>hn ⟨k,hF2 k b hb2⟩)⟩,fun k b hb=>(hF k b hb).imp id (fun ⟨k',hb'⟩=>⟨k',hF2 k' b hb'⟩)⟩
 rcases hroO b hb with h | h | ⟨k,hb'⟩
 ·rcases h with h | h
  ·exact .inl h
  ·exact .inr (.inr ⟨r,h.1⟩)
 ·exact .inr (.inl h)
 ·exact .inr (.inr ⟨k,hF2 k b hb'⟩)
variable {R : RE Ty El} {f : FuncId}
theorem Cut.frz (hC : CodOK R.P R.C) {id : Nat} {vals : List (AV Ty El)} {h : List (AObj Ty El)} {res : AV Ty El} {H' : List (AObj Ty El)} {r d d' : Nat} {T : Ty} {xs : List (El T)} (hk : r < h.length) (hr : hpOf h r = .row T xs d 0 0 .no) (hd : d' ≤ d)
  (hg : Cut R f id vals (h.set r (.row T xs d' 0 0 .no)) res H') : Cut R f id vals h res H':=by
 intro X N a w hn hm hS
 obtain ⟨N',hS',_⟩:=hS.freeze hC (r:=r) (T:=T) (xs:=xs) (d:=d) (d':=d') (vr:=0) (vn:=0) (vn':=0) hr hd (Nat.le_refl _)
 refine hg X N' a w hn hm ?_
 have he : (cutSt R.fn (Q1m4 R (Qu6t R.fn id)) vals (h.set r (.row T xs d' 0 0 .no))).hpF = setH (cutSt R.fn (Q1m4 R (Qu6t R.fn id)) vals h).hpF r (.row T xs d' 0 0 .no):=by
  funext k
  have e1 : hpOf (h.set r (.row T xs d' 0 0 .no)) k = if k = r then .row T xs d' 0 0 .no else hpOf h k:=Qf9x hk
  by_cases e : k = r
  ·subst e; rw [Q3el]; exact e1.trans (if_pos rfl)
  ·rw [Qte0 _ _ e]; exact e1.trans (if_neg e)
 rw [he]
 exact hS'
theorem CutE.frz (hC : CodOK R.P R.C) {id : Nat} {vals : List (AV Ty El)} {h : List (AObj Ty El)} {Q : AV Ty El → List (AObj Ty El) → Prop} {r d d' : Nat} {T : Ty} {xs : List (El T)} (hk : r < h.length) (hr : hpOf h r = .row T xs d 0 0 .no) (hd : d' ≤ d)
  (hg : CutE R f id vals (h.set r (.row T xs d' 0 0 .no)) Q) : CutE R f id vals h Q:=by
 obtain ⟨res,H',h1,h2⟩:=hg
 exact ⟨res,H',Cut.frz hC hk hr hd h1,h2⟩
end
end Lx
namespace Lx
open Go Go.Proofs
noncomputable def Qefd : RE Ty El:=⟨Tryz.prog,CP,[(Q4v9,Qf4o),(Qfs9,Ql3g)],Tryz.f139,3,[.agg [.own .kind,.own .point,.ro .entry]],[(6,[(1,.any),(3,.any),(5,.any),(6,.any),(8,.any)])]⟩
theorem Q71n : REOK Qefd Q7kf:=⟨CP_ok,(TabOK.cons Q9x2 (TabOK.cons Q0b0 Qye1)),by kernel_rfl,by kernel_rfl⟩
theorem Qn4o (ks : List Kind) (ps : List Point) (es : List Entry) (n : Str) (w m : Int) (v : Str) : aRun Qefd 600 false (body0 Qefd.fn) (Q4gm Qefd.fn [.agg [.own 0 [] 0,.own 1 [] 0,.own 2 [] 0],.str n,.agg [.int .i64 w,.int .i64 m,.str v]] [.row .kind ks 0 0 0 .no,.row .point ps 0 0 0 .no,.row .entry es 0 0 0 .no]) =
 ifb (decide (es.length < (1000000000 : Nat))) (ifb (decide (idxF (fun p=>p.name == n) es ≥ (0 : Int))) (ifb (inb (idxF (fun p=>p.name == n) es) es.length) (none) (none)) (some (.go (Qu6t Qefd.fn 6) [.str n,.ptr 3 0,.ptr 4 0,.ptr 5 0,.int .i64 (0 : Int)] [.row .kind ks 0 0 0 .no,.row .point ps 0 0 0 .no,.row .entry es 0 0 0 .no,.box [.own 0 [] 0,.own 1 [] 0,.own 2 [] 0],.box [.int .i64 w,.int .i64 m,.str v],.box [.nils,.nils,.nils]]))) (none):=by kernel_rfl
theorem Q4bq (x0 : Str) (x1 : Int) (x2 : List (El .kind)) (x3 : List (El .point)) (x4 : List (El .entry)) (x5 : Int) (x6 : Int) (x7 : Str) : aRun Qefd 600 true (Qu6t Qefd.fn 6) (cutSt Qefd.fn (Q1m4 Qefd (Qu6t Qefd.fn 6)) [.str x0,.ptr 3 0,.ptr 4 0,.ptr 5 0,.int .i64 x1] [.row .kind x2 0 0 0 .no,.row .point x3 0 0 0 .no,.row .entry x4 0 0 0 .no,.box [.own 0 [] 0,.own 1 [] 0,.own 2 [] 0],.box [.int .i64 x5,.int .i64 x6,.str x7],.box [.nils,.nils,.nils]]) =
 ifb (decide (x1 < (↑x4.length : Int))) (ifb (inb x1 x4.length) (ifb (Q7zj (x4.getD x1.toNat (Qefd.C.dflt Ty.entry)).name x0) (some (.go (Qu6t Qefd.fn 6) [.str x0,.ptr 3 0,.ptr 4 0,.ptr 5 0,.int .i64 (IntKind.i64.wrap (x1 + (1 : Int)))] [.row .kind x2 0 0 0 .no,.row .point x3 0 0 0 .no,.row .entry x4 0 0 0 .no,.box [.own 0 [] 0,.own 1 [] 0,.own 2 [] 0],.box [.int .i64 x5,.int .i64 x6,.str x7],.box [.nils,.nils,.nils]])) (ifb (decide ((0 : Int) ≤ (0 : Int)) && (decide ((0 : Int) ≤ x1) && decide (x1 ≤ (↑x4.length : Int)))) (ifb (decide (((0 : Nat) + (List.take (x1.toNat - Int.toNat (0 : Int)) (List.drop (Int.toNat (0 : Int)) x4)).length) * Qbhn Qefd.P (92 : Nat) ≤ (140737488355328 : Nat))) (ifb (decide ((([] ++ List.take (x1.toNat - Int.toNat (0 : Int)) (List.drop (Int.toNat (0 : Int)) x4)).length + [Entry.mk x0 [Fld.mk x5 x6 x7]].length) * Qbhn Qefd.P (92 : Nat) ≤ (140737488355328 : Nat))) (ifb (decide ((0 : Int) ≤ x1) && (decide (x1 ≤ (↑x4.length : Int)) && decide ((↑x4.length : Int) ≤ (↑x4.length : Int)))) (ifb (decide ((([] ++ List.take (x1.toNat - Int.toNat (0 : Int)) (List.drop (Int.toNat (0 : Int)) x4) ++ [Entry.mk x0 [Fld.mk x5 x6 x7]]).length + (List.take ((↑x4.length : Int).toNat - x1.toNat) (List.drop x1.toNat x4)).length) * Qbhn Qefd.P (92 : Nat) ≤ (140737488355328 : Nat))) (some (.ret (.agg [.own 0 [] 0,.own 1 [] 0,.sl .entry ([] ++ List.take (x1.toNat - Int.toNat (0 : Int)) (List.drop (Int.toNat (0 : Int)) x4) ++ [Entry.mk x0 [Fld.mk x5 x6 x7]] ++ List.take ((↑x4.length : Int).toNat - x1.toNat) (List.drop x1.toNat x4))]) [.row .kind x2 0 0 0 .no,.row .point x3 0 0 0 .no,.row .entry x4 0 0 0 .no])) (none)) (none)) (none)) (none)) (none))) (none)) (ifb (decide ((0 : Int) ≤ (0 : Int)) && (decide ((0 : Int) ≤ x1) && decide (x1 ≤ (↑x4.length : Int)))) (ifb (decide (((0 : Nat) + (List.take (x1.toNat - Int.toNat (0 : Int)) (List.drop (Int.toNat (0 : Int)) x4)).length) * Qbhn Qefd.P (92 : Nat) ≤ (140737488355328 : Nat))) (ifb (decide ((([] ++ List.take (x1.toNat - Int.toNat (0 : Int)) (List.drop (Int.toNat (0 : Int)) x4)).length + [Entry.mk x0 [Fld.mk x5 x6 x7]].length) * Qbhn Qefd.P (92 : Nat) ≤ (140737488355328 : Nat))) (ifb (decide ((0 : Int) ≤ x1) && (decide (x1 ≤ (↑x4.length : Int)) && decide ((↑x4.length : Int) ≤ (↑x4.length : Int)))) (ifb (decide ((([] ++ List.take (x1.toNat - Int.toNat (0 : Int)) (List.drop (Int.toNat (0 : Int)) x4) ++ [Entry.mk x0 [Fld.mk x5 x6 x7]]).length + (List.take ((↑x4.length : Int).toNat - x1.toNat) (List.drop x1.toNat x4)).length) * Qbhn Qefd.P (92 : Nat) ≤ (140737488355328 : Nat))) (some (.ret (.agg [.own 0 [] 0,.own 1 [] 0,.sl .entry ([] ++ List.take (x1.toNat - Int.toNat (0 : Int)) (List.drop (Int.toNat (0 : Int)) x4) ++ [Entry.mk x0 [Fld.mk x5 x6 x7]] ++ List.take ((↑x4.length : Int).toNat - x1.toNat) (List.drop x1.toNat x4))]) [.row .kind x2 0 0 0 .no,.row .point x3 0 0 0 .no,.row .entry x4 0 0 0 .no])) (none)) (none)) (none)) (none)) (none)):=by kernel_rfl
theorem Qv43 (ks : List Kind) (ps : List Point) (es : List Entry) (n : Str) (w m : Int) (v : Str) (g0 : es.length < 1000000000) : ∀ (d i : Nat),i + d = es.length → insE es n ⟨w,m,v⟩ = es.take i ++ insE (es.drop i) n ⟨w,m,v⟩ →
  Cut Qefd Q7kf 6 [.str n,.ptr 3 0,.ptr 4 0,.ptr 5 0,.int .i64 (i : Int)] [.row .kind ks 0 0 0 .no,.row .point ps 0 0 0 .no,.row .entry es 0 0 0 .no,.box [.own 0 [] 0,.own 1 [] 0,.own 2 [] 0],.box [.int .i64 w,.int .i64 m,.str v],.box [.nils,.nils,.nils]] (.agg [.own 0 [] 0,.own 1 [] 0,.sl .entry (insE es n ⟨w,m,v⟩)]) [.row .kind ks 0 0 0 .no,.row .point ps 0 0 0 .no,.row .entry es 0 0 0 .no]:=by
 have hb : Qbhn Qefd.P 92 ≤ 256:=of_decide_eq_true (by kernel_rfl)
 intro d
 induction d with
 | zero =>
  intro i hi hf
  refine Cut.of Q71n rfl (Q4bq n i ks ps es w m v) ?_
  rw [List.drop_of_length_le (by omega)] at hf
  rw [show decide ((i : Int) < (es.length : Int)) = false from decide_eq_false (by omega),Qk7y]
  rw [show (decide ((0 : Int) ≤ (0 : Int)) && (decide ((0 : Int) ≤ (i : Int)) && decide ((i : Int) ≤ (es.length : Int)))) = true by simp; omega,show (decide ((0 : Int) ≤ (i : Int)) && (decide ((i : Int) ≤ (es.length : Int)) && decide ((es.length : Int) ≤ (es.length : Int)))) = true by simp; omega,Q1mk hb (by simp; omega),Q1mk hb (by simp; omega),Q1mk hb (by simp; omega)]
  simp only [Qd8q]
  refine Sat.ret ?_ rfl
  rw [newG,hf,List.drop_of_length_le (by omega)]; rfl
 | succ d ih =>
  intro i hi hf
  refine Cut.of Q71n rfl (Q4bq n i ks ps es w m v) ?_
  have hlt : i < es.length:=by omega
  have hw : IntKind.wrap .i64 ((i : Int) + 1) = ((i + 1 : Nat) : Int):=by rw [Qbrg] <;> omega
  have hw1 : IntKind.wrap .i64 ((i : Int) - 1) = (i : Int) - 1:=by rw [Qbrg] <;> omega
  have hd : es.drop i = es[i] :: es.drop (i + 1):=List.drop_eq_getElem_cons hlt
  have hx : es.getD (i : Int).toNat (Qefd.C.dflt .entry) = es[i]:=by simp [hlt]
  have hin : inb (i : Int) es.length = true:=by simp only [inb,Bool.and_eq_true,decide_eq_true_eq]; omega
  have hlo : decide ((i : Int) < (es.length : Int)) = true:=decide_eq_true (by omega)
  have htk:=List.take_succ_eq_append_getElem hlt
  have hl : (es.take (i + 1)).getLast? = some es[i]:=by rw [List.take_succ_eq_append_getElem hlt,List.getLast?_concat]
  rw [hd] at hf
  rw [hlo,hin,hx,hw]
  simp only [Qd8q]
  cases h1 : Q7zj es[i].name n with
  | true =>
   rw [Q2m4 h1] at hf
   have hf' : insE es n ⟨w,m,v⟩ = es.take (i + 1) ++ insE (es.drop (i + 1)) n ⟨w,m,v⟩:=hf.trans ((show es.take i ++ es[i] :: insE (es.drop (i + 1)) n ⟨w,m,v⟩ = (es.take i ++ [es[i]]) ++ insE (es.drop (i + 1)) n ⟨w,m,v⟩ by rw [List.append_assoc]; rfl).trans (congrArg (fun z=>z ++ insE (es.drop (i + 1)) n ⟨w,m,v⟩) htk.symm))
   exact Sat.cut (ih (i + 1) (by omega) hf')
  | false =>
   rw [Qj3b h1,← hd] at hf
   rw [show (decide ((0 : Int) ≤ (0 : Int)) && (decide ((0 : Int) ≤ (i : Int)) && decide ((i : Int) ≤ (es.length : Int)))) = true by simp; omega,show (decide ((0 : Int) ≤ (i : Int)) && (decide ((i : Int) ≤ (es.length : Int)) && decide ((es.length : Int) ≤ (es.length : Int)))) = true by simp; omega,Q1mk hb (by simp; omega),Q1mk hb (by simp; omega),Q1mk hb (by simp; omega)]
   simp only [Qd8q,Qk7y]
   refine Sat.ret ?_ rfl
   rw [newG,hf]
theorem Q99y (ks : List Kind) (ps : List Point) (es : List Entry) (n : Str) (w m : Int) (v : Str) (hg : (decide (es.length < 1000000000) && decide (entIx es n < 0)) = true) : Qewq Tryz.prog CP Q7kf [.agg [.own 0 [] 0,.own 1 [] 0,.own 2 [] 0],.str n,.agg [.int .i64 w,.int .i64 m,.str v]] [.row .kind ks 0 0 0 .no,.row .point ps 0 0 0 .no,.row .entry es 0 0 0 .no] (.agg [.own 0 [] 0,.own 1 [] 0,.sl .entry (insE es n ⟨w,m,v⟩)]) [.row .kind ks 0 0 0 .no,.row .point ps 0 0 0 .no,.row .entry es 0 0 0 .no]:=by
 refine Qewq.of Q71n (by kernel_rfl) (Qn4o ks ps es n w m v) ?_
 simp only [Bool.and_eq_true,decide_eq_true_eq] at hg
 obtain ⟨g0,g1⟩:=hg
 rw [show decide (es.length < 1000000000) = true from decide_eq_true g0,show decide (idxF (fun p=>p.name == n) es ≥ (0 : Int)) = false from decide_eq_false (by have : idxF (fun p : Entry=>p.name == n) es < 0:=g1; omega)]
 simp only [Qd8q,Qk7y]
 exact Sat.cut (Qv43 ks ps es n w m v g0 es.length 0 (by omega) rfl)

noncomputable def Qx07 : RE Ty El:=⟨Tryz.prog,CP,[(Q4v9,Qf4o),(Qfs9,Ql3g)],Tryz.f139,3,[.agg [.own .kind,.own .point,.ro .entry]],[(6,[(1,.any),(3,.any),(5,.any),(6,.any),(8,.any)])]⟩
theorem Qi9q : REOK Qx07 Q7kf:=⟨CP_ok,(TabOK.cons Q9x2 (TabOK.cons Q0b0 Qye1)),by kernel_rfl,by kernel_rfl⟩
theorem Q9x4 (ks : List Kind) (ps : List Point) (es : List Entry) (n : Str) (w m : Int) (v : Str) : aRun Qx07 600 false (body0 Qx07.fn) (Q4gm Qx07.fn [.agg [.own 0 [] 0,.own 1 [] 0,.own 2 [] 0],.str n,.agg [.int .i64 w,.int .i64 m,.str v]] [.row .kind ks 0 0 0 .no,.row .point ps 0 0 0 .no,.row .entry es 1 0 0 .no]) =
 ifb (decide (es.length < (1000000000 : Nat))) (ifb (decide (idxF (fun p=>p.name == n) es ≥ (0 : Int))) (ifb (inb (idxF (fun p=>p.name == n) es) es.length) (ifb (Qckx (es.getD (idxF (fun p=>p.name == n) es).toNat (Qx07.C.dflt Ty.entry)).fields) (ifb (inb (idxF (fun p=>p.name == n) es) (es.set (idxF (fun p=>p.name == n) es).toNat (Entry.mk (es.getD (idxF (fun p=>p.name == n) es).toNat (Qx07.C.dflt Ty.entry)).name [])).length) (ifb (decide ((idxF (fun p=>p.name == n) es).toNat = (idxF (fun p=>p.name == n) es).toNat)) (some (.ret (.agg [.own 0 [] 0,.own 1 [] 0,.sl .entry ((es.set (idxF (fun p=>p.name == n) es).toNat (Entry.mk (es.getD (idxF (fun p=>p.name == n) es).toNat (Qx07.C.dflt Ty.entry)).name [])).set (idxF (fun p=>p.name == n) es).toNat (Entry.mk ((es.set (idxF (fun p=>p.name == n) es).toNat (Entry.mk (es.getD (idxF (fun p=>p.name == n) es).toNat (Qx07.C.dflt Ty.entry)).name [])).getD (idxF (fun p=>p.name == n) es).toNat (Qx07.C.dflt Ty.entry)).name (Qul0 (es.getD (idxF (fun p=>p.name == n) es).toNat (Qx07.C.dflt Ty.entry)).fields (Fld.mk w m v))))]) [.row .kind ks 0 0 0 .no,.row .point ps 0 0 0 .no,.out])) (none)) (none)) (none)) (none)) (some (.go (Qu6t Qx07.fn 6) [.str n,.ptr 3 0,.ptr 4 0,.ptr 5 0,.int .i64 (0 : Int)] [.row .kind ks 0 0 0 .no,.row .point ps 0 0 0 .no,.row .entry es 1 0 0 .no,.box [.own 0 [] 0,.own 1 [] 0,.own 2 [] 0],.box [.int .i64 w,.int .i64 m,.str v],.box [.nils,.nils,.nils]]))) (none):=by kernel_rfl
theorem Q1gu (ks : List Kind) (ps : List Point) (es : List Entry) (n : Str) (w m : Int) (v : Str) (hg : putOk es = true) : Qewq Tryz.prog CP Q7kf [.agg [.own 0 [] 0,.own 1 [] 0,.own 2 [] 0],.str n,.agg [.int .i64 w,.int .i64 m,.str v]] [.row .kind ks 0 0 0 .no,.row .point ps 0 0 0 .no,.row .entry es 1 0 0 .no] (.agg [.own 0 [] 0,.own 1 [] 0,.sl .entry (putF es n ⟨w,m,v⟩)]) [.row .kind ks 0 0 0 .no,.row .point ps 0 0 0 .no,.out]:=by
 simp only [putOk,Bool.and_eq_true,decide_eq_true_eq] at hg
 obtain ⟨g0,g1⟩:=hg
 by_cases h : 0 ≤ entIx es n
 ·refine Qewq.of Qi9q (by kernel_rfl) (Q9x4 ks ps es n w m v) ?_
  have hm:=List.all_eq_true.1 g1 _ (Qhwx h)
  simp only [Qytc,Bool.and_eq_true,and_true] at hm
  have hi:=Qohw h
  have hi2 : inb (entIx es n) (es.set (entIx es n).toNat (Entry.mk (es.getD (entIx es n).toNat (dfltP .entry)).name [])).length = true:=by rw [List.length_set]; exact hi
  have hlt : (entIx es n).toNat < es.length:=by have h2 : entIx es n < (es.length : Int):=Q1mf; omega
  rw [show decide (es.length < 1000000000) = true from decide_eq_true g0,show decide (idxF (fun p=>p.name == n) es ≥ (0 : Int)) = true from decide_eq_true h]
  simp only [Qd8q]
  refine Sat.ifb (fun _=>Sat.ifb (fun _=>Sat.ifb (fun _=>Sat.ifb (fun _=>Sat.ret ?_ rfl) (fun e=>?_)) (fun e=>?_)) (fun e=>?_)) (fun e=>?_)
  ·rw [Q5v6 h,List.set_set]
   have hn : ((es.set (entIx es n).toNat (Entry.mk (es.getD (entIx es n).toNat (dfltP .entry)).name [])).getD (entIx es n).toNat (dfltP .entry)).name = (es.getD (entIx es n).toNat (dfltP .entry)).name:=by
    rw [List.getD_eq_getElem?_getD,List.getElem?_set_self hlt]; rfl
   exact congrArg (fun z=>(.agg [.own 0 [] 0,.own 1 [] 0,.sl .entry (es.set (entIx es n).toNat (Entry.mk z (Qul0 (es.getD (entIx es n).toNat (dfltP .entry)).fields ⟨w,m,v⟩)))] : AV Ty El)) hn
  ·simp at e
  ·exact absurd (hi2.symm.trans e) (by simp)
  ·exact absurd (hm.symm.trans e) (by simp)
  ·exact absurd (hi.symm.trans e) (by simp)
 ·have hc:=Q99y ks ps es n w m v (by simp only [Bool.and_eq_true,decide_eq_true_eq]; exact ⟨g0,by omega⟩)
  have hz:=Qewq.frz (r:=2) (d:=1) (d':=0) (T:=.entry) (xs:=es) CP_ok (H:=[.row .kind ks 0 0 0 .no,.row .point ps 0 0 0 .no,.row .entry es 1 0 0 .no]) (by simp) rfl (by omega) hc
  rw [Qk9v h]
  exact Qewq.drop CP_ok hz 2 (by simp) rfl rfl
theorem Qik7 : EntOK Tryz.prog CP Q7kf Q8fw:=by
 refine ⟨⟨Tryz.f139,by kernel_rfl,by kernel_rfl,by kernel_rfl⟩,fun args H res H' h=>?_⟩
 simp only [Q8fw] at h
 split at h
 ·simp only [Option.some.injEq,Prod.mk.injEq] at h
  obtain ⟨hg,rfl,rfl⟩:=h
  exact Q1gu _ _ _ _ _ _ _ hg
 ·cases h
end Lx
namespace Lx
open Go Go.Proofs
theorem Q3ut {ks : List Kind} {ps : List Point} {w : Int} {v : Str} (h : fitsV ks ps w v = true) : 1 ≤ w ∧ w ≤ 5:=by
 unfold fitsV at h
 split at h
 ·omega
 ·split at h
  ·omega
  ·split at h
   ·omega
   ·split at h
    ·omega
    ·split at h
     ·omega
     ·cases h
theorem Qd0v {ks : List Kind} {ps : List Point} {n : Str} : ∀ (fs : List Fld) (q : Int),Qt03 ks ps n (some q) fs = true → q ≤ 5 → (fs.length : Int) + q ≤ 5
 | [],q,_,h=>by simpa using h
 | f :: fs,q,h,hq=>by
  simp only [Qt03,Qh2h,Bool.and_eq_true,decide_eq_true_eq] at h
  obtain ⟨⟨_,_,h1⟩,h2,h3⟩:=h
  have h4:=Q3ut h1
  have:=Qd0v fs f.what h3 h4.2
  simp only [List.length_cons]; omega
theorem Q0bt {ks : List Kind} {ps : List Point} {e : Entry} (h : Q7i7 ks ps e = true) : e.fields.length ≤ 5:=by
 simp only [Q7i7,Bool.and_eq_true] at h
 obtain ⟨_,_,h⟩:=h
 cases hf : e.fields with
 | nil=>simp
 | cons f fs =>
  rw [hf] at h
  simp only [Qt03,Qh2h,Bool.and_eq_true,decide_eq_true_eq] at h
  obtain ⟨⟨_,_,h1⟩,_,h3⟩:=h
  have h4:=Q3ut h1
  have:=Qd0v fs f.what h3 h4.2
  simp only [List.length_cons]; omega
theorem Qmra {ks : List Kind} {ps : List Point} : ∀ (es : List Entry) (q : Option Str),Qgea ks ps q es = true → ∀ e ∈ es,Q7i7 ks ps e = true
 | [],_,_,e,he=>by cases he
 | x :: es,q,h,e,he=>by
  simp only [Qgea,Bool.and_eq_true] at h
  rcases List.mem_cons.1 he with rfl | he
  ·exact h.1
  ·exact Qmra es _ h.2.2 e he
theorem Qm34 {ks : List Kind} {ps : List Point} {es : List Entry} (h : Qn0o ks ps es = true) : es.length ≤ 12 ∧ ∀ e ∈ es,e.fields.length ≤ 5:=by
 simp only [Qn0o,Bool.and_eq_true,decide_eq_true_eq] at h
 exact ⟨h.2.1,fun e he=>Q0bt (Qmra es _ h.2.2 e he)⟩
theorem Qcx7 (f : Fld) : ∀ l : List Fld,(Qul0 l f).length ≤ l.length + 1
 | []=>by simp [Qul0]
 | g :: r=>by
  have:=Qcx7 f r
  unfold Qul0
  split
  ·simp only [List.length_cons]; omega
  ·split
   ·split <;> simp
   ·simp
theorem Q0pd (f : Fld) : ∀ (l : List Fld) (x : Fld),x ∈ Qul0 l f → x = f ∨ x ∈ l
 | [],x,h=>by simp [Qul0] at h; exact .inl h
 | g :: r,x,h=>by
  have ih:=Q0pd f r x
  unfold Qul0 at h
  split at h
  ·rcases List.mem_cons.1 h with h | h
   ·exact .inr (h ▸ List.mem_cons_self ..)
   ·exact (ih h).imp id (List.mem_cons_of_mem _)
  ·split at h
   ·split at h
    ·rcases List.mem_cons.1 h with h | h
     ·exact .inl h
     ·exact .inr (List.mem_cons_of_mem _ h)
    ·exact .inr h
   ·rcases List.mem_cons.1 h with h | h
    ·exact .inl h
    ·exact .inr h
theorem Q7l0 (n : Str) (f : Fld) : ∀ es : List Entry,(insE es n f).length = es.length + 1
 | []=>rfl
 | e :: r=>by
  unfold insE
  split
  ·simp [Q7l0 n f r]
  ·simp
theorem Qwpl (n : Str) (f : Fld) : ∀ (es : List Entry) (x : Entry),x ∈ insE es n f → x = ⟨n,[f]⟩ ∨ x ∈ es
 | [],x,h=>by simp [insE] at h; exact .inl h
 | e :: r,x,h=>by
  unfold insE at h
  split at h
  ·rcases List.mem_cons.1 h with h | h
   ·exact .inr (h ▸ List.mem_cons_self ..)
   ·exact (Qwpl n f r x h).imp id (List.mem_cons_of_mem _)
  ·rcases List.mem_cons.1 h with h | h
   ·exact .inl h
   ·exact .inr h
def goodB (ks : List Kind) (ps : List Point) (es : List Entry) : Bool:=szB es && Q8cx ks ps es
theorem Q5pc {ks : List Kind} {ps : List Point} {es : List Entry} {n : Str} {w m : Int} {v : Str} (hb : Qn0o ks ps es = true) (hg : goodB ks ps es = true) (hv : szV v = true) : putOk es = true ∧ goodB ks ps (putF es n ⟨w,m,v⟩) = true:=by
 obtain ⟨h1,h2⟩:=Qm34 hb
 simp only [goodB,szB,Q8cx,Qnwa,Bool.and_eq_true,decide_eq_true_eq,and_true] at hg
 obtain ⟨⟨_,hz⟩,hk,hp,_,ht⟩:=hg
 refine ⟨?_, ?_⟩
 ·simp only [putOk,Bool.and_eq_true,decide_eq_true_eq]; exact ⟨by omega,ht⟩
 have hlen : (putF es n ⟨w,m,v⟩).length ≤ 13:=by
  unfold putF
  split
  ·rw [List.length_set]; omega
  ·rw [Q7l0]; omega
 have hall : ∀ x ∈ putF es n ⟨w,m,v⟩,x.fields.length ≤ 6 ∧ ∀ f ∈ x.fields,szV f.value = true:=by
  have old : ∀ x ∈ es,x.fields.length ≤ 6 ∧ ∀ f ∈ x.fields,szV f.value = true:=fun x hx=>by
   have hz1:=List.all_eq_true.1 hz x hx
   simp only [szE,Bool.and_eq_true,decide_eq_true_eq] at hz1
   exact ⟨Nat.le_succ_of_le (h2 x hx),fun f hf=>List.all_eq_true.1 hz1.2 f hf⟩
  intro x hx
  unfold putF at hx
  split at hx
  ·rename_i h0
   have hm:=Qhwx h0
   rcases List.mem_or_eq_of_mem_set hx with hx | rfl
   ·exact old x hx
   ·refine ⟨Nat.le_trans (Qcx7 _ _) (Nat.succ_le_succ (h2 _ hm)),fun f hf=>?_⟩
    rcases Q0pd _ _ _ hf with rfl | hf
    ·exact hv
    ·exact (old _ hm).2 f hf
  ·rcases Qwpl _ _ _ _ hx with rfl | hx
   ·exact ⟨by simp,fun f hf=>by simp at hf; subst hf; exact hv⟩
   ·exact old x hx
 simp only [goodB,szB,Q8cx,Qnwa,Bool.and_eq_true,decide_eq_true_eq,and_true]
 refine ⟨⟨by omega,List.all_eq_true.2 fun x hx=>?_⟩,hk,hp,by omega,List.all_eq_true.2 fun x hx=>?_⟩
 ·simp only [szE,Bool.and_eq_true,decide_eq_true_eq]
  exact ⟨by have:=(hall x hx).1; omega,List.all_eq_true.2 fun f hf=>(hall x hx).2 f hf⟩
 ·simp only [Qytc,Qckx,Bool.and_eq_true,decide_eq_true_eq,and_true]
  have:=(hall x hx).1; omega
theorem Qk6a {ks : List Kind} {ps : List Point} {es : List Entry} {c : Chg} (hg : goodB ks ps es = true) (hv : szV c.value = true) : goodB (takeF ks ps es c).ks (takeF ks ps es c).ps (takeF ks ps es c).es = true:=by
 unfold takeF
 split
 ·rename_i hb
  split
  ·split
   ·exact hg
   ·exact (Q5pc hb hg hv).2
  ·exact hg
 ·rfl
def Q8t5 : Ent Ty El:=⟨[.ro,.ro],0,fun a h=>match a,h with
 | [.agg [.sl .kind ks,.sl .point ps,.sl .entry es],.agg [.str fl,.int .i64 w,.int .i64 m,.str v]],[] =>
  some (goodB ks ps es && szV v,.tup [.agg [.sl .kind (takeF ks ps es ⟨fl,w,m,v⟩).ks,.sl .point (takeF ks ps es ⟨fl,w,m,v⟩).ps,.sl .entry (takeF ks ps es ⟨fl,w,m,v⟩).es],.int .i64 (takeF ks ps es ⟨fl,w,m,v⟩).code],[])
 | _,_=>none⟩
end Lx
namespace Lx
open Go Go.Proofs
noncomputable def Q1yo : RE Ty El:=⟨Tryz.prog,CP,[(Qdfk,Q124),(Qfx9,Qc1o),(Qvuj,Quoo),(Q4v9,Qf4o),(Q7kf,Q8fw)],Tryz.f46,0,[.agg [.ro .kind,.ro .point,.ro .entry],.any],[]⟩
theorem Q7wy : REOK Q1yo Qbeb:=⟨CP_ok,(TabOK.cons Q8cq (TabOK.cons Qaka (TabOK.cons Q336 (TabOK.cons Q9x2 (TabOK.cons Qik7 Qye1))))),by kernel_rfl,by kernel_rfl⟩
theorem Qcwp (ks : List Kind) (ps : List Point) (es : List Entry) (fl : Str) (w m : Int) (v : Str) : aRun Q1yo 600 false (body0 Q1yo.fn) (Q4gm Q1yo.fn [.agg [.sl .kind ks,.sl .point ps,.sl .entry es],.agg [.str fl,.int .i64 w,.int .i64 m,.str v]] []) =
 ifb (szB es) (ifb (!Qn0o ks ps es) (some (.ret (.tup [.agg [.sl .kind [],.sl .point [],.sl .entry []],.int .i64 (1 : Int)]) [])) (ifb (Q8cx ks ps es) (ifb (szV v) (ifb (!(Q2rq fl && (inR m (1 : Int) (1000000 : Int) && (Qib4 ks ps && fitsV ks ps w v)))) (some (.ret (.tup [.agg [.sl .kind ks,.sl .point ps,.sl .entry es],.int .i64 (2 : Int)]) [])) (ifb (decide (es.length < (1000000000 : Nat))) (ifb (decide (idxF (fun p=>p.name == fl) es < (0 : Int))) (ifb (decide ((↑es.length : Int) ≥ (12 : Int))) (some (.ret (.tup [.agg [.sl .kind ks,.sl .point ps,.sl .entry es],.int .i64 (3 : Int)]) [])) (ifb (putOk es) (ifb (Q8cx ks ps (putF es fl (Fld.mk w m v))) (some (.ret (.tup [.agg [.sl .kind ks,.sl .point ps,.sl .entry (putF es fl (Fld.mk w m v))],.int .i64 (0 : Int)]) [])) (none)) (none))) (ifb (putOk es) (ifb (Q8cx ks ps (putF es fl (Fld.mk w m v))) (some (.ret (.tup [.agg [.sl .kind ks,.sl .point ps,.sl .entry (putF es fl (Fld.mk w m v))],.int .i64 (0 : Int)]) [])) (none)) (none))) (none))) (none)) (none))) (none):=by kernel_rfl
theorem Qolj (ks : List Kind) (ps : List Point) (es : List Entry) (fl : Str) (w m : Int) (v : Str) (hg : (goodB ks ps es && szV v) = true) : Qewq Tryz.prog CP Qbeb [.agg [.sl .kind ks,.sl .point ps,.sl .entry es],.agg [.str fl,.int .i64 w,.int .i64 m,.str v]] [] (.tup [.agg [.sl .kind (takeF ks ps es ⟨fl,w,m,v⟩).ks,.sl .point (takeF ks ps es ⟨fl,w,m,v⟩).ps,.sl .entry (takeF ks ps es ⟨fl,w,m,v⟩).es],.int .i64 (takeF ks ps es ⟨fl,w,m,v⟩).code]) []:=by
 refine Qewq.of Q7wy (by kernel_rfl) (Qcwp ks ps es fl w m v) ?_
 simp only [Bool.and_eq_true] at hg
 obtain ⟨g0,g1⟩:=hg
 have g2:=g0
 simp only [goodB,Bool.and_eq_true] at g2
 rw [g2.1,g2.2,g1]
 simp only [Qd8q]
 cases hb : Qn0o ks ps es with
 | false =>
  simp only [Bool.not_false,Qd8q]
  rw [takeF,if_neg (by simp [hb])]
  exact Sat.ret rfl rfl
 | true =>
  simp only [Bool.not_true,Qk7y]
  obtain ⟨h1,_⟩:=Qm34 hb
  obtain ⟨p1,p2⟩:=Q5pc (n:=fl) (w:=w) (m:=m) hb g0 g1
  simp only [goodB,Bool.and_eq_true] at p2
  rw [takeF,if_pos hb]
  cases hc : Qs7k ks ps ⟨fl,w,m,v⟩ with
  | false =>
   rw [show (Q2rq fl && (inR m 1 1000000 && (Qib4 ks ps && fitsV ks ps w v))) = false from hc]
   rw [if_neg (by simp)]
   exact Sat.ret rfl rfl
  | true =>
   rw [show (Q2rq fl && (inR m 1 1000000 && (Qib4 ks ps && fitsV ks ps w v))) = true from hc,show decide (es.length < 1000000000) = true from decide_eq_true (by omega),p1,p2.2]
   simp only [Bool.not_true,Qd8q,Qk7y,if_true]
   by_cases h2 : entIx es fl < 0
   ·rw [show decide (idxF (fun p=>p.name == fl) es < (0 : Int)) = true from decide_eq_true h2]
    by_cases h3 : 12 ≤ es.length
    ·rw [show decide ((es.length : Int) ≥ 12) = true from decide_eq_true (by omega),if_pos ⟨h2,h3⟩]
     exact Sat.ret rfl rfl
    ·rw [show decide ((es.length : Int) ≥ 12) = false from decide_eq_false (by omega),if_neg (fun h=>h3 h.2)]
     exact Sat.ret rfl rfl
   ·rw [show decide (idxF (fun p=>p.name == fl) es < (0 : Int)) = false from decide_eq_false h2,if_neg (fun h=>h2 h.1)]
    exact Sat.ret rfl rfl
theorem Q2a7 : EntOK Tryz.prog CP Qbeb Q8t5:=by
 refine ⟨⟨Tryz.f46,by kernel_rfl,by kernel_rfl,by kernel_rfl⟩,fun args H res H' h=>?_⟩
 simp only [Q8t5] at h
 split at h
 ·simp only [Option.some.injEq,Prod.mk.injEq] at h
  obtain ⟨hg,rfl,rfl⟩:=h
  exact Qolj _ _ _ _ _ _ _ hg
 ·cases h
end Lx
namespace Lx
open Go Go.Proofs
def rdK (bs : List Int) (p : Int) : Bool:=Qf9o bs && (decide (0 ≤ p) && decide (p ≤ 900000))
theorem Qosd {bs : List Int} {p q : Int} (h : rdK bs p = true) (h1 : p ≤ q) (h2 : q ≤ p + 90000) : rdOk bs q = true:=by
 simp only [rdK,rdOk,posOk,Bool.and_eq_true,decide_eq_true_eq] at h ⊢
 exact ⟨h.1,by omega,by omega⟩
theorem Q8s4 {q : Int} (h1 : 0 ≤ q) (h2 : q < 1000000) : posOk q = true:=by
 simp only [posOk,Bool.and_eq_true,decide_eq_true_eq]; exact ⟨h1,h2⟩
noncomputable def dDec (k : Nat) (n : Int) : Str:=drawn (fun x=>Qewq Tryz.prog CP Qstj [.int .i64 n] [] (.str x) [] ∧ x.length ≤ k + 1)
noncomputable def E_dec (k : Nat) : Ent Ty El:=⟨[.ro],0,fun a h=>match a,h with
 | [.int .i64 n],[]=>some (decide (0 ≤ n) && decide (n < 10 ^ (k + 1)),.str (dDec k n),[])
 | _,_=>none⟩
noncomputable def Qjla : Ent Ty El:=E_dec 0
noncomputable def Qgge : Ent Ty El:=E_dec 1
noncomputable def Qggn : Ent Ty El:=E_dec 2
noncomputable def Qcmq : Ent Ty El:=E_dec 3
noncomputable def Qmce : Ent Ty El:=E_dec 4
noncomputable def dMany (s : Str) (n : Int) : Str:=drawn (fun x=>Qewq Tryz.prog CP Q1eg [.str s,.int .i64 n] [] (.str x) [] ∧ x.length ≤ 4096)
noncomputable def Qvc4 : Ent Ty El:=⟨[.ro,.ro],0,fun a h=>match a,h with
 | [.str s,.int .i64 n],[]=>some (decide (s.length ≤ 1) && decide (n < 64),.str (dMany s n),[])
 | _,_=>none⟩
def bad12 : List Str:=[[],[110,111,110,101],[53,32,52],[48,32,49,48,48,48,49],[49,48,48,48,48,32,49,48,48,48,48],[48,49],[48],[55],[97,108,102,97],[97,108,102,97,32,97,108,102,97],[97,108,102,97,32,98,114,97,118,32],[111,112,101,110,32],[97,108,102,97,32,98,114,97,118,32,97,108,102,97,32,98,114,97,118,32,97,108,102,97,32,98,114,97,118,32,97,108,102,97,32,98,114,97,118,32,97,108,102,97],[97,49,32],[10],[53,32,53,32,53]]
def Qwn9 : Ent Ty El:=⟨[.io],0,fun a h=>match a,h with
 | [.ptr 0 0],[.box [.sl .u8 bs,.int .i64 p]]=>some (rdOk bs p,.str (ofV bs p bad12),[.box [.sl .u8 bs,.int .i64 (p + 1)]])
 | _,_=>none⟩
structure BaseP where
 ks : List Kind
 ps : List Point
 p : Int
 deriving Inhabited
def Qn40 (p : Int) (x : BaseP) : Prop:=Qib4 x.ks x.ps = true ∧ 1 ≤ x.ks.length ∧ 1 ≤ x.ps.length ∧ p ≤ x.p ∧ x.p ≤ p + 20
noncomputable def dBase (bs : List Int) (p : Int) : BaseP:=drawn (fun x=>Qewq Tryz.prog CP Qwua [.ptr 0 0] [.box [.sl .u8 bs,.int .i64 p]] (.agg [.sl .kind x.ks,.sl .point x.ps]) [.box [.sl .u8 bs,.int .i64 x.p]] ∧ Qn40 p x)
noncomputable def Qu46 : Ent Ty El:=⟨[.io],0,fun a h=>match a,h with
 | [.ptr 0 0],[.box [.sl .u8 bs,.int .i64 p]]=>some (rdK bs p,.agg [.sl .kind (dBase bs p).ks,.sl .point (dBase bs p).ps],[.box [.sl .u8 bs,.int .i64 (dBase bs p).p]])
 | _,_=>none⟩
def Qf10 : List Str:=[[97,108,102,97],[98,114,97,118],[99,104,97,114],[100,45,52],[101,99,104,111],[120]]
def lastN (prev : Option Str) (ps : List Point) : Option Str:=match ps.getLast? with
 | some p=>some p.name
 | none=>prev
theorem Q9y8 (x : Point) : ∀ (ps seen : List Point) (prev : Option Str),Qaym seen prev (ps ++ [x]) = (Qaym seen prev ps && (x.ok && (Qe7t (lastN prev ps) x.name && Q343 (seen ++ ps) x)))
 | [],seen,prev=>by simp [Qaym,lastN]
 | p :: ps,seen,prev=>by
  have e : lastN prev (p :: ps) = lastN (some p.name) ps:=by
   cases ps with
   | nil=>rfl
   | cons q r =>
    obtain ⟨y,hy⟩ : ∃ y,(q :: r).getLast? = some y:=Option.isSome_iff_exists.1 (by simp)
    simp [lastN,List.getLast?_cons_cons,hy]
  simp only [List.cons_append,Qaym,Q9y8 x ps,e,Bool.and_assoc,List.append_assoc,List.cons_append,List.nil_append]
def PI (ps : List Point) (i : Nat) : Prop:=Qaym [] none ps = true ∧ ps.length ≤ i ∧ ∀ j n,i ≤ j → Qf10[j]? = some n → Qe7t (lastN none ps) n = true
theorem PI.next {ps : List Point} {i : Nat} (h : PI ps i) : PI ps (i + 1):=⟨h.1,by have:=h.2.1; omega,fun j n hj=>h.2.2 j n (by omega)⟩
theorem Ql7z : ∀ i,i < 6 → ∀ j,j < 6 → i < j → Q7zj (Qf10.getD i []) (Qf10.getD j []) = true:=by decide
theorem Qlz1 : ∀ i,i < 6 → Q2rq (Qf10.getD i []) = true:=by decide
theorem PI.add {ps : List Point} {i : Nat} {x y : Int} (h : PI ps i) (hi : i < 6) (hx : 0 ≤ x ∧ x < 16) (hy : 0 ≤ y ∧ y < 16) (hf : Q343 ps ⟨Qf10.getD i [],x,y⟩ = true) : PI (ps ++ [⟨Qf10.getD i [],x,y⟩]) (i + 1):=by
 refine ⟨?_,by simp; exact h.2.1,fun j n hj hn=>?_⟩
 ·rw [Q9y8,h.1,List.nil_append,hf,h.2.2 i (Qf10.getD i []) (Nat.le_refl _) (by rw [List.getD_eq_getElem?_getD,List.getElem?_eq_getElem (by exact hi)]; rfl)]
  simp only [Point.ok,Qlz1 i hi,inR,Bool.true_and,Bool.and_true,Bool.and_eq_true,decide_eq_true_eq]
  omega
 ·have hj6 : j < 6:=(List.getElem?_eq_some_iff.1 hn).1
  have e : Qf10.getD j [] = n:=by rw [List.getD_eq_getElem?_getD,hn]; rfl
  simp only [lastN,List.getLast?_concat,Qe7t]
  rw [← e]
  exact Ql7z i hi j hj6 (by omega)
end Lx
namespace Lx
open Go Go.Proofs
noncomputable def Qopx : RE Ty El := ⟨Tryz.prog, CP, [], Tryz.f109, 0, [], []⟩
theorem Q58o : REOK Qopx Qstj := ⟨CP_ok, Qye1, by kernel_rfl, by kernel_rfl⟩
theorem Qwjr (n : Int) : aRun Qopx 600 false (body0 Qopx.fn) (Q4gm Qopx.fn [.int .i64 n] []) =
  ifb (decide (n < (10 : Int))) (some (.ret (.str (List.map (fun n => UInt8.ofNat n.toNat) (List.map (fun n => n) [IntKind.u8.wrap (IntKind.i64.wrap ((48 : Int) + n))]))) [])) (none) := by kernel_rfl
theorem Qhwu (n : Int) (hg : (decide (0 ≤ n) && decide (n < 10 ^ (0 + 1))) = true) : Qewq Tryz.prog CP Qstj [.int .i64 n] [] (.str (dDec 0 n)) [] ∧ (dDec 0 n).length ≤ 0 + 1 := by
  simp only [Bool.and_eq_true, decide_eq_true_eq] at hg
  obtain ⟨g0, g1⟩ := hg
  have hE : CallE Qopx.P Qopx.C Qstj [.int .i64 n] [] (fun v h => ∃ x : Str, v = .str x ∧ h = [] ∧ x.length ≤ 0 + 1) := CallE.of Q58o (by kernel_rfl) (Qwjr n) (SatE.ifb (fun _ => SatE.ret ⟨_, rfl, rfl, by simp⟩) (fun e => by
    have := of_decide_eq_false e; omega))
  obtain ⟨v, H', h, x, rfl, rfl, hx⟩ := hE
  exact Qk78 (p := fun x => Qewq Tryz.prog CP Qstj [.int .i64 n] [] (.str x) [] ∧ x.length ≤ 0 + 1) ⟨x, h, hx⟩
theorem Qb4o (n : Int) (hg : (decide (0 ≤ n) && decide (n < 10 ^ (0 + 1))) = true) : Qewq Tryz.prog CP Qstj [.int .i64 n] [] (.str (dDec 0 n)) [] := by
  exact (Qhwu n hg).1
theorem Qu02 : EntOK Tryz.prog CP Qstj Qjla := by
  refine ⟨⟨Tryz.f109, by kernel_rfl, by kernel_rfl, by kernel_rfl⟩, fun args H res H' h => ?_⟩
  simp only [Qjla, E_dec] at h
  split at h
  · simp only [Option.some.injEq, Prod.mk.injEq] at h
    obtain ⟨hg, rfl, rfl⟩ := h
    exact Qb4o _ hg
  · cases h

noncomputable def Qq8c : RE Ty El := ⟨Tryz.prog, CP, [(Qstj, Qjla)], Tryz.f109, 0, [], []⟩
theorem Qikn : REOK Qq8c Qstj := ⟨CP_ok, (TabOK.cons Qu02 Qye1), by kernel_rfl, by kernel_rfl⟩
theorem Qjex (n : Int) : aRun Qq8c 600 false (body0 Qq8c.fn) (Q4gm Qq8c.fn [.int .i64 n] []) =
  ifb (decide (n < (10 : Int))) (some (.ret (.str (List.map (fun n => UInt8.ofNat n.toNat) (List.map (fun n => n) [IntKind.u8.wrap (IntKind.i64.wrap ((48 : Int) + n))]))) [])) (ifb (decide ((0 : Int) ≤ IntKind.i64.wrap (n.tdiv (10 : Int))) && decide (IntKind.i64.wrap (n.tdiv (10 : Int)) < (10 : Int) ^ ((0 : Nat) + (1 : Nat)))) (ifb (decide (List.length (dDec (0 : Nat) (IntKind.i64.wrap (n.tdiv (10 : Int)))) + (List.map (fun n => UInt8.ofNat n.toNat) (List.map (fun n => n) [IntKind.u8.wrap (IntKind.i64.wrap ((48 : Int) + n.tmod (10 : Int)))])).length ≤ (9223372036854775807 : Nat))) (some (.ret (.str (dDec (0 : Nat) (IntKind.i64.wrap (n.tdiv (10 : Int))) ++ List.map (fun n => UInt8.ofNat n.toNat) (List.map (fun n => n) [IntKind.u8.wrap (IntKind.i64.wrap ((48 : Int) + n.tmod (10 : Int)))]))) [])) (none)) (none)) := by kernel_rfl
theorem Qgme (n : Int) (hg : (decide (0 ≤ n) && decide (n < 10 ^ (1 + 1))) = true) : Qewq Tryz.prog CP Qstj [.int .i64 n] [] (.str (dDec 1 n)) [] ∧ (dDec 1 n).length ≤ 1 + 1 := by
  simp only [Bool.and_eq_true, decide_eq_true_eq] at hg
  obtain ⟨g0, g1⟩ := hg
  have hE : CallE Qq8c.P Qq8c.C Qstj [.int .i64 n] [] (fun v h => ∃ x : Str, v = .str x ∧ h = [] ∧ x.length ≤ 1 + 1) := CallE.of Qikn (by kernel_rfl) (Qjex n) (SatE.ifb (fun _ => SatE.ret ⟨_, rfl, rfl, by simp⟩) (fun e => by
    have he := of_decide_eq_false e
    have h1 : 0 ≤ n.tdiv 10 := Int.tdiv_nonneg g0 (by omega)
    have h2 : n.tdiv 10 < 10 ^ 1 := by rw [Int.tdiv_eq_ediv_of_nonneg g0]; omega
    have hw : IntKind.i64.wrap (n.tdiv 10) = n.tdiv 10 := Qbrg (by omega) (by omega)
    have hl := (Qhwu (n.tdiv 10) (by simp only [Bool.and_eq_true, decide_eq_true_eq]; exact ⟨h1, h2⟩)).2
    rw [hw]
    exact SatE.need (by simp only [Bool.and_eq_true, decide_eq_true_eq]; exact ⟨h1, h2⟩) (SatE.need (by simp; omega) (SatE.ret ⟨_, rfl, rfl, by simp; omega⟩))))
  obtain ⟨v, H', h, x, rfl, rfl, hx⟩ := hE
  exact Qk78 (p := fun x => Qewq Tryz.prog CP Qstj [.int .i64 n] [] (.str x) [] ∧ x.length ≤ 1 + 1) ⟨x, h, hx⟩
theorem Qvu3 (n : Int) (hg : (decide (0 ≤ n) && decide (n < 10 ^ (1 + 1))) = true) : Qewq Tryz.prog CP Qstj [.int .i64 n] [] (.str (dDec 1 n)) [] := by
  exact (Qgme n hg).1
theorem Qq8j : EntOK Tryz.prog CP Qstj Qgge := by
  refine ⟨⟨Tryz.f109, by kernel_rfl, by kernel_rfl, by kernel_rfl⟩, fun args H res H' h => ?_⟩
  simp only [Qgge, E_dec] at h
  split at h
  · simp only [Option.some.injEq, Prod.mk.injEq] at h
    obtain ⟨hg, rfl, rfl⟩ := h
    exact Qvu3 _ hg
  · cases h

noncomputable def Qr71 : RE Ty El := ⟨Tryz.prog, CP, [(Qstj, Qgge)], Tryz.f109, 0, [], []⟩
theorem Q1ar : REOK Qr71 Qstj := ⟨CP_ok, (TabOK.cons Qq8j Qye1), by kernel_rfl, by kernel_rfl⟩
theorem Q3yy (n : Int) : aRun Qr71 600 false (body0 Qr71.fn) (Q4gm Qr71.fn [.int .i64 n] []) =
  ifb (decide (n < (10 : Int))) (some (.ret (.str (List.map (fun n => UInt8.ofNat n.toNat) (List.map (fun n => n) [IntKind.u8.wrap (IntKind.i64.wrap ((48 : Int) + n))]))) [])) (ifb (decide ((0 : Int) ≤ IntKind.i64.wrap (n.tdiv (10 : Int))) && decide (IntKind.i64.wrap (n.tdiv (10 : Int)) < (10 : Int) ^ ((1 : Nat) + (1 : Nat)))) (ifb (decide (List.length (dDec (1 : Nat) (IntKind.i64.wrap (n.tdiv (10 : Int)))) + (List.map (fun n => UInt8.ofNat n.toNat) (List.map (fun n => n) [IntKind.u8.wrap (IntKind.i64.wrap ((48 : Int) + n.tmod (10 : Int)))])).length ≤ (9223372036854775807 : Nat))) (some (.ret (.str (dDec (1 : Nat) (IntKind.i64.wrap (n.tdiv (10 : Int))) ++ List.map (fun n => UInt8.ofNat n.toNat) (List.map (fun n => n) [IntKind.u8.wrap (IntKind.i64.wrap ((48 : Int) + n.tmod (10 : Int)))]))) [])) (none)) (none)) := by kernel_rfl
theorem Q0hm (n : Int) (hg : (decide (0 ≤ n) && decide (n < 10 ^ (2 + 1))) = true) : Qewq Tryz.prog CP Qstj [.int .i64 n] [] (.str (dDec 2 n)) [] ∧ (dDec 2 n).length ≤ 2 + 1 := by
  simp only [Bool.and_eq_true, decide_eq_true_eq] at hg
  obtain ⟨g0, g1⟩ := hg
  have hE : CallE Qr71.P Qr71.C Qstj [.int .i64 n] [] (fun v h => ∃ x : Str, v = .str x ∧ h = [] ∧ x.length ≤ 2 + 1) := CallE.of Q1ar (by kernel_rfl) (Q3yy n) (SatE.ifb (fun _ => SatE.ret ⟨_, rfl, rfl, by simp⟩) (fun e => by
    have he := of_decide_eq_false e
    have h1 : 0 ≤ n.tdiv 10 := Int.tdiv_nonneg g0 (by omega)
    have h2 : n.tdiv 10 < 10 ^ 2 := by rw [Int.tdiv_eq_ediv_of_nonneg g0]; omega
    have hw : IntKind.i64.wrap (n.tdiv 10) = n.tdiv 10 := Qbrg (by omega) (by omega)
    have hl := (Qgme (n.tdiv 10) (by simp only [Bool.and_eq_true, decide_eq_true_eq]; exact ⟨h1, h2⟩)).2
    rw [hw]
    exact SatE.need (by simp only [Bool.and_eq_true, decide_eq_true_eq]; exact ⟨h1, h2⟩) (SatE.need (by simp; omega) (SatE.ret ⟨_, rfl, rfl, by simp; omega⟩))))
  obtain ⟨v, H', h, x, rfl, rfl, hx⟩ := hE
  exact Qk78 (p := fun x => Qewq Tryz.prog CP Qstj [.int .i64 n] [] (.str x) [] ∧ x.length ≤ 2 + 1) ⟨x, h, hx⟩
theorem Qy0z (n : Int) (hg : (decide (0 ≤ n) && decide (n < 10 ^ (2 + 1))) = true) : Qewq Tryz.prog CP Qstj [.int .i64 n] [] (.str (dDec 2 n)) [] := by
  exact (Q0hm n hg).1
theorem Qfjp : EntOK Tryz.prog CP Qstj Qggn := by
  refine ⟨⟨Tryz.f109, by kernel_rfl, by kernel_rfl, by kernel_rfl⟩, fun args H res H' h => ?_⟩
  simp only [Qggn, E_dec] at h
  split at h
  · simp only [Option.some.injEq, Prod.mk.injEq] at h
    obtain ⟨hg, rfl, rfl⟩ := h
    exact Qy0z _ hg
  · cases h

noncomputable def Qhz0 : RE Ty El := ⟨Tryz.prog, CP, [(Qstj, Qggn)], Tryz.f109, 0, [], []⟩
theorem Q0st : REOK Qhz0 Qstj := ⟨CP_ok, (TabOK.cons Qfjp Qye1), by kernel_rfl, by kernel_rfl⟩
theorem Qehh (n : Int) : aRun Qhz0 600 false (body0 Qhz0.fn) (Q4gm Qhz0.fn [.int .i64 n] []) =
  ifb (decide (n < (10 : Int))) (some (.ret (.str (List.map (fun n => UInt8.ofNat n.toNat) (List.map (fun n => n) [IntKind.u8.wrap (IntKind.i64.wrap ((48 : Int) + n))]))) [])) (ifb (decide ((0 : Int) ≤ IntKind.i64.wrap (n.tdiv (10 : Int))) && decide (IntKind.i64.wrap (n.tdiv (10 : Int)) < (10 : Int) ^ ((2 : Nat) + (1 : Nat)))) (ifb (decide (List.length (dDec (2 : Nat) (IntKind.i64.wrap (n.tdiv (10 : Int)))) + (List.map (fun n => UInt8.ofNat n.toNat) (List.map (fun n => n) [IntKind.u8.wrap (IntKind.i64.wrap ((48 : Int) + n.tmod (10 : Int)))])).length ≤ (9223372036854775807 : Nat))) (some (.ret (.str (dDec (2 : Nat) (IntKind.i64.wrap (n.tdiv (10 : Int))) ++ List.map (fun n => UInt8.ofNat n.toNat) (List.map (fun n => n) [IntKind.u8.wrap (IntKind.i64.wrap ((48 : Int) + n.tmod (10 : Int)))]))) [])) (none)) (none)) := by kernel_rfl
theorem Qn6d (n : Int) (hg : (decide (0 ≤ n) && decide (n < 10 ^ (3 + 1))) = true) : Qewq Tryz.prog CP Qstj [.int .i64 n] [] (.str (dDec 3 n)) [] ∧ (dDec 3 n).length ≤ 3 + 1 := by
  simp only [Bool.and_eq_true, decide_eq_true_eq] at hg
  obtain ⟨g0, g1⟩ := hg
  have hE : CallE Qhz0.P Qhz0.C Qstj [.int .i64 n] [] (fun v h => ∃ x : Str, v = .str x ∧ h = [] ∧ x.length ≤ 3 + 1) := CallE.of Q0st (by kernel_rfl) (Qehh n) (SatE.ifb (fun _ => SatE.ret ⟨_, rfl, rfl, by simp⟩) (fun e => by
    have he := of_decide_eq_false e
    have h1 : 0 ≤ n.tdiv 10 := Int.tdiv_nonneg g0 (by omega)
    have h2 : n.tdiv 10 < 10 ^ 3 := by rw [Int.tdiv_eq_ediv_of_nonneg g0]; omega
    have hw : IntKind.i64.wrap (n.tdiv 10) = n.tdiv 10 := Qbrg (by omega) (by omega)
    have hl := (Q0hm (n.tdiv 10) (by simp only [Bool.and_eq_true, decide_eq_true_eq]; exact ⟨h1, h2⟩)).2
    rw [hw]
    exact SatE.need (by simp only [Bool.and_eq_true, decide_eq_true_eq]; exact ⟨h1, h2⟩) (SatE.need (by simp; omega) (SatE.ret ⟨_, rfl, rfl, by simp; omega⟩))))
  obtain ⟨v, H', h, x, rfl, rfl, hx⟩ := hE
  exact Qk78 (p := fun x => Qewq Tryz.prog CP Qstj [.int .i64 n] [] (.str x) [] ∧ x.length ≤ 3 + 1) ⟨x, h, hx⟩
theorem Qero (n : Int) (hg : (decide (0 ≤ n) && decide (n < 10 ^ (3 + 1))) = true) : Qewq Tryz.prog CP Qstj [.int .i64 n] [] (.str (dDec 3 n)) [] := by
  exact (Qn6d n hg).1
theorem Q0nj : EntOK Tryz.prog CP Qstj Qcmq := by
  refine ⟨⟨Tryz.f109, by kernel_rfl, by kernel_rfl, by kernel_rfl⟩, fun args H res H' h => ?_⟩
  simp only [Qcmq, E_dec] at h
  split at h
  · simp only [Option.some.injEq, Prod.mk.injEq] at h
    obtain ⟨hg, rfl, rfl⟩ := h
    exact Qero _ hg
  · cases h

noncomputable def Qrxb : RE Ty El := ⟨Tryz.prog, CP, [(Qstj, Qcmq)], Tryz.f109, 0, [], []⟩
theorem Qe66 : REOK Qrxb Qstj := ⟨CP_ok, (TabOK.cons Q0nj Qye1), by kernel_rfl, by kernel_rfl⟩
theorem Qsny (n : Int) : aRun Qrxb 600 false (body0 Qrxb.fn) (Q4gm Qrxb.fn [.int .i64 n] []) =
  ifb (decide (n < (10 : Int))) (some (.ret (.str (List.map (fun n => UInt8.ofNat n.toNat) (List.map (fun n => n) [IntKind.u8.wrap (IntKind.i64.wrap ((48 : Int) + n))]))) [])) (ifb (decide ((0 : Int) ≤ IntKind.i64.wrap (n.tdiv (10 : Int))) && decide (IntKind.i64.wrap (n.tdiv (10 : Int)) < (10 : Int) ^ ((3 : Nat) + (1 : Nat)))) (ifb (decide (List.length (dDec (3 : Nat) (IntKind.i64.wrap (n.tdiv (10 : Int)))) + (List.map (fun n => UInt8.ofNat n.toNat) (List.map (fun n => n) [IntKind.u8.wrap (IntKind.i64.wrap ((48 : Int) + n.tmod (10 : Int)))])).length ≤ (9223372036854775807 : Nat))) (some (.ret (.str (dDec (3 : Nat) (IntKind.i64.wrap (n.tdiv (10 : Int))) ++ List.map (fun n => UInt8.ofNat n.toNat) (List.map (fun n => n) [IntKind.u8.wrap (IntKind.i64.wrap ((48 : Int) + n.tmod (10 : Int)))]))) [])) (none)) (none)) := by kernel_rfl
theorem Qbt7 (n : Int) (hg : (decide (0 ≤ n) && decide (n < 10 ^ (4 + 1))) = true) : Qewq Tryz.prog CP Qstj [.int .i64 n] [] (.str (dDec 4 n)) [] ∧ (dDec 4 n).length ≤ 4 + 1 := by
  simp only [Bool.and_eq_true, decide_eq_true_eq] at hg
  obtain ⟨g0, g1⟩ := hg
  have hE : CallE Qrxb.P Qrxb.C Qstj [.int .i64 n] [] (fun v h => ∃ x : Str, v = .str x ∧ h = [] ∧ x.length ≤ 4 + 1) := CallE.of Qe66 (by kernel_rfl) (Qsny n) (SatE.ifb (fun _ => SatE.ret ⟨_, rfl, rfl, by simp⟩) (fun e => by
    have he := of_decide_eq_false e
    have h1 : 0 ≤ n.tdiv 10 := Int.tdiv_nonneg g0 (by omega)
    have h2 : n.tdiv 10 < 10 ^ 4 := by rw [Int.tdiv_eq_ediv_of_nonneg g0]; omega
    have hw : IntKind.i64.wrap (n.tdiv 10) = n.tdiv 10 := Qbrg (by omega) (by omega)
    have hl := (Qn6d (n.tdiv 10) (by simp only [Bool.and_eq_true, decide_eq_true_eq]; exact ⟨h1, h2⟩)).2
    rw [hw]
    exact SatE.need (by simp only [Bool.and_eq_true, decide_eq_true_eq]; exact ⟨h1, h2⟩) (SatE.need (by simp; omega) (SatE.ret ⟨_, rfl, rfl, by simp; omega⟩))))
  obtain ⟨v, H', h, x, rfl, rfl, hx⟩ := hE
  exact Qk78 (p := fun x => Qewq Tryz.prog CP Qstj [.int .i64 n] [] (.str x) [] ∧ x.length ≤ 4 + 1) ⟨x, h, hx⟩
theorem Qxm3 (n : Int) (hg : (decide (0 ≤ n) && decide (n < 10 ^ (4 + 1))) = true) : Qewq Tryz.prog CP Qstj [.int .i64 n] [] (.str (dDec 4 n)) [] := by
  exact (Qbt7 n hg).1
theorem Qqii : EntOK Tryz.prog CP Qstj Qmce := by
  refine ⟨⟨Tryz.f109, by kernel_rfl, by kernel_rfl, by kernel_rfl⟩, fun args H res H' h => ?_⟩
  simp only [Qmce, E_dec] at h
  split at h
  · simp only [Option.some.injEq, Prod.mk.injEq] at h
    obtain ⟨hg, rfl, rfl⟩ := h
    exact Qxm3 _ hg
  · cases h

noncomputable def Q91e : RE Ty El := ⟨Tryz.prog, CP, [], Tryz.f161, 0, [], [(2, [(0, .any), (1, .any), (5, .any)])]⟩
theorem Qk3z : REOK Q91e Q1eg := ⟨CP_ok, Qye1, by kernel_rfl, by kernel_rfl⟩
theorem Qhfw (s : Str) (n : Int) : aRun Q91e 600 false (body0 Q91e.fn) (Q4gm Q91e.fn [.str s, .int .i64 n] []) =
  some (.go (Qu6t Q91e.fn 2) [.str s, .int .i64 n, .str #[].toList] []) := by kernel_rfl
theorem Qmlg (x0 : Str) (x1 : Int) (x2 : Str) : aRun Q91e 600 true (Qu6t Q91e.fn 2) (cutSt Q91e.fn (Q1m4 Q91e (Qu6t Q91e.fn 2)) [.str x0, .int .i64 x1, .str x2] []) =
  ifb (decide (x1 > (0 : Int))) (ifb (x1.tmod (2 : Int) == (1 : Int)) (ifb (decide (List.length x2 + List.length x0 ≤ (9223372036854775807 : Nat))) (ifb (decide (List.length x0 + List.length x0 ≤ (9223372036854775807 : Nat))) (some (.go (Qu6t Q91e.fn 2) [.str (x0 ++ x0), .int .i64 (IntKind.i64.wrap (x1.tdiv (2 : Int))), .str (x2 ++ x0)] [])) (none)) (none)) (ifb (decide (List.length x0 + List.length x0 ≤ (9223372036854775807 : Nat))) (some (.go (Qu6t Q91e.fn 2) [.str (x0 ++ x0), .int .i64 (IntKind.i64.wrap (x1.tdiv (2 : Int))), .str x2] [])) (none))) (some (.ret (.str x2) [])) := by kernel_rfl
theorem Qor1 : ∀ (d : Nat) (x : Str) (n : Int) (o : Str), n < 2 ^ d → d ≤ 6 → x.length * 2 ^ d ≤ 64 → o.length * 2 ^ d ≤ 64 →
    CutE Q91e Q1eg 2 [.str x, .int .i64 n, .str o] [] (fun v h => ∃ y : Str, v = .str y ∧ h = [] ∧ y.length ≤ 4096) := by
  intro d
  induction d with
  | zero =>
    intro x n o hn hd hx ho
    refine CutE.of Qk3z rfl (Qmlg x n o) ?_
    rw [show decide (n > (0 : Int)) = false from decide_eq_false (by simp at hn; omega)]
    exact SatE.ret ⟨_, rfl, rfl, by simp at ho; omega⟩
  | succ d ih =>
    intro x n o hn hd hx ho
    have hp : 2 ^ (d + 1) = 2 * 2 ^ d := by rw [Nat.pow_succ, Nat.mul_comm]
    have hp1 : 1 ≤ 2 ^ d := Nat.one_le_two_pow
    have hx' : x.length * 2 ^ d ≤ 32 := by
      have : x.length * 2 ^ (d + 1) = 2 * (x.length * 2 ^ d) := by rw [hp, ← Nat.mul_assoc, Nat.mul_comm x.length 2, Nat.mul_assoc]
      omega
    have ho' : o.length * 2 ^ d ≤ 32 := by
      have : o.length * 2 ^ (d + 1) = 2 * (o.length * 2 ^ d) := by rw [hp, ← Nat.mul_assoc, Nat.mul_comm o.length 2, Nat.mul_assoc]
      omega
    have hxl : x.length ≤ 32 := Nat.le_trans (Nat.le_mul_of_pos_right _ hp1) hx'
    have hol : o.length ≤ 32 := Nat.le_trans (Nat.le_mul_of_pos_right _ hp1) ho'
    have hxx : (x ++ x).length * 2 ^ d ≤ 64 := by rw [List.length_append, Nat.add_mul]; omega
    have hox : (o ++ x).length * 2 ^ d ≤ 64 := by rw [List.length_append, Nat.add_mul]; omega
    refine CutE.of Qk3z rfl (Qmlg x n o) ?_
    refine SatE.ifb (fun h0 => ?_) (fun _ => SatE.ret ⟨_, rfl, rfl, by omega⟩)
    have h0 := of_decide_eq_true h0
    have hn' : n < 2 * 2 ^ d := by have e : (2 : Int) ^ (d + 1) = 2 * 2 ^ d := by rw [Int.pow_succ, Int.mul_comm]
                                   rw [e] at hn; exact hn
    have hq : n.tdiv 2 < 2 ^ d := by rw [Int.tdiv_eq_ediv_of_nonneg (by omega)]; exact Int.ediv_lt_of_lt_mul (by omega) (by rw [Int.mul_comm]; exact hn')
    have hlim : (2 : Int) ^ (d + 1) ≤ 64 := by
      have : d + 1 ≤ 6 := hd
      have := Nat.pow_le_pow_right (n := 2) (by omega) this
      exact_mod_cast this
    have hw : IntKind.i64.wrap (n.tdiv 2) = n.tdiv 2 := Qbrg (by rw [Int.tdiv_eq_ediv_of_nonneg (by omega)]; omega) (by rw [Int.tdiv_eq_ediv_of_nonneg (by omega)]; omega)
    rw [hw]
    refine SatE.ifb (fun _ => ?_) (fun _ => ?_)
    · exact SatE.need (decide_eq_true (by omega)) (SatE.need (decide_eq_true (by omega)) (SatE.cut (ih _ _ _ hq (by omega) hxx hox)))
    · exact SatE.need (decide_eq_true (by omega)) (SatE.cut (ih _ _ _ hq (by omega) hxx (by omega)))
theorem Q8h3 (s : Str) (n : Int) (hg : (decide (s.length ≤ 1) && decide (n < 64)) = true) : Qewq Tryz.prog CP Q1eg [.str s, .int .i64 n] [] (.str (dMany s n)) [] := by
  simp only [Bool.and_eq_true, decide_eq_true_eq] at hg
  obtain ⟨g0, g1⟩ := hg
  have hE : CallE Q91e.P Q91e.C Q1eg [.str s, .int .i64 n] [] (fun v h => ∃ y : Str, v = .str y ∧ h = [] ∧ y.length ≤ 4096) := CallE.of Qk3z (by kernel_rfl) (Qhfw s n) (SatE.cut (Qor1 6 s n [] (by omega) (by omega) (by omega) (by simp)))
  obtain ⟨v, H', h, x, rfl, rfl, hx⟩ := hE
  exact (Qk78 (p := fun x => Qewq Tryz.prog CP Q1eg [.str s, .int .i64 n] [] (.str x) [] ∧ x.length ≤ 4096) ⟨x, h, hx⟩).1
theorem Q8hv : EntOK Tryz.prog CP Q1eg Qvc4 := by
  refine ⟨⟨Tryz.f161, by kernel_rfl, by kernel_rfl, by kernel_rfl⟩, fun args H res H' h => ?_⟩
  simp only [Qvc4] at h
  split at h
  · simp only [Option.some.injEq, Prod.mk.injEq] at h
    obtain ⟨hg, rfl, rfl⟩ := h
    exact Q8h3 _ _ hg
  · cases h

noncomputable def Qxcu : RE Ty El := ⟨Tryz.prog, CP, [(Qchm, Q2vb)], Tryz.f120, 1, [], []⟩
theorem Qa1g : REOK Qxcu Q0nv := ⟨CP_ok, (TabOK.cons Qyvd Qye1), by kernel_rfl, by kernel_rfl⟩
theorem Qamv (bs : List Int) (p : Int) : aRun Qxcu 600 false (body0 Qxcu.fn) (Q4gm Qxcu.fn [.ptr 0 0] [.box [.sl .u8 bs, .int .i64 p]]) =
  ifb (rdOk bs p && decide ((0 : Nat) < [#[].toList, #[(110 : UInt8), (111 : UInt8), (110 : UInt8), (101 : UInt8)].toList, #[(53 : UInt8), (32 : UInt8), (52 : UInt8)].toList, #[(48 : UInt8), (32 : UInt8), (49 : UInt8), (48 : UInt8), (48 : UInt8), (48 : UInt8), (49 : UInt8)].toList, #[(49 : UInt8), (48 : UInt8), (48 : UInt8), (48 : UInt8), (48 : UInt8), (32 : UInt8), (49 : UInt8), (48 : UInt8), (48 : UInt8), (48 : UInt8), (48 : UInt8)].toList, #[(48 : UInt8), (49 : UInt8)].toList, #[(48 : UInt8)].toList, #[(55 : UInt8)].toList, #[(97 : UInt8), (108 : UInt8), (102 : UInt8), (97 : UInt8)].toList, #[(97 : UInt8), (108 : UInt8), (102 : UInt8), (97 : UInt8), (32 : UInt8), (97 : UInt8), (108 : UInt8), (102 : UInt8), (97 : UInt8)].toList, #[(97 : UInt8), (108 : UInt8), (102 : UInt8), (97 : UInt8), (32 : UInt8), (98 : UInt8), (114 : UInt8), (97 : UInt8), (118 : UInt8), (32 : UInt8)].toList, #[(111 : UInt8), (112 : UInt8), (101 : UInt8), (110 : UInt8), (32 : UInt8)].toList, #[(97 : UInt8), (108 : UInt8), (102 : UInt8), (97 : UInt8), (32 : UInt8), (98 : UInt8), (114 : UInt8), (97 : UInt8), (118 : UInt8), (32 : UInt8), (97 : UInt8), (108 : UInt8), (102 : UInt8), (97 : UInt8), (32 : UInt8), (98 : UInt8), (114 : UInt8), (97 : UInt8), (118 : UInt8), (32 : UInt8), (97 : UInt8), (108 : UInt8), (102 : UInt8), (97 : UInt8), (32 : UInt8), (98 : UInt8), (114 : UInt8), (97 : UInt8), (118 : UInt8), (32 : UInt8), (97 : UInt8), (108 : UInt8), (102 : UInt8), (97 : UInt8), (32 : UInt8), (98 : UInt8), (114 : UInt8), (97 : UInt8), (118 : UInt8), (32 : UInt8), (97 : UInt8), (108 : UInt8), (102 : UInt8), (97 : UInt8)].toList, #[(97 : UInt8), (49 : UInt8), (32 : UInt8)].toList, #[(10 : UInt8)].toList, #[(53 : UInt8), (32 : UInt8), (53 : UInt8), (32 : UInt8), (53 : UInt8)].toList].length)) (some (.ret (.str (ofV bs p [#[].toList, #[(110 : UInt8), (111 : UInt8), (110 : UInt8), (101 : UInt8)].toList, #[(53 : UInt8), (32 : UInt8), (52 : UInt8)].toList, #[(48 : UInt8), (32 : UInt8), (49 : UInt8), (48 : UInt8), (48 : UInt8), (48 : UInt8), (49 : UInt8)].toList, #[(49 : UInt8), (48 : UInt8), (48 : UInt8), (48 : UInt8), (48 : UInt8), (32 : UInt8), (49 : UInt8), (48 : UInt8), (48 : UInt8), (48 : UInt8), (48 : UInt8)].toList, #[(48 : UInt8), (49 : UInt8)].toList, #[(48 : UInt8)].toList, #[(55 : UInt8)].toList, #[(97 : UInt8), (108 : UInt8), (102 : UInt8), (97 : UInt8)].toList, #[(97 : UInt8), (108 : UInt8), (102 : UInt8), (97 : UInt8), (32 : UInt8), (97 : UInt8), (108 : UInt8), (102 : UInt8), (97 : UInt8)].toList, #[(97 : UInt8), (108 : UInt8), (102 : UInt8), (97 : UInt8), (32 : UInt8), (98 : UInt8), (114 : UInt8), (97 : UInt8), (118 : UInt8), (32 : UInt8)].toList, #[(111 : UInt8), (112 : UInt8), (101 : UInt8), (110 : UInt8), (32 : UInt8)].toList, #[(97 : UInt8), (108 : UInt8), (102 : UInt8), (97 : UInt8), (32 : UInt8), (98 : UInt8), (114 : UInt8), (97 : UInt8), (118 : UInt8), (32 : UInt8), (97 : UInt8), (108 : UInt8), (102 : UInt8), (97 : UInt8), (32 : UInt8), (98 : UInt8), (114 : UInt8), (97 : UInt8), (118 : UInt8), (32 : UInt8), (97 : UInt8), (108 : UInt8), (102 : UInt8), (97 : UInt8), (32 : UInt8), (98 : UInt8), (114 : UInt8), (97 : UInt8), (118 : UInt8), (32 : UInt8), (97 : UInt8), (108 : UInt8), (102 : UInt8), (97 : UInt8), (32 : UInt8), (98 : UInt8), (114 : UInt8), (97 : UInt8), (118 : UInt8), (32 : UInt8), (97 : UInt8), (108 : UInt8), (102 : UInt8), (97 : UInt8)].toList, #[(97 : UInt8), (49 : UInt8), (32 : UInt8)].toList, #[(10 : UInt8)].toList, #[(53 : UInt8), (32 : UInt8), (53 : UInt8), (32 : UInt8), (53 : UInt8)].toList])) [.box [.sl .u8 bs, .int .i64 (p + (1 : Int))]])) (none) := by kernel_rfl
theorem Qb3p (bs : List Int) (p : Int) (hg : rdOk bs p = true) : Qewq Tryz.prog CP Q0nv [.ptr 0 0] [.box [.sl .u8 bs, .int .i64 p]] (.str (ofV bs p bad12)) [.box [.sl .u8 bs, .int .i64 (p + 1)]] := by
  refine Qewq.of Qa1g (by kernel_rfl) (Qamv bs p) ?_
  rw [hg]
  exact Sat.ret rfl rfl
theorem Q83y : EntOK Tryz.prog CP Q0nv Qwn9 := by
  refine ⟨⟨Tryz.f120, by kernel_rfl, by kernel_rfl, by kernel_rfl⟩, fun args H res H' h => ?_⟩
  simp only [Qwn9] at h
  split at h
  · simp only [Option.some.injEq, Prod.mk.injEq] at h
    obtain ⟨hg, rfl, rfl⟩ := h
    exact Qb3p _ _ hg
  · cases h
end Lx
namespace Lx
open Go Go.Proofs
noncomputable def Qw6i : RE Ty El:=⟨Tryz.prog,CP,[(Qpxs,Q7v2)],Tryz.f89,1,[.agg [.ro .kind,.ro .point]],[(7,[(0,.any),(2,.any),(3,.any),(4,.any),(5,.any),(6,.any)]),(12,[(0,.any),(2,.any),(3,.any),(4,.any),(5,.any),(6,.any),(7,.any),(8,.any),(9,.any)])]⟩
theorem Qo8w : REOK Qw6i Qwua:=⟨CP_ok,(TabOK.cons Q0e7 Qye1),by kernel_rfl,by kernel_rfl⟩
theorem Qaoa (bs : List Int) (p : Int) : aRun Qw6i 600 false (body0 Qw6i.fn) (Q4gm Qw6i.fn [.ptr 0 0] [.box [.sl .u8 bs,.int .i64 p]]) =
 ifb (posOk p) (ifb (posOk (p + (1 : Int))) (ifb (posOk (p + (1 : Int) + (1 : Int))) (ifb (pickV bs (p + (1 : Int) + (1 : Int)) (4 : Int) == (0 : Int)) (ifb (posOk (p + (1 : Int) + (1 : Int) + (1 : Int))) (ifb (posOk (p + (1 : Int) + (1 : Int) + (1 : Int) + (1 : Int))) (ifb (inb (pickV bs (p + (1 : Int) + (1 : Int) + (1 : Int) + (1 : Int)) (3 : Int)) [(6 : Int),(6 : Int),(16 : Int)].length) (some (.go (Qu6t Qw6i.fn 7) [.ptr 0 0,.ptr 1 0,.ptr 2 0,.sl .str [#[(97 : UInt8),(108 : UInt8),(102 : UInt8),(97 : UInt8)].toList, #[(98 : UInt8),(114 : UInt8),(97 : UInt8),(118 : UInt8)].toList, #[(99 : UInt8),(104 : UInt8),(97 : UInt8),(114 : UInt8)].toList, #[(100 : UInt8),(45 : UInt8),(52 : UInt8)].toList, #[(101 : UInt8),(99 : UInt8),(104 : UInt8),(111 : UInt8)].toList, #[(120 : UInt8)].toList],.int .i64 ([(6 : Int),(6 : Int),(16 : Int)].getD (pickV bs (p + (1 : Int) + (1 : Int) + (1 : Int) + (1 : Int)) (3 : Int)).toNat (Qw6i.C.dflt Ty.int)),.int .i64 (0 : Int)] [.box [.sl .u8 bs,.int .i64 (p + (1 : Int) + (1 : Int) + (1 : Int) + (1 : Int) + (1 : Int))],.box [.nils,.nils],.box [.own 3 [] 0,.nils],.row .kind ([Kind.mk #[(97 : UInt8),(49 : UInt8)].toList (1 : Int) (IntKind.i64.wrap ((1 : Int) + pickV bs p (3 : Int))),Kind.mk #[(104 : UInt8),(101 : UInt8),(97 : UInt8),(118 : UInt8),(121 : UInt8)].toList (IntKind.i64.wrap ((2 : Int) + pickV bs (p + (1 : Int)) (2 : Int))) (5 : Int)] ++ [Kind.mk #[(115 : UInt8),(108 : UInt8),(111 : UInt8),(119 : UInt8)].toList (IntKind.i64.wrap ((1 : Int) + pickV bs (p + (1 : Int) + (1 : Int) + (1 : Int)) (50 : Int))) (50 : Int)]) 0 0 0 .no])) (none)) (none)) (none)) (ifb (posOk (p + (1 : Int) + (1 : Int) + (1 : Int))) (ifb (inb (pickV bs (p + (1 : Int) + (1 : Int) + (1 : Int)) (3 : Int)) [(6 : Int),(6 : Int),(16 : Int)].length) (some (.go (Qu6t Qw6i.fn 7) [.ptr 0 0,.ptr 1 0,.ptr 2 0,.sl .str [#[(97 : UInt8),(108 : UInt8),(102 : UInt8),(97 : UInt8)].toList, #[(98 : UInt8),(114 : UInt8),(97 : UInt8),(118 : UInt8)].toList, #[(99 : UInt8),(104 : UInt8),(97 : UInt8),(114 : UInt8)].toList, #[(100 : UInt8),(45 : UInt8),(52 : UInt8)].toList, #[(101 : UInt8),(99 : UInt8),(104 : UInt8),(111 : UInt8)].toList, #[(120 : UInt8)].toList],.int .i64 ([(6 : Int),(6 : Int),(16 : Int)].getD (pickV bs (p + (1 : Int) + (1 : Int) + (1 : Int)) (3 : Int)).toNat (Qw6i.C.dflt Ty.int)),.int .i64 (0 : Int)] [.box [.sl .u8 bs,.int .i64 (p + (1 : Int) + (1 : Int) + (1 : Int) + (1 : Int))],.box [.nils,.nils],.box [.own 3 [] 0,.nils],.row .kind [Kind.mk #[(97 : UInt8),(49 : UInt8)].toList (1 : Int) (IntKind.i64.wrap ((1 : Int) + pickV bs p (3 : Int))),Kind.mk #[(104 : UInt8),(101 : UInt8),(97 : UInt8),(118 : UInt8),(121 : UInt8)].toList (IntKind.i64.wrap ((2 : Int) + pickV bs (p + (1 : Int)) (2 : Int))) (5 : Int)] 0 0 0 .no])) (none)) (none))) (none)) (none)) (none):=by kernel_rfl
theorem Qmss (x0 : List (El .str)) (x1 : Int) (x2 : Int) (x3 : List (El .u8)) (x4 : Int) (x5 : List (El .kind)) : aRun Qw6i 600 true (Qu6t Qw6i.fn 7) (cutSt Qw6i.fn (Q1m4 Qw6i (Qu6t Qw6i.fn 7)) [.ptr 0 0,.ptr 1 0,.ptr 2 0,.sl .str x0,.int .i64 x1,.int .i64 x2] [.box [.sl .u8 x3,.int .i64 x4],.box [.nils,.nils],.box [.own 3 [] 0,.nils],.row .kind x5 0 0 0 .no]) =
 ifb (decide (x2 < (↑x0.length : Int))) (ifb (inb x2 x0.length) (ifb (posOk x4) (ifb (posOk (x4 + (1 : Int))) (some (.go (Qu6t Qw6i.fn 12) [.ptr 0 0,.ptr 1 0,.ptr 2 0,.sl .str x0,.int .i64 x1,.int .i64 x2,.ptr 4 0,.bool true,.int .i64 (0 : Int)] [.box [.sl .u8 x3,.int .i64 (x4 + (1 : Int) + (1 : Int))],.box [.nils,.nils],.box [.own 3 [] 0,.nils],.row .kind x5 0 0 0 .no,.box [.str (x0.getD x2.toNat (Qw6i.C.dflt Ty.str)),.int .i64 (pickV x3 x4 x1),.int .i64 (pickV x3 (x4 + (1 : Int)) x1)]])) (none)) (none)) (none)) (some (.ret (.agg [.sl .kind x5,.sl .point []]) [.box [.sl .u8 x3,.int .i64 x4]])):=by kernel_rfl
theorem Qu0y (x0 : List (El .str)) (x1 : Int) (x2 : Int) (x3 : Bool) (x4 : Int) (x5 : List (El .u8)) (x6 : Int) (x7 : List (El .kind)) (x8 : Str) (x9 : Int) (x10 : Int) : aRun Qw6i 600 true (Qu6t Qw6i.fn 12) (cutSt Qw6i.fn (Q1m4 Qw6i (Qu6t Qw6i.fn 12)) [.ptr 0 0,.ptr 1 0,.ptr 2 0,.sl .str x0,.int .i64 x1,.int .i64 x2,.ptr 4 0,.bool x3,.int .i64 x4] [.box [.sl .u8 x5,.int .i64 x6],.box [.nils,.nils],.box [.own 3 [] 0,.nils],.row .kind x7 0 0 0 .no,.box [.str x8,.int .i64 x9,.int .i64 x10]]) =
 ifb (decide (x4 < (0 : Int))) (ifb x3 (none) (some (.go (Qu6t Qw6i.fn 12) [.ptr 0 0,.ptr 1 0,.ptr 2 0,.sl .str x0,.int .i64 x1,.int .i64 x2,.ptr 4 0,.bool false,.int .i64 (IntKind.i64.wrap (x4 + (1 : Int)))] [.box [.sl .u8 x5,.int .i64 x6],.box [.nils,.nils],.box [.own 3 [] 0,.nils],.row .kind x7 0 0 0 .no,.box [.str x8,.int .i64 x9,.int .i64 x10]]))) (ifb x3 (some (.go (Qu6t Qw6i.fn 7) [.ptr 0 0,.ptr 1 0,.ptr 2 0,.sl .str x0,.int .i64 x1,.int .i64 (IntKind.i64.wrap (x2 + (1 : Int)))] [.box [.sl .u8 x5,.int .i64 x6],.box [.nils,.nils],.box [.own 3 [] 0,.own 4 [] 0],.row .kind x7 0 0 0 .no,.row .point [Point.mk x8 x9 x10] 0 0 0 .no])) (some (.go (Qu6t Qw6i.fn 7) [.ptr 0 0,.ptr 1 0,.ptr 2 0,.sl .str x0,.int .i64 x1,.int .i64 (IntKind.i64.wrap (x2 + (1 : Int)))] [.box [.sl .u8 x5,.int .i64 x6],.box [.nils,.nils],.box [.own 3 [] 0,.nils],.row .kind x7 0 0 0 .no]))):=by kernel_rfl
theorem Qtpe (x0 : List (El .str)) (x1 : Int) (x2 : Int) (x3 : List (El .u8)) (x4 : Int) (x5 : List (El .kind)) (x6 : List (El .point)) : aRun Qw6i 600 true (Qu6t Qw6i.fn 7) (cutSt Qw6i.fn (Q1m4 Qw6i (Qu6t Qw6i.fn 7)) [.ptr 0 0,.ptr 1 0,.ptr 2 0,.sl .str x0,.int .i64 x1,.int .i64 x2] [.box [.sl .u8 x3,.int .i64 x4],.box [.nils,.nils],.box [.own 3 [] 0,.own 4 [] 0],.row .kind x5 0 0 0 .no,.row .point x6 0 0 0 .no]) =
 ifb (decide (x2 < (↑x0.length : Int))) (ifb (inb x2 x0.length) (ifb (posOk x4) (ifb (posOk (x4 + (1 : Int))) (some (.go (Qu6t Qw6i.fn 12) [.ptr 0 0,.ptr 1 0,.ptr 2 0,.sl .str x0,.int .i64 x1,.int .i64 x2,.ptr 5 0,.bool true,.int .i64 (0 : Int)] [.box [.sl .u8 x3,.int .i64 (x4 + (1 : Int) + (1 : Int))],.box [.nils,.nils],.box [.own 3 [] 0,.own 4 [] 0],.row .kind x5 0 0 0 .no,.row .point x6 0 0 0 .no,.box [.str (x0.getD x2.toNat (Qw6i.C.dflt Ty.str)),.int .i64 (pickV x3 x4 x1),.int .i64 (pickV x3 (x4 + (1 : Int)) x1)]])) (none)) (none)) (none)) (some (.ret (.agg [.sl .kind x5,.sl .point x6]) [.box [.sl .u8 x3,.int .i64 x4]])):=by kernel_rfl
theorem Qod9 (x0 : List (El .str)) (x1 : Int) (x2 : Int) (x3 : Bool) (x4 : Int) (x5 : List (El .u8)) (x6 : Int) (x7 : List (El .kind)) (x8 : List (El .point)) (x9 : Str) (x10 : Int) (x11 : Int) : aRun Qw6i 600 true (Qu6t Qw6i.fn 12) (cutSt Qw6i.fn (Q1m4 Qw6i (Qu6t Qw6i.fn 12)) [.ptr 0 0,.ptr 1 0,.ptr 2 0,.sl .str x0,.int .i64 x1,.int .i64 x2,.ptr 5 0,.bool x3,.int .i64 x4] [.box [.sl .u8 x5,.int .i64 x6],.box [.nils,.nils],.box [.own 3 [] 0,.own 4 [] 0],.row .kind x7 0 0 0 .no,.row .point x8 0 0 0 .no,.box [.str x9,.int .i64 x10,.int .i64 x11]]) =
 ifb (decide (x4 < (↑x8.length : Int))) (ifb x3 (ifb (inb x4 x8.length) (ifb ((x8.getD x4.toNat (Qw6i.C.dflt Ty.point)).x != x10) (some (.go (Qu6t Qw6i.fn 12) [.ptr 0 0,.ptr 1 0,.ptr 2 0,.sl .str x0,.int .i64 x1,.int .i64 x2,.ptr 5 0,.bool true,.int .i64 (IntKind.i64.wrap (x4 + (1 : Int)))] [.box [.sl .u8 x5,.int .i64 x6],.box [.nils,.nils],.box [.own 3 [] 0,.own 4 [] 0],.row .kind x7 0 0 0 .no,.row .point x8 0 0 0 .no,.box [.str x9,.int .i64 x10,.int .i64 x11]])) (ifb (inb x4 x8.length) (some (.go (Qu6t Qw6i.fn 12) [.ptr 0 0,.ptr 1 0,.ptr 2 0,.sl .str x0,.int .i64 x1,.int .i64 x2,.ptr 5 0,.bool ((x8.getD x4.toNat (Qw6i.C.dflt Ty.point)).y != x11),.int .i64 (IntKind.i64.wrap (x4 + (1 : Int)))] [.box [.sl .u8 x5,.int .i64 x6],.box [.nils,.nils],.box [.own 3 [] 0,.own 4 [] 0],.row .kind x7 0 0 0 .no,.row .point x8 0 0 0 .no,.box [.str x9,.int .i64 x10,.int .i64 x11]])) (none))) (none)) (some (.go (Qu6t Qw6i.fn 12) [.ptr 0 0,.ptr 1 0,.ptr 2 0,.sl .str x0,.int .i64 x1,.int .i64 x2,.ptr 5 0,.bool false,.int .i64 (IntKind.i64.wrap (x4 + (1 : Int)))] [.box [.sl .u8 x5,.int .i64 x6],.box [.nils,.nils],.box [.own 3 [] 0,.own 4 [] 0],.row .kind x7 0 0 0 .no,.row .point x8 0 0 0 .no,.box [.str x9,.int .i64 x10,.int .i64 x11]]))) (ifb x3 (ifb (decide ((x8.length + [Point.mk x9 x10 x11].length) * Qbhn Qw6i.P (160 : Nat) ≤ (140737488355328 : Nat))) (some (.go (Qu6t Qw6i.fn 7) [.ptr 0 0,.ptr 1 0,.ptr 2 0,.sl .str x0,.int .i64 x1,.int .i64 (IntKind.i64.wrap (x2 + (1 : Int)))] [.box [.sl .u8 x5,.int .i64 x6],.box [.nils,.nils],.box [.own 3 [] 0,.own 4 [] 0],.row .kind x7 0 0 0 .no,.row .point (x8 ++ [Point.mk x9 x10 x11]) 0 0 0 .no])) (none)) (some (.go (Qu6t Qw6i.fn 7) [.ptr 0 0,.ptr 1 0,.ptr 2 0,.sl .str x0,.int .i64 x1,.int .i64 (IntKind.i64.wrap (x2 + (1 : Int)))] [.box [.sl .u8 x5,.int .i64 x6],.box [.nils,.nils],.box [.own 3 [] 0,.own 4 [] 0],.row .kind x7 0 0 0 .no,.row .point x8 0 0 0 .no]))):=by kernel_rfl
theorem Q1qw (bs : List Int) (ks : List Kind) (ps : List Point) (side X Y q q0 : Int) (i : Nat) (hi : i < 6) (hl : ps.length ≤ 6)
  (K0 : CutE Qw6i Qwua 7 [.ptr 0 0,.ptr 1 0,.ptr 2 0,.sl .str Qf10,.int .i64 side,.int .i64 ((i + 1 : Nat) : Int)] [.box [.sl .u8 bs,.int .i64 q],.box [.nils,.nils],.box [.own 3 [] 0,.own 4 [] 0],.row .kind ks 0 0 0 .no,.row .point ps 0 0 0 .no] (fun v h=>∃ (z : List Point) (r : Int),v = .agg [.sl .kind ks,.sl .point z] ∧ h = [.box [.sl .u8 bs,.int .i64 r]] ∧ PI z 6 ∧ 1 ≤ z.length ∧ q0 ≤ r ∧ r ≤ q0 + 12))
  (K1 : Q343 ps ⟨Qf10.getD i [],X,Y⟩ = true → CutE Qw6i Qwua 7 [.ptr 0 0,.ptr 1 0,.ptr 2 0,.sl .str Qf10,.int .i64 side,.int .i64 ((i + 1 : Nat) : Int)] [.box [.sl .u8 bs,.int .i64 q],.box [.nils,.nils],.box [.own 3 [] 0,.own 4 [] 0],.row .kind ks 0 0 0 .no,.row .point (ps ++ [⟨Qf10.getD i [],X,Y⟩]) 0 0 0 .no] (fun v h=>∃ (z : List Point) (r : Int),v = .agg [.sl .kind ks,.sl .point z] ∧ h = [.box [.sl .u8 bs,.int .i64 r]] ∧ PI z 6 ∧ 1 ≤ z.length ∧ q0 ≤ r ∧ r ≤ q0 + 12)) :
  ∀ (d k : Nat),k + d = ps.length → CutE Qw6i Qwua 12 [.ptr 0 0,.ptr 1 0,.ptr 2 0,.sl .str Qf10,.int .i64 side,.int .i64 (i : Int),.ptr 5 0,.bool (Q343 (ps.take k) ⟨Qf10.getD i [],X,Y⟩),.int .i64 (k : Int)] ([.box [.sl .u8 bs,.int .i64 q],.box [.nils,.nils],.box [.own 3 [] 0,.own 4 [] 0],.row .kind ks 0 0 0 .no,.row .point ps 0 0 0 .no,.box [.str (Qf10.getD i []),.int .i64 X,.int .i64 Y]]) (fun v h=>∃ (z : List Point) (r : Int),v = .agg [.sl .kind ks,.sl .point z] ∧ h = [.box [.sl .u8 bs,.int .i64 r]] ∧ PI z 6 ∧ 1 ≤ z.length ∧ q0 ≤ r ∧ r ≤ q0 + 12):=by
 have hb : Qbhn Qw6i.P 160 ≤ 256:=of_decide_eq_true (by kernel_rfl)
 have hwi : IntKind.wrap .i64 ((i : Int) + 1) = ((i + 1 : Nat) : Int):=by rw [Qbrg] <;> omega
 intro d
 induction d with
 | zero =>
  intro k hk
  refine CutE.of Qo8w rfl (Qod9 Qf10 side i _ k bs q ks ps _ X Y) ?_
  rw [show decide ((k : Int) < (ps.length : Int)) = false from decide_eq_false (by omega),List.take_of_length_le (by omega),hwi]
  simp only [Qk7y]
  cases hf : Q343 ps ⟨Qf10.getD i [],X,Y⟩ with
  | true=>exact SatE.need (Q1mk hb (by simp; omega)) (SatE.cut (K1 hf))
  | false=>exact SatE.cut K0
 | succ d ih =>
  intro k hk
  refine CutE.of Qo8w rfl (Qod9 Qf10 side i _ k bs q ks ps _ X Y) ?_
  have hlt : k < ps.length:=by omega
  have hw : IntKind.wrap .i64 ((k : Int) + 1) = ((k + 1 : Nat) : Int):=by rw [Qbrg] <;> omega
  have hw1 : IntKind.wrap .i64 ((k : Int) - 1) = (k : Int) - 1:=by rw [Qbrg] <;> omega
  have hd : ps.drop k = ps[k] :: ps.drop (k + 1):=List.drop_eq_getElem_cons hlt
  have hx : ps.getD (k : Int).toNat (Qw6i.C.dflt .point) = ps[k]:=by simp [hlt]
  have hin : inb (k : Int) ps.length = true:=by simp only [inb,Bool.and_eq_true,decide_eq_true_eq]; omega
  have hlo : decide ((k : Int) < (ps.length : Int)) = true:=decide_eq_true (by omega)
  have htk:=List.take_succ_eq_append_getElem hlt
  have hl : (ps.take (k + 1)).getLast? = some ps[k]:=by rw [List.take_succ_eq_append_getElem hlt,List.getLast?_concat]
  have hn:=ih (k + 1) (by omega)
  rw [htk] at hn
  have ha : Q343 (ps.take k ++ [ps[k]]) ⟨Qf10.getD i [],X,Y⟩ = (Q343 (ps.take k) ⟨Qf10.getD i [],X,Y⟩ && (ps[k].x != X || ps[k].y != Y)):=by
   simp only [Q343,List.all_append,List.all_cons,List.all_nil,Bool.and_true]
   congr 1
   cases h1 : ps[k].x == X <;> cases h2 : ps[k].y == Y <;> simp [bne,h1,h2]
  rw [ha] at hn
  rw [hlo,hin,hx,hw]
  simp only [Qd8q]
  cases hf : Q343 (ps.take k) ⟨Qf10.getD i [],X,Y⟩ with
  | false =>
   rw [hf,Bool.false_and] at hn
   exact SatE.cut hn
  | true =>
   rw [hf,Bool.true_and] at hn
   simp only [Qd8q]
   cases h1 : ps[k].x != X with
   | true =>
    rw [h1,Bool.true_or] at hn
    exact SatE.cut hn
   | false =>
    rw [h1,Bool.false_or] at hn
    exact SatE.cut hn
theorem Qvv4 (bs : List Int) (ks : List Kind) (side q0 : Int) (hbs : Qf9o bs = true) (hs : 1 ≤ side ∧ side ≤ 16) (h0 : 0 ≤ q0) (h1 : q0 ≤ 950000) : ∀ (d i : Nat) (ps : List Point) (q : Int),i + d = 6 → PI ps i → 1 ≤ ps.length → q0 ≤ q → q + 2 * d ≤ q0 + 12 →
  CutE Qw6i Qwua 7 [.ptr 0 0,.ptr 1 0,.ptr 2 0,.sl .str Qf10,.int .i64 side,.int .i64 (i : Int)] [.box [.sl .u8 bs,.int .i64 q],.box [.nils,.nils],.box [.own 3 [] 0,.own 4 [] 0],.row .kind ks 0 0 0 .no,.row .point ps 0 0 0 .no] (fun v h=>∃ (z : List Point) (r : Int),v = .agg [.sl .kind ks,.sl .point z] ∧ h = [.box [.sl .u8 bs,.int .i64 r]] ∧ PI z 6 ∧ 1 ≤ z.length ∧ q0 ≤ r ∧ r ≤ q0 + 12):=by
 intro d
 induction d with
 | zero =>
  intro i ps q hi hp hps hq hq2
  refine CutE.of Qo8w rfl (Qtpe Qf10 side i bs q ks ps) ?_
  have : i = 6:=by omega
  subst this
  exact SatE.ret ⟨ps,q,rfl,rfl,hp,hps,hq,by omega⟩
 | succ d ih =>
  intro i ps q hi hp hps hq hq2
  refine CutE.of Qo8w rfl (Qtpe Qf10 side i bs q ks ps) ?_
  have hn6 : Qf10.length = 6:=rfl
  have hlt : i < Qf10.length:=by omega
  have hw : IntKind.wrap .i64 ((i : Int) + 1) = ((i + 1 : Nat) : Int):=by rw [Qbrg] <;> omega
  have hw1 : IntKind.wrap .i64 ((i : Int) - 1) = (i : Int) - 1:=by rw [Qbrg] <;> omega
  have hd : Qf10.drop i = Qf10[i] :: Qf10.drop (i + 1):=List.drop_eq_getElem_cons hlt
  have hx : Qf10.getD (i : Int).toNat (Qw6i.C.dflt .str) = Qf10[i]:=by simp [hlt]
  have hin : inb (i : Int) Qf10.length = true:=by simp only [inb,Bool.and_eq_true,decide_eq_true_eq]; omega
  have hlo : decide ((i : Int) < (Qf10.length : Int)) = true:=decide_eq_true (by omega)
  have htk:=List.take_succ_eq_append_getElem hlt
  have hl : (Qf10.take (i + 1)).getLast? = some Qf10[i]:=by rw [List.take_succ_eq_append_getElem hlt,List.getLast?_concat]
  have hg : Qf10.getD i [] = Qf10[i]:=by simp [hlt]
  obtain ⟨x1,x2⟩:=Q5va (n:=side) hbs (Q8s4 (q:=q) (by omega) (by omega)) hs.1
  obtain ⟨y1,y2⟩:=Q5va (n:=side) hbs (Q8s4 (q:=q + 1) (by omega) (by omega)) hs.1
  rw [hlo,hin,hx]
  simp only [Qd8q]
  have hl6 : ps.length ≤ 6:=by have:=hp.2.1; omega
  have hin:=Q1qw bs ks ps side (pickV bs q side) (pickV bs (q + 1) side) (q + 1 + 1) q0 i (by omega) hl6 (ih (i + 1) ps (q + 1 + 1) (by omega) hp.next hps (by omega) (by omega))
   (fun hf=>ih (i + 1) _ (q + 1 + 1) (by omega) (hp.add (by omega) ⟨x1,by omega⟩ ⟨y1,by omega⟩ hf) (by simp) (by omega) (by omega)) ps.length 0 (by omega)
  rw [hg] at hin
  exact SatE.need (Q8s4 (by omega) (by omega)) (SatE.need (Q8s4 (by omega) (by omega)) (SatE.cut hin))
theorem Qo3a (bs : List Int) (ks : List Kind) (side q0 : Int) (hbs : Qf9o bs = true) (hs : 1 ≤ side ∧ side ≤ 16) (h0 : 0 ≤ q0) (h1 : q0 ≤ 950000) :
  CutE Qw6i Qwua 7 [.ptr 0 0,.ptr 1 0,.ptr 2 0,.sl .str Qf10,.int .i64 side,.int .i64 0] [.box [.sl .u8 bs,.int .i64 q0],.box [.nils,.nils],.box [.own 3 [] 0,.nils],.row .kind ks 0 0 0 .no] (fun v h=>∃ (z : List Point) (r : Int),v = .agg [.sl .kind ks,.sl .point z] ∧ h = [.box [.sl .u8 bs,.int .i64 r]] ∧ PI z 6 ∧ 1 ≤ z.length ∧ q0 ≤ r ∧ r ≤ q0 + 12):=by
 obtain ⟨x1,x2⟩:=Q5va (n:=side) hbs (Q8s4 (q:=q0) (by omega) (by omega)) hs.1
 obtain ⟨y1,y2⟩:=Q5va (n:=side) hbs (Q8s4 (q:=q0 + 1) (by omega) (by omega)) hs.1
 have hp0 : PI [] 0:=⟨rfl,Nat.le_refl _,fun _ _ _ _=>rfl⟩
 have hk:=Qvv4 bs ks side q0 hbs hs h0 h1 5 1 [⟨Qf10.getD 0 [],pickV bs q0 side,pickV bs (q0 + 1) side⟩] (q0 + 1 + 1) (by omega) (hp0.add (by omega) ⟨x1,by omega⟩ ⟨y1,by omega⟩ rfl) (by simp) (by omega) (by omega)
 refine CutE.of Qo8w rfl (Qmss Qf10 side 0 bs q0 ks) ?_
 rw [show decide ((0 : Int) < (Qf10.length : Int)) = true from rfl,show inb (0 : Int) Qf10.length = true from rfl,Q8s4 (q:=q0) (by omega) (by omega),Q8s4 (q:=q0 + 1) (by omega) (by omega)]
 simp only [Qd8q]
 refine SatE.cut ?_
 exact CutE.of Qo8w rfl (Qu0y Qf10 side 0 true 0 bs (q0 + 1 + 1) ks (Qf10.getD 0 []) _ _) (SatE.cut hk)
theorem Qf5l {n : Int} (h : 0 ≤ n ∧ n < 3) : inb n [(6 : Int),6,16].length = true ∧ 1 ≤ [(6 : Int),6,16].getD n.toNat 0 ∧ [(6 : Int),6,16].getD n.toNat 0 ≤ 16:=by
 have : n = 0 ∨ n = 1 ∨ n = 2:=by omega
 rcases this with rfl | rfl | rfl <;> decide
theorem Qis8 {a b : Int} (ha : 0 ≤ a ∧ a < 3) (hb : 0 ≤ b ∧ b < 2) : Qh9e none [⟨[97,49],1,IntKind.i64.wrap (1 + a)⟩,⟨[104,101,97,118,121],IntKind.i64.wrap (2 + b),5⟩] = true:=by
 rw [Qbrg (by omega) (by omega),Qbrg (by omega) (by omega)]
 simp only [Qh9e,Kind.ok,Bool.and_eq_true,decide_eq_true_eq,Qe7t]
 refine ⟨⟨by decide,by omega,by omega,by omega⟩,trivial,⟨by decide,by omega,by omega,by omega⟩,by decide,trivial⟩
theorem Qodo {a b c : Int} (ha : 0 ≤ a ∧ a < 3) (hb : 0 ≤ b ∧ b < 2) (hc : 0 ≤ c ∧ c < 50) : Qh9e none [⟨[97,49],1,IntKind.i64.wrap (1 + a)⟩,⟨[104,101,97,118,121],IntKind.i64.wrap (2 + b),5⟩,⟨[115,108,111,119],IntKind.i64.wrap (1 + c),50⟩] = true:=by
 rw [Qbrg (by omega) (by omega),Qbrg (by omega) (by omega),Qbrg (by omega) (by omega)]
 simp only [Qh9e,Kind.ok,Bool.and_eq_true,decide_eq_true_eq,Qe7t]
 refine ⟨⟨by decide,by omega,by omega,by omega⟩,trivial,⟨by decide,by omega,by omega,by omega⟩,by decide,⟨by decide,by omega,by omega,by omega⟩,by decide,trivial⟩
theorem Q46n (bs : List Int) (p : Int) (hg : rdK bs p = true) : Qewq Tryz.prog CP Qwua [.ptr 0 0] [.box [.sl .u8 bs,.int .i64 p]] (.agg [.sl .kind (dBase bs p).ks,.sl .point (dBase bs p).ps]) [.box [.sl .u8 bs,.int .i64 (dBase bs p).p]] ∧ Qn40 p (dBase bs p):=by
 have hg0:=hg
 simp only [rdK,Bool.and_eq_true,decide_eq_true_eq] at hg
 obtain ⟨hbs,h0,h1⟩:=hg
 have pk : ∀ (q n : Int),p ≤ q → q ≤ p + 10 → 1 ≤ n → 0 ≤ pickV bs q n ∧ pickV bs q n < n:=fun q n h2 h3 h4=>Q5va hbs (Q8s4 (by omega) (by omega)) h4
 have fin : ∀ (ks : List Kind) (q : Int) (n : Int),Qh9e none ks = true → 1 ≤ ks.length → ks.length ≤ 6 → p ≤ q → q ≤ p + 8 → 0 ≤ n ∧ n < 3 → SatE Qw6i Qwua (fun v h=>∃ x : BaseP,v = .agg [.sl .kind x.ks,.sl .point x.ps] ∧ h = [.box [.sl .u8 bs,.int .i64 x.p]] ∧ Qn40 p x)
   (some (.go (Qu6t Qw6i.fn 7) [.ptr 0 0,.ptr 1 0,.ptr 2 0,.sl .str Qf10,.int .i64 ([(6 : Int),6,16].getD n.toNat 0),.int .i64 0] [.box [.sl .u8 bs,.int .i64 q],.box [.nils,.nils],.box [.own 3 [] 0,.nils],.row .kind ks 0 0 0 .no])):=fun ks q n hk hk1 hk2 hq1 hq2 hn=>by
  refine SatE.mono (SatE.cut (Qo3a bs ks _ q hbs (Qf5l hn).2 (by omega) (by omega))) ?_
  rintro v h ⟨z,r,rfl,rfl,hz,hz1,hr1,hr2⟩
  refine ⟨⟨ks,z,r⟩,rfl,rfl, ?_,hk1,hz1, ?_, ?_⟩
  ·simp only [Qib4,hk,hz.1,Bool.and_true,Bool.and_eq_true,decide_eq_true_eq]
   exact ⟨hk2,by have:=hz.2.1; omega⟩
  ·show p ≤ r; omega
  ·show r ≤ p + 20; omega
 have hE : CallE Qw6i.P Qw6i.C Qwua [.ptr 0 0] [.box [.sl .u8 bs,.int .i64 p]] (fun v h=>∃ x : BaseP,v = .agg [.sl .kind x.ks,.sl .point x.ps] ∧ h = [.box [.sl .u8 bs,.int .i64 x.p]] ∧ Qn40 p x):=by
  refine CallE.of Qo8w (by kernel_rfl) (Qaoa bs p) ?_
  refine SatE.need (Q8s4 (by omega) (by omega)) (SatE.need (Q8s4 (by omega) (by omega)) (SatE.need (Q8s4 (by omega) (by omega)) (SatE.ifb (fun _=>?_) (fun _=>?_))))
  ·have hn:=pk (p + 1 + 1 + 1 + 1) 3 (by omega) (by omega) (by omega)
   refine SatE.need (Q8s4 (by omega) (by omega)) (SatE.need (Q8s4 (by omega) (by omega)) (SatE.need (Qf5l hn).1 ?_))
   exact fin _ _ _ (Qodo (pk p 3 (by omega) (by omega) (by omega)) (pk (p + 1) 2 (by omega) (by omega) (by omega)) (pk (p + 1 + 1 + 1) 50 (by omega) (by omega) (by omega))) (by simp) (by simp) (by omega) (by omega) hn
  ·have hn:=pk (p + 1 + 1 + 1) 3 (by omega) (by omega) (by omega)
   refine SatE.need (Q8s4 (by omega) (by omega)) (SatE.need (Qf5l hn).1 ?_)
   exact fin _ _ _ (Qis8 (pk p 3 (by omega) (by omega) (by omega)) (pk (p + 1) 2 (by omega) (by omega) (by omega))) (by simp) (by simp) (by omega) (by omega) hn
 obtain ⟨v,H',h,x,rfl,rfl,hx⟩:=hE
 exact Qk78 (p:=fun x : BaseP=>Qewq Tryz.prog CP Qwua [.ptr 0 0] [.box [.sl .u8 bs,.int .i64 p]] (.agg [.sl .kind x.ks,.sl .point x.ps]) [.box [.sl .u8 bs,.int .i64 x.p]] ∧ Qn40 p x) ⟨x,h,hx⟩
theorem Qupo (bs : List Int) (p : Int) (hg : rdK bs p = true) : Qewq Tryz.prog CP Qwua [.ptr 0 0] [.box [.sl .u8 bs,.int .i64 p]] (.agg [.sl .kind (dBase bs p).ks,.sl .point (dBase bs p).ps]) [.box [.sl .u8 bs,.int .i64 (dBase bs p).p]]:=by
 exact (Q46n bs p hg).1
theorem Ql5k : EntOK Tryz.prog CP Qwua Qu46:=by
 refine ⟨⟨Tryz.f89,by kernel_rfl,by kernel_rfl,by kernel_rfl⟩,fun args H res H' h=>?_⟩
 simp only [Qu46] at h
 split at h
 ·simp only [Option.some.injEq,Prod.mk.injEq] at h
  obtain ⟨hg,rfl,rfl⟩:=h
  exact Qupo _ _ hg
 ·cases h
end Lx
namespace Lx
open Go Go.Proofs
theorem Q315 : ∀ {ks : List Kind} {prev : Option Str},Qh9e prev ks = true → ∀ k ∈ ks,k.ok = true
 | [],_,_,k,hk=>by simp at hk
 | a :: ks,prev,h,k,hk=>by
  rw [Qh9e] at h
  simp only [Bool.and_eq_true] at h
  simp only [List.mem_cons] at hk
  rcases hk with rfl | hk
  ·exact h.1
  ·exact Q315 h.2.2 k hk
theorem Q2zs {ks : List Kind} {ps : List Point} (h : Qib4 ks ps = true) : ¬ 0 ≤ Qh2z ks []:=by
 intro h0
 rcases Qur7 (fun k : Kind=>k.name == ([] : Str)) (dfltP .kind) ks with ⟨h1,_⟩ | ⟨_,h2⟩
 ·have : Qh2z ks [] = idxF (fun k : Kind=>k.name == ([] : Str)) ks:=rfl
  omega
 ·have hm:=List.mem_of_find?_eq_some h2
  have hn:=List.find?_some h2
  simp only [Qib4,Bool.and_eq_true] at h
  have hk:=Q315 h.2.2.1 _ hm
  simp only [Kind.ok,Q2rq,Bool.and_eq_true,decide_eq_true_eq] at hk
  have:=eq_of_beq hn
  rw [this] at hk
  simp at hk
theorem Qi3r {ks : List Kind} {ps : List Point} (hb : Qib4 ks ps = true) {w : Int} (hw : w = 1 ∨ w = 2 ∨ w = 3 ∨ w = 4) : fitsV ks ps w [] = false:=by
 rcases hw with rfl | rfl | rfl | rfl
 ·show decide (0 ≤ Qh2z ks []) = false
  exact decide_eq_false (Q2zs hb)
 ·rfl
 ·rfl
 ·rfl
theorem Q00y {ks : List Kind} {ps : List Point} {es : List Entry} {n : Str} (hb : Qn0o ks ps es = true) (h0 : 0 ≤ entIx es n) : ∃ e,e = es.getD (entIx es n).toNat (dfltP .entry) ∧ e ∈ es ∧ Q7i7 ks ps e = true ∧ e.name = n ∧
  (∀ w,((fldF es n w).getD fld0).value = valF e.fields w) ∧ ∀ w,w = 1 ∨ w = 2 ∨ w = 3 ∨ w = 4 → (fldF es n w).isSome = !decide (valF e.fields w = []):=by
 obtain ⟨hbase,_,hall⟩:=Qg6k hb
 have hm:=Qhwx h0
 rcases Qur7 (fun e : Entry=>e.name == n) (dfltP .entry) es with ⟨h1,_⟩ | ⟨_,h2⟩
 ·have : entIx es n = idxF (fun k : Entry=>k.name == n) es:=rfl
  omega
 ·have hfl : ∀ w,fldF es n w = (es.getD (entIx es n).toNat (dfltP .entry)).fields.find? (fun f=>f.what == w):=fun w=>by rw [fldF,h2]; rfl
  have hnm:=List.find?_some h2
  have hnm' : ((es.getD (entIx es n).toNat (dfltP .entry)).name == n) = true:=hnm
  refine ⟨_,rfl,hm,hall _ hm,eq_of_beq hnm',fun w=>?_,fun w hw=>?_⟩
  ·rw [hfl,valF]
   cases (es.getD (entIx es n).toNat (dfltP .entry)).fields.find? (fun f=>f.what == w) <;> rfl
  ·rw [hfl]
   cases hf : (es.getD (entIx es n).toNat (dfltP .entry)).fields.find? (fun f=>f.what == w) with
   | none =>
    have : valF (es.getD (entIx es n).toNat (dfltP .entry)).fields w = []:=by unfold valF; rw [hf]
    rw [decide_eq_true this]; rfl
   | some f =>
    have hv : valF (es.getD (entIx es n).toNat (dfltP .entry)).fields w = f.value:=by unfold valF; rw [hf]
    have hok:=hall _ hm
    simp only [Q7i7,Bool.and_eq_true] at hok
    have hfit:=Qx66 hok.2.2 f (List.mem_of_find?_eq_some hf)
    have hwf : f.what = w:=by simpa using List.find?_some hf
    have : ¬ valF (es.getD (entIx es n).toNat (dfltP .entry)).fields w = []:=fun e=>by
     rw [hv] at e
     rw [hwf,e,Qi3r hbase hw] at hfit
     cases hfit
    rw [decide_eq_false this]; rfl
theorem Qf80 {es : List Entry} {n : Str} (h0 : ¬ 0 ≤ entIx es n) (w : Int) : fldF es n w = none:=by
 rcases Qur7 (fun e : Entry=>e.name == n) (dfltP .entry) es with ⟨_,h2⟩ | ⟨h1,_⟩
 ·rw [fldF,h2]; rfl
 ·exact absurd h1 h0
theorem Qfsp {w : List Str} (h : Q2es w = true) : w.all decB = true ∧ decsV w = [numF (w.getD 0 []),numF (w.getD 1 [])]:=by
 match w with
 | []=>cases h
 | [a]=>cases h
 | [a,b] =>
  simp only [Q2es,inR,Bool.and_eq_true,decide_eq_true_eq] at h
  have ha : decB a = true:=decide_eq_true h.1
  have hb : decB b = true:=decide_eq_true (by omega)
  have hall : [a,b].all decB = true:=by simp [ha,hb]
  refine ⟨hall, ?_⟩
  unfold decsV
  rw [if_pos hall]
  have e1 : decV a = numF a:=by unfold decV; omega
  have e2 : decV b = numF b:=by unfold decV; omega
  show [decV a,decV b] = [numF a,numF b]
  rw [e1,e2]
 | a :: b :: c :: t=>cases h

def getV (es : List Entry) (n : Str) (w : Int) : V:=.tup [.str ((fldF es n w).getD fld0).value,.bool (fldF es n w).isSome]
def Q7l7 : Ent Ty El:=⟨[.ro,.ro,.ro],0,fun a h=>match a,h with
 | [.int .i64 w,.rop [.sl .kind ks,.sl .point ps,.sl .entry es] 0,.rop [.str n] 0],[]=>some (decide (es.length < 1000000000) && es.all szE,getV es n w,[])
 | _,_=>none⟩
def Qnor : Ent Ty El:=⟨[.ro,.ro],0,fun a h=>match a,h with
 | [.agg [.sl .kind ks,.sl .point ps,.sl .entry es],.str n],[]=>some (szB es && Qn0o ks ps es,flV (stB ks ps es n),[])
 | _,_=>none⟩
end Lx
namespace Lx
open Go Go.Proofs
noncomputable def Qyd8 : RE Ty El:=⟨Tryz.prog,CP,[(Qbgv,Qai8)],Tryz.f166,0,[],[]⟩
theorem Q7cf : REOK Qyd8 Qncv:=⟨CP_ok,(TabOK.cons Qkkz Qye1),by kernel_rfl,by kernel_rfl⟩
theorem Q1ld (ks : List Kind) (ps : List Point) (es : List Entry) (n : Str) (w : Int) : aRun Qyd8 600 false (body0 Qyd8.fn) (Q4gm Qyd8.fn [.int .i64 w,.rop [.sl .kind ks,.sl .point ps,.sl .entry es] 0,.rop [.str n] 0] []) =
 ifb (decide (es.length < (1000000000 : Nat)) && es.all szE) (some (.ret (.tup [.str (((fldF es n w).getD fld0).value),.bool ((fldF es n w).isSome)]) [])) (none):=by kernel_rfl
theorem Qmg8 (ks : List Kind) (ps : List Point) (es : List Entry) (n : Str) (w : Int) (hg : (decide (es.length < 1000000000) && es.all szE) = true) : Qewq Tryz.prog CP Qncv [.int .i64 w,.rop [.sl .kind ks,.sl .point ps,.sl .entry es] 0,.rop [.str n] 0] [] (getV es n w) []:=by
 refine Qewq.of Q7cf (by kernel_rfl) (Q1ld ks ps es n w) ?_
 rw [hg]
 exact Sat.ret rfl rfl
theorem Qmdi : EntOK Tryz.prog CP Qncv Q7l7:=by
 refine ⟨⟨Tryz.f166,by kernel_rfl,by kernel_rfl,by kernel_rfl⟩,fun args H res H' h=>?_⟩
 simp only [Q7l7] at h
 split at h
 ·simp only [Option.some.injEq,Prod.mk.injEq] at h
  obtain ⟨hg,rfl,rfl⟩:=h
  exact Qmg8 _ _ _ _ _ hg
 ·cases h

noncomputable def Qpzl : RE Ty El:=⟨Tryz.prog,CP,[(Qncv,Q7l7),(Qryc,Q123),(Q0gt,Qroy),(Q8l1,Q18u),(Q5ff,Qo07)],Tryz.f84,0,[.agg [.any,.any,.any,.any,.any,.any,.any,.ro .str],.any],[]⟩
theorem Quxw : REOK Qpzl Qcq6:=⟨CP_ok,(TabOK.cons Qmdi (TabOK.cons Qne7 (TabOK.cons Q6fz (TabOK.cons Qbi7 (TabOK.cons Q8iz Qye1))))),by kernel_rfl,by kernel_rfl⟩
theorem Qmgo (ks : List Kind) (ps : List Point) (es : List Entry) (n : Str) : aRun Qpzl 600 false (body0 Qpzl.fn) (Q4gm Qpzl.fn [.agg [.sl .kind ks,.sl .point ps,.sl .entry es],.str n] []) =
 ifb (decide (es.length < (1000000000 : Nat)) && es.all szE) (ifb (decide (es.length < (1000000000 : Nat)) && es.all szE) (ifb (decide (es.length < (1000000000 : Nat)) && es.all szE) (ifb (decide (es.length < (1000000000 : Nat)) && es.all szE) (ifb (decide (es.length < (1000000000 : Nat)) && es.all szE) (ifb (!(fldF es n (1 : Int)).isSome) (some (.ret (.tup [.agg [.str #[].toList,.str #[].toList,.int .i64 (0 : Int),.int .i64 (0 : Int),.int .i64 (0 : Int),.int .i64 (0 : Int),.int .i64 (0 : Int),.sl .str []],.bool false]) [])) (ifb (!(fldF es n (2 : Int)).isSome) (some (.ret (.tup [.agg [.str #[].toList,.str #[].toList,.int .i64 (0 : Int),.int .i64 (0 : Int),.int .i64 (0 : Int),.int .i64 (0 : Int),.int .i64 (0 : Int),.sl .str []],.bool false]) [])) (ifb (!(fldF es n (3 : Int)).isSome) (some (.ret (.tup [.agg [.str #[].toList,.str #[].toList,.int .i64 (0 : Int),.int .i64 (0 : Int),.int .i64 (0 : Int),.int .i64 (0 : Int),.int .i64 (0 : Int),.sl .str []],.bool false]) [])) (ifb (!(fldF es n (4 : Int)).isSome) (some (.ret (.tup [.agg [.str #[].toList,.str #[].toList,.int .i64 (0 : Int),.int .i64 (0 : Int),.int .i64 (0 : Int),.int .i64 (0 : Int),.int .i64 (0 : Int),.sl .str []],.bool false]) [])) (ifb (((fldF es n (5 : Int)).getD fld0).value == #[(99 : UInt8),(108 : UInt8),(111 : UInt8),(115 : UInt8),(101 : UInt8),(100 : UInt8)].toList) (some (.ret (.tup [.agg [.str #[].toList,.str #[].toList,.int .i64 (0 : Int),.int .i64 (0 : Int),.int .i64 (0 : Int),.int .i64 (0 : Int),.int .i64 (0 : Int),.sl .str []],.bool false]) [])) (ifb (szS ((fldF es n (2 : Int)).getD fld0).value) (ifb (decide ((7 : Int) = (7 : Int)) && decide ((cutS (↑(UInt8.toNat (32 : UInt8)) : Int) ((fldF es n (2 : Int)).getD fld0).value).length ≤ (2000000000 : Nat))) (ifb (decide (ks.length < (1000000000 : Nat))) (ifb (inb (idxF (fun p=>p.name == ((fldF es n (1 : Int)).getD fld0).value) ks) ks.length) (ifb (inb (0 : Int) (decsV (cutS (↑(UInt8.toNat (32 : UInt8)) : Int) ((fldF es n (2 : Int)).getD fld0).value)).length) (ifb (inb (1 : Int) (decsV (cutS (↑(UInt8.toNat (32 : UInt8)) : Int) ((fldF es n (2 : Int)).getD fld0).value)).length) (ifb (szS ((fldF es n (4 : Int)).getD fld0).value) (some (.ret (.tup [.agg [.str n,.str ((ks.getD (idxF (fun p=>p.name == ((fldF es n (1 : Int)).getD fld0).value) ks).toNat (Qpzl.C.dflt Ty.kind)).name),.int .i64 ((ks.getD (idxF (fun p=>p.name == ((fldF es n (1 : Int)).getD fld0).value) ks).toNat (Qpzl.C.dflt Ty.kind)).quick),.int .i64 ((ks.getD (idxF (fun p=>p.name == ((fldF es n (1 : Int)).getD fld0).value) ks).toNat (Qpzl.C.dflt Ty.kind)).slow),.int .i64 ((decsV (cutS (↑(UInt8.toNat (32 : UInt8)) : Int) ((fldF es n (2 : Int)).getD fld0).value)).getD (Int.toNat (0 : Int)) (Qpzl.C.dflt Ty.int)),.int .i64 ((decsV (cutS (↑(UInt8.toNat (32 : UInt8)) : Int) ((fldF es n (2 : Int)).getD fld0).value)).getD (Int.toNat (1 : Int)) (Qpzl.C.dflt Ty.int)),.int .i64 (decV ((fldF es n (3 : Int)).getD fld0).value),.sl .str (cutS (↑(UInt8.toNat (32 : UInt8)) : Int) ((fldF es n (4 : Int)).getD fld0).value)],.bool true]) [])) (none)) (none)) (none)) (none)) (none)) (none)) (none))))))) (none)) (none)) (none)) (none)) (none):=by kernel_rfl
theorem Qpgc (ks : List Kind) (ps : List Point) (es : List Entry) (n : Str) (hg : (szB es && Qn0o ks ps es) = true) : Qewq Tryz.prog CP Qcq6 [.agg [.sl .kind ks,.sl .point ps,.sl .entry es],.str n] [] (flV (stB ks ps es n)) []:=by
 refine Qewq.of Quxw (by kernel_rfl) (Qmgo ks ps es n) ?_
 simp only [Bool.and_eq_true] at hg
 obtain ⟨hz,hb⟩:=hg
 have hz' : es.length ≤ 1000000000 ∧ es.all szE = true:=by simpa only [szB,Bool.and_eq_true,decide_eq_true_eq] using hz
 obtain ⟨hbase,h12,hall⟩:=Qg6k hb
 have hg1 : (decide (es.length < 1000000000) && es.all szE) = true:=by rw [decide_eq_true (by omega),hz'.2]; rfl
 have no : stB ks ps es n = none → Sat Qpzl Qcq6 (flV (stB ks ps es n)) [] (some (.ret (.tup [.agg [.str #[].toList,.str #[].toList,.int .i64 (0 : Int),.int .i64 (0 : Int),.int .i64 (0 : Int),.int .i64 (0 : Int),.int .i64 (0 : Int),.sl .str []],.bool false]) [])):=fun h=>by
  rw [h]; exact Sat.ret rfl rfl
 rw [hg1]
 simp only [Qd8q]
 by_cases h0 : 0 ≤ entIx es n
 ·obtain ⟨e,he,hm,hok,hn,hv,hs⟩:=Q00y hb h0
  have hst : stB ks ps es n = stE ks e:=by rw [stB,if_pos ⟨hb,h0⟩,he]
  have s1:=hs 1 (by omega)
  by_cases n1 : valF e.fields 1 = []
  ·rw [s1,decide_eq_true n1]
   exact no (by rw [hst,stE,if_pos (by simp [n1])])
  rw [s1,decide_eq_false n1,Bool.not_false,Bool.not_true,Qk7y]
  have s2:=hs 2 (by omega)
  by_cases n2 : valF e.fields 2 = []
  ·rw [s2,decide_eq_true n2]
   exact no (by rw [hst,stE,if_pos (by simp [n2])])
  rw [s2,decide_eq_false n2,Bool.not_false,Bool.not_true,Qk7y]
  have s3:=hs 3 (by omega)
  by_cases n3 : valF e.fields 3 = []
  ·rw [s3,decide_eq_true n3]
   exact no (by rw [hst,stE,if_pos (by simp [n3])])
  rw [s3,decide_eq_false n3,Bool.not_false,Bool.not_true,Qk7y]
  have s4:=hs 4 (by omega)
  by_cases n4 : valF e.fields 4 = []
  ·rw [s4,decide_eq_true n4]
   exact no (by rw [hst,stE,if_pos (by simp [n4])])
  rw [s4,decide_eq_false n4,Bool.not_false,Bool.not_true,Qk7y]
  rw [hv,hv,hv,hv,hv]
  have hst2 : stE ks e = if valF e.fields 5 = Qupw then none else some ⟨e.name,ks.getD (Qh2z ks (valF e.fields 1)).toNat (dfltP .kind),numF ((cutS 32 (valF e.fields 2)).getD 0 []),numF ((cutS 32 (valF e.fields 2)).getD 1 []),numF (valF e.fields 3),cutS 32 (valF e.fields 4)⟩:=by
   rw [stE,if_neg (by simp [n1,n2,n3,n4])]
  by_cases hc : valF e.fields 5 = Qupw
  ·have : (valF e.fields 5 == Qupw) = true:=by rw [hc]; simp
   have e5 : (valF e.fields 5 == [(99 : UInt8),108,111,115,101,100]) = true:=this
   rw [e5]
   exact no (by rw [hst,hst2,if_pos hc])
  ·have e5 : (valF e.fields 5 == [(99 : UInt8),108,111,115,101,100]) = false:=beq_eq_false_iff_ne.2 hc
   have hze:=List.all_eq_true.1 hz'.2 e hm
   have z2 : szS (valF e.fields 2) = true:=decide_eq_true (Q46g hze 2)
   have z4 : szS (valF e.fields 4) = true:=decide_eq_true (Q46g hze 4)
   have k1:=Qus2 (fits1 (Q256 hok n1))
   have ht:=fits2 (Q256 hok n2)
   obtain ⟨hall2,hdec⟩:=Qfsp ht
   have hlen:=Qtox 32 (valF e.fields 2)
   have hl2:=Q46g hze 2
   have hlev : decV (valF e.fields 3) = numF (valF e.fields 3):=by
    have h3:=Q256 hok n3
    have h3' : inR (numF (valF e.fields 3)) 1 6 = true:=by simpa [fitsV] using h3
    simp only [inR,Bool.and_eq_true,decide_eq_true_eq] at h3'
    unfold decV; omega
   have hkx : idxF (fun p=>p.name == valF e.fields 1) ks = Qh2z ks (valF e.fields 1):=rfl
   have e32 : ((UInt8.toNat 32 : Nat) : Int) = 32:=rfl
   have hk6:=(Qrzz hbase).1
   rw [e5,z2,z4,e32,hdec,hkx,k1,hlev,decide_eq_true (by omega : ks.length < 1000000000),decide_eq_true (by omega : (cutS 32 (valF e.fields 2)).length ≤ 2000000000)]
   refine Sat.ret ?_ rfl
   rw [hst,hst2,if_neg hc,hn]
   rfl
 ·rw [Qf80 h0]
  exact no (by rw [stB,if_neg (fun h=>h0 h.2)])
theorem Qyj8 : EntOK Tryz.prog CP Qcq6 Qnor:=by
 refine ⟨⟨Tryz.f84,by kernel_rfl,by kernel_rfl,by kernel_rfl⟩,fun args H res H' h=>?_⟩
 simp only [Qnor] at h
 split at h
 ·simp only [Option.some.injEq,Prod.mk.injEq] at h
  obtain ⟨hg,rfl,rfl⟩:=h
  exact Qpgc _ _ _ _ hg
 ·cases h

noncomputable def Qnhd : RE Ty El:=⟨Tryz.prog,CP,[(Qaev,Qjv4),(Qcq6,Qnor)],Tryz.f20,0,[.agg [.any,.any,.any,.any,.any,.any,.any,.ro .str],.any],[]⟩
theorem Q6ir : REOK Qnhd Q4t8:=⟨CP_ok,(TabOK.cons Qwza (TabOK.cons Qyj8 Qye1)),by kernel_rfl,by kernel_rfl⟩
theorem Qkjs (ks : List Kind) (ps : List Point) (es : List Entry) (n : Str) : aRun Qnhd 600 false (body0 Qnhd.fn) (Q4gm Qnhd.fn [.agg [.sl .kind ks,.sl .point ps,.sl .entry es],.str n] []) =
 ifb (szB es) (ifb (!Qn0o ks ps es) (some (.ret (.tup [.agg [.str #[].toList,.str #[].toList,.int .i64 (0 : Int),.int .i64 (0 : Int),.int .i64 (0 : Int),.int .i64 (0 : Int),.int .i64 (0 : Int),.sl .str []],.bool false]) [])) (ifb (szB es && Qn0o ks ps es) (some (.ret (.tup [.agg [.str (((stB ks ps es n).getD fl0).name),.str (((stB ks ps es n).getD fl0).kind.name),.int .i64 (((stB ks ps es n).getD fl0).kind.quick),.int .i64 (((stB ks ps es n).getD fl0).kind.slow),.int .i64 (((stB ks ps es n).getD fl0).frm),.int .i64 (((stB ks ps es n).getD fl0).by_),.int .i64 (((stB ks ps es n).getD fl0).level),.sl .str (((stB ks ps es n).getD fl0).route)],.bool ((stB ks ps es n).isSome)]) [])) (none))) (none):=by kernel_rfl
theorem Qwwl (ks : List Kind) (ps : List Point) (es : List Entry) (n : Str) (hg : (szB es && decide (es.length < 1000000000)) = true) : Qewq Tryz.prog CP Q4t8 [.agg [.sl .kind ks,.sl .point ps,.sl .entry es],.str n] [] (flV (stB ks ps es n)) []:=by
 refine Qewq.of Q6ir (by kernel_rfl) (Qkjs ks ps es n) ?_
 simp only [Bool.and_eq_true] at hg
 rw [hg.1]
 cases hb : Qn0o ks ps es with
 | false =>
  refine Sat.ret ?_ rfl
  rw [stB,hb]; rfl
 | true=>exact Sat.ret rfl rfl
theorem Qcwe : EntOK Tryz.prog CP Q4t8 Qxe2:=by
 refine ⟨⟨Tryz.f20,by kernel_rfl,by kernel_rfl,by kernel_rfl⟩,fun args H res H' h=>?_⟩
 simp only [Qxe2,Q4sg] at h
 split at h
 ·simp only [Option.some.injEq,Prod.mk.injEq] at h
  obtain ⟨hg,rfl,rfl⟩:=h
  exact Qwwl _ _ _ _ hg
 ·cases h
end Lx
namespace Lx
open Go Go.Proofs
def Qlxz (c : Cell) : Bool:=(decide (0 ≤ c.x) && decide (c.x ≤ 100)) && (decide (0 ≤ c.y) && decide (c.y ≤ 100))
def legN (a b : Cell) : Nat:=max (a.x - b.x).natAbs (a.y - b.y).natAbs
def legAt (a b : Cell) (k : Nat) : Cell:=if legN a b = 0 then a else ⟨a.x + partF (b.x - a.x) k (legN a b),a.y + partF (b.y - a.y) k (legN a b)⟩
def legF (a b : Cell) : List Cell:=(List.range (legN a b + 1)).map (legAt a b)
def Qdow (a b : Cell) : Bool:=decide (b.x < a.x) || (b.x == a.x && decide (b.y < a.y))
def Qppc (a b : Cell) : List Cell:=if Qdow a b then (legF b a).reverse else legF a b
end Lx
namespace Lx
open Go Go.Proofs
end Lx
namespace Lx
open Go Go.Proofs
theorem Qjpf {d k n : Int} (hn : 0 < n) {M : Nat} (h : (2 * k * d + n).natAbs ≤ M) : (partF d k n).natAbs ≤ M + 1:=by
 have hfl:=Qvfe (x:=2 * k * d + n) (y:=2 * n) (by omega)
 have hpf : partF d k n = (2 * k * d + n) / (2 * n):=rfl
 rw [← hpf] at hfl
 have q1 : ((2 * k * d + n).tdiv (2 * n)).natAbs ≤ (2 * k * d + n).natAbs:=Int.natAbs_tdiv_le_natAbs _ _
 rw [hfl]
 split <;> omega
theorem Qrkr {d n : Int} (hn : 0 < n) : partF d 0 n = 0:=by
 have : partF d 0 n = n / (2 * n):=by simp [partF]
 rw [this]
 exact Int.ediv_eq_zero_of_lt (by omega) (by omega)
theorem Qse4 (a b : Cell) : legAt a b 0 = a:=by
 unfold legAt
 split
 ·rfl
 ·rename_i h
  have hn : (0 : Int) < (legN a b : Int):=by omega
  have e1:=Qrkr (d:=b.x - a.x) hn
  have e2:=Qrkr (d:=b.y - a.y) hn
  have : ((0 : Nat) : Int) = 0:=rfl
  rw [this,e1,e2]
  simp
theorem Q1tq {a b : Cell} (ha : Qlxz a = true) (hb : Qlxz b = true) : legN a b ≤ 100:=by
 simp only [Qlxz,Bool.and_eq_true,decide_eq_true_eq] at ha hb
 unfold legN
 omega
end Lx
namespace Lx
open Go Go.Proofs
end Lx
namespace Lx
open Go Go.Proofs
end Lx
namespace Lx
open Go Go.Proofs
def Qg2m (ps : List Point) (n : Str) : Cell:=⟨(ptOf ps n).x,(ptOf ps n).y⟩
def tailC (ps : List Point) (w : List Str) (i : Nat) : List Cell:=(Qppc (Qg2m ps (w.getD i [])) (Qg2m ps (w.getD (i + 1) []))).drop 1
def Qya3 (ps : List Point) (w : List Str) (m : Nat) : List Cell:=Qg2m ps (w.getD 0 []) :: (List.range m).flatMap (tailC ps w)
def Qqfy (ks : List Kind) (ps : List Point) (w : List Str) : Option (List Cell) :=
 if Qib4 ks ps = true ∧ Qyhl ps w = true ∧ (Qya3 ps w (w.length - 1)).length ≤ 40 then some (Qya3 ps w (w.length - 1)) else none
def Qkcc (o : Option (List Cell)) : V:=.tup [.sl .cell (o.getD []),.bool o.isSome]
theorem Q3tn {ps : List Point} : ∀ {w : List Str} {prev : Option Str},Qyf3 ps prev w = true → ∀ n ∈ w,0 ≤ Qigq ps n
 | [],_,_,n,hn=>by simp at hn
 | a :: w,prev,h,n,hn=>by
  rw [Qyf3] at h
  simp only [Bool.and_eq_true,Bool.not_eq_true',decide_eq_false_iff_not] at h
  simp only [List.mem_cons] at hn
  rcases hn with rfl | hn
  ·omega
  ·exact Q3tn h.2.2 n hn
theorem Quu2 {ps : List Point} {w : List Str} (h : Qyhl ps w = true) : 2 ≤ w.length ∧ w.length ≤ 8 ∧ ∀ n ∈ w,0 ≤ Qigq ps n:=by
 simp only [Qyhl,inR,Bool.and_eq_true,decide_eq_true_eq] at h
 exact ⟨by omega,by omega,Q3tn h.2⟩
theorem Q1nj : ∀ {ps seen : List Point} {prev : Option Str},Qaym seen prev ps = true → ∀ p ∈ ps,p.ok = true
 | [],_,_,_,p,hp=>by simp at hp
 | a :: ps,seen,prev,h,p,hp=>by
  rw [Qaym] at h
  simp only [Bool.and_eq_true] at h
  simp only [List.mem_cons] at hp
  rcases hp with rfl | hp
  ·exact h.1
  ·exact Q1nj h.2.2.2 p hp
theorem Qgjr {ks : List Kind} {ps : List Point} (hb : Qib4 ks ps = true) {n : Str} (h0 : 0 ≤ Qigq ps n) : Qlxz (Qg2m ps n) = true:=by
 have h2:=Q1mf (p:=fun q : Point=>q.name == n) (l:=ps)
 have h3 : Qigq ps n = idxF (fun q : Point=>q.name == n) ps:=rfl
 have hlt : (Qigq ps n).toNat < ps.length:=by omega
 have hm : ptOf ps n ∈ ps:=by
  unfold ptOf
  rw [List.getD_eq_getElem?_getD,List.getElem?_eq_getElem hlt]
  exact List.getElem_mem hlt
 simp only [Qib4,Bool.and_eq_true] at hb
 have:=Q1nj hb.2.2.2 _ hm
 simp only [Point.ok,inR,Bool.and_eq_true,decide_eq_true_eq] at this
 have hx : (Qg2m ps n).x = (ptOf ps n).x:=rfl
 have hy : (Qg2m ps n).y = (ptOf ps n).y:=rfl
 simp only [Qlxz,hx,hy,Bool.and_eq_true,decide_eq_true_eq]
 obtain ⟨_,⟨h5,h6⟩,h7,h8⟩:=this
 exact ⟨⟨h5,by omega⟩,h7,by omega⟩
theorem Qek1 {a b : Cell} : (Qppc a b).length = legN a b + 1:=by
 unfold Qppc
 split
 ·rw [List.length_reverse,legF,List.length_map,List.length_range]
  unfold legN; omega
 ·rw [legF,List.length_map,List.length_range]
theorem Q0oy (ps : List Point) (w : List Str) (m : Nat) : Qya3 ps w (m + 1) = Qya3 ps w m ++ tailC ps w m:=by
 simp [Qya3,List.range_succ]
def Q49v : Ent Ty El:=⟨[.ro,.ro],0,fun a h=>match a,h with
 | [.agg [.sl .kind ks,.sl .point ps],.sl .str w],[]=>some (decide (ps.length < 1000000000),Qkcc (Qqfy ks ps w),[])
 | _,_=>none⟩
def Qp5x : Ent Ty El:=Q49v
end Lx
namespace Lx
open Go Go.Proofs
structure TxP where
 s : Str
 p : Int
 deriving Inhabited
def Qr3b (p : Int) (x : TxP) : Prop:=x.s.length ≤ 200 ∧ p ≤ x.p ∧ x.p ≤ p + 20
noncomputable def dVal (bs : List Int) (p : Int) (ks : List Kind) (ps : List Point) (w : Int) : TxP:=drawn (fun x=>Qewq Tryz.prog CP Qwqy [.ptr 0 0,.agg [.sl .kind ks,.sl .point ps],.int .i64 w] [.box [.sl .u8 bs,.int .i64 p]] (.str x.s) [.box [.sl .u8 bs,.int .i64 x.p]] ∧ Qr3b p x)
def Qeqt (ps : List Point) : Bool:=ps.all fun z=>decide (z.name.length ≤ 8)
def valK (bs : List Int) (p : Int) (ks : List Kind) (ps : List Point) : Bool:=rdK bs p && (decide (ps.length ≤ 100) && (Qeqt ps && decide (1 ≤ ps.length)))
noncomputable def Q0t5 : Ent Ty El:=⟨[.io,.ro,.ro],0,fun a h=>match a,h with
 | [.ptr 0 0,.agg [.sl .kind ks,.sl .point ps],.int .i64 w],[.box [.sl .u8 bs,.int .i64 p]]=>some (valK bs p ks ps,.str (dVal bs p ks ps w).s,[.box [.sl .u8 bs,.int .i64 (dVal bs p ks ps w).p]])
 | _,_=>none⟩
theorem Qgo3 {bs : List Int} {p : Int} {l : List Str} {M : Nat} (h : l.all (fun s=>decide (s.length ≤ M)) = true) : (ofV bs p l).length ≤ M:=by
 unfold ofV
 rw [List.getD_eq_getElem?_getD]
 cases hi : l[(pickV bs p (l.length : Int)).toNat]? with
 | none=>simp
 | some s=>simpa using List.all_eq_true.1 h s (List.mem_of_getElem? hi)
theorem decs {n : Int} (h : 0 ≤ n) (h1 : n ≤ 99999) : (decide (0 ≤ n) && decide (n < 10 ^ (4 + 1))) = true ∧ (dDec 4 n).length ≤ 5:=by
 have hg : (decide (0 ≤ n) && decide (n < 10 ^ (4 + 1))) = true:=by simp only [Bool.and_eq_true,decide_eq_true_eq]; omega
 exact ⟨hg,(Qbt7 n hg).2⟩
theorem Q5k5 {ks : List Kind} {ps : List Point} (h : Qib4 ks ps = true) : ps.length ≤ 16 ∧ ∀ z ∈ ps,z.name.length ≤ 8:=by
 simp only [Qib4,Bool.and_eq_true,decide_eq_true_eq] at h
 refine ⟨h.2.1,fun z hz=>?_⟩
 have:=Q1nj h.2.2.2 z hz
 simp only [Point.ok,Q2rq,Bool.and_eq_true,decide_eq_true_eq] at this
 exact this.1.2.1
theorem Qd1y {ks : List Kind} {ps : List Point} (h : Qib4 ks ps = true) : ps.length ≤ 100 ∧ Qeqt ps = true:=by
 obtain ⟨h1,h2⟩:=Q5k5 h
 exact ⟨by omega,List.all_eq_true.2 fun z hz=>decide_eq_true (h2 z hz)⟩
theorem named {ps : List Point} (h : Qeqt ps = true) : ∀ z ∈ ps,z.name.length ≤ 8:=fun z hz=>of_decide_eq_true (List.all_eq_true.1 h z hz)
theorem Qosi {ps : List Point} (h : Qeqt ps = true) (i : Nat) {z : Point} (hz : z.name.length ≤ 8) : Qeqt (ps.set i z) = true:=List.all_eq_true.2 fun x hx=>by
 rcases List.mem_or_eq_of_mem_set hx with hx | rfl
 ·exact List.all_eq_true.1 h x hx
 ·exact decide_eq_true hz
theorem Qv4q {ps : List Point} (h : Qeqt ps = true) {z : Point} (hz : z.name.length ≤ 8) : Qeqt (ps ++ [z]) = true:=by
 unfold Qeqt at *
 rw [List.all_append,h]; simpa using hz
theorem Qwum {ps : List Point} (h : Qeqt ps = true) (i : Nat) (d : Point) (hd : d.name.length ≤ 8) : (ps.getD i d).name.length ≤ 8:=by
 rw [List.getD_eq_getElem?_getD]
 cases hi : ps[i]? with
 | none=>simpa using hd
 | some x=>exact named h x (List.mem_of_getElem? hi)
end Lx
namespace Lx
open Go Go.Proofs
noncomputable def Qttc : RE Ty El:=⟨Tryz.prog,CP,[(Qpxs,Q7v2),(Qchm,Q2vb),(Qstj,Qmce)],Tryz.f118,1,[],[(20,[(0,.any),(4,.any),(9,.any),(10,.any),(11,.any)])]⟩
theorem Qyl0 : REOK Qttc Qwqy:=⟨CP_ok,(TabOK.cons Q0e7 (TabOK.cons Qyvd (TabOK.cons Qqii Qye1))),by kernel_rfl,by kernel_rfl⟩
theorem Q12p (bs : List Int) (p : Int) (ks : List Kind) (ps : List Point) (w : Int) : aRun Qttc 600 false (body0 Qttc.fn) (Q4gm Qttc.fn [.ptr 0 0,.agg [.sl .kind ks,.sl .point ps],.int .i64 w] [.box [.sl .u8 bs,.int .i64 p]]) =
 ifb (w == (1 : Int)) (ifb (rdOk bs p && decide ((0 : Nat) < [#[(97 : UInt8),(49 : UInt8)].toList, #[(104 : UInt8),(101 : UInt8),(97 : UInt8),(118 : UInt8),(121 : UInt8)].toList, #[(97 : UInt8),(49 : UInt8)].toList, #[(104 : UInt8),(101 : UInt8),(97 : UInt8),(118 : UInt8),(121 : UInt8)].toList, #[(115 : UInt8),(108 : UInt8),(111 : UInt8),(119 : UInt8)].toList].length)) (some (.ret (.str (ofV bs p [#[(97 : UInt8),(49 : UInt8)].toList, #[(104 : UInt8),(101 : UInt8),(97 : UInt8),(118 : UInt8),(121 : UInt8)].toList, #[(97 : UInt8),(49 : UInt8)].toList, #[(104 : UInt8),(101 : UInt8),(97 : UInt8),(118 : UInt8),(121 : UInt8)].toList, #[(115 : UInt8),(108 : UInt8),(111 : UInt8),(119 : UInt8)].toList])) [.box [.sl .u8 bs,.int .i64 (p + (1 : Int))]])) (none)) (ifb (w == (2 : Int)) (ifb (posOk p) (ifb (posOk (p + (1 : Int))) (ifb (pickV bs (p + (1 : Int)) (16 : Int) == (0 : Int)) (ifb (posOk (p + (1 : Int) + (1 : Int))) (ifb (posOk (p + (1 : Int) + (1 : Int) + (1 : Int))) (ifb (decide (IntKind.i64.wrap (IntKind.i64.wrap ((10000 : Int) - pickV bs (p + (1 : Int) + (1 : Int)) (80 : Int)) + pickV bs (p + (1 : Int) + (1 : Int) + (1 : Int)) (20 : Int)) > (10000 : Int))) (ifb (decide ((0 : Int) ≤ IntKind.i64.wrap ((10000 : Int) - pickV bs (p + (1 : Int) + (1 : Int)) (80 : Int))) && decide (IntKind.i64.wrap ((10000 : Int) - pickV bs (p + (1 : Int) + (1 : Int)) (80 : Int)) < (10 : Int) ^ ((4 : Nat) + (1 : Nat)))) (ifb (decide (List.length (dDec (4 : Nat) (IntKind.i64.wrap ((10000 : Int) - pickV bs (p + (1 : Int) + (1 : Int)) (80 : Int)))) + #[(32 : UInt8)].toList.length ≤ (9223372036854775807 : Nat))) (ifb (decide ((dDec (4 : Nat) (IntKind.i64.wrap ((10000 : Int) - pickV bs (p + (1 : Int) + (1 : Int)) (80 : Int))) ++ #[(32 : UInt8)].toList).length + List.length (dDec (4 : Nat) (10000 : Int)) ≤ (9223372036854775807 : Nat))) (some (.ret (.str (dDec (4 : Nat) (IntKind.i64.wrap ((10000 : Int) - pickV bs (p + (1 : Int) + (1 : Int)) (80 : Int))) ++ #[(32 : UInt8)].toList ++ dDec (4 : Nat) (10000 : Int))) [.box [.sl .u8 bs,.int .i64 (p + (1 : Int) + (1 : Int) + (1 : Int) + (1 : Int))]])) (none)) (none)) (none)) (ifb (decide ((0 : Int) ≤ IntKind.i64.wrap ((10000 : Int) - pickV bs (p + (1 : Int) + (1 : Int)) (80 : Int))) && decide (IntKind.i64.wrap ((10000 : Int) - pickV bs (p + (1 : Int) + (1 : Int)) (80 : Int)) < (10 : Int) ^ ((4 : Nat) + (1 : Nat)))) (ifb (decide (List.length (dDec (4 : Nat) (IntKind.i64.wrap ((10000 : Int) - pickV bs (p + (1 : Int) + (1 : Int)) (80 : Int)))) + #[(32 : UInt8)].toList.length ≤ (9223372036854775807 : Nat))) (ifb (decide ((0 : Int) ≤ IntKind.i64.wrap (IntKind.i64.wrap ((10000 : Int) - pickV bs (p + (1 : Int) + (1 : Int)) (80 : Int)) + pickV bs (p + (1 : Int) + (1 : Int) + (1 : Int)) (20 : Int))) && decide (IntKind.i64.wrap (IntKind.i64.wrap ((10000 : Int) - pickV bs (p + (1 : Int) + (1 : Int)) (80 : Int)) + pickV bs (p + (1 : Int) + (1 : Int) + (1 : Int)) (20 : Int)) < (10 : Int) ^ ((4 : Nat) + (1 : Nat)))) (ifb (decide ((dDec (4 : Nat) (IntKind.i64.wrap ((10000 : Int) - pickV bs (p + (1 : Int) + (1 : Int)) (80 : Int))) ++ #[(32 : UInt8)].toList).length + List.length (dDec (4 : Nat) (IntKind.i64.wrap (IntKind.i64.wrap ((10000 : Int) - pickV bs (p + (1 : Int) + (1 : Int)) (80 : Int)) + pickV bs (p + (1 : Int) + (1 : Int) + (1 : Int)) (20 : Int)))) ≤ (9223372036854775807 : Nat))) (some (.ret (.str (dDec (4 : Nat) (IntKind.i64.wrap ((10000 : Int) - pickV bs (p + (1 : Int) + (1 : Int)) (80 : Int))) ++ #[(32 : UInt8)].toList ++ dDec (4 : Nat) (IntKind.i64.wrap (IntKind.i64.wrap ((10000 : Int) - pickV bs (p + (1 : Int) + (1 : Int)) (80 : Int)) + pickV bs (p + (1 : Int) + (1 : Int) + (1 : Int)) (20 : Int))))) [.box [.sl .u8 bs,.int .i64 (p + (1 : Int) + (1 : Int) + (1 : Int) + (1 : Int))]])) (none)) (none)) (none)) (none))) (none)) (none)) (ifb (posOk (p + (1 : Int) + (1 : Int))) (ifb (decide (IntKind.i64.wrap (pickV bs p (200 : Int) + pickV bs (p + (1 : Int) + (1 : Int)) (20 : Int)) > (10000 : Int))) (ifb (decide ((0 : Int) ≤ pickV bs p (200 : Int)) && decide (pickV bs p (200 : Int) < (10 : Int) ^ ((4 : Nat) + (1 : Nat)))) (ifb (decide (List.length (dDec (4 : Nat) (pickV bs p (200 : Int))) + #[(32 : UInt8)].toList.length ≤ (9223372036854775807 : Nat))) (ifb (decide ((dDec (4 : Nat) (pickV bs p (200 : Int)) ++ #[(32 : UInt8)].toList).length + List.length (dDec (4 : Nat) (10000 : Int)) ≤ (9223372036854775807 : Nat))) (some (.ret (.str (dDec (4 : Nat) (pickV bs p (200 : Int)) ++ #[(32 : UInt8)].toList ++ dDec (4 : Nat) (10000 : Int))) [.box [.sl .u8 bs,.int .i64 (p + (1 : Int) + (1 : Int) + (1 : Int))]])) (none)) (none)) (none)) (ifb (decide ((0 : Int) ≤ pickV bs p (200 : Int)) && decide (pickV bs p (200 : Int) < (10 : Int) ^ ((4 : Nat) + (1 : Nat)))) (ifb (decide (List.length (dDec (4 : Nat) (pickV bs p (200 : Int))) + #[(32 : UInt8)].toList.length ≤ (9223372036854775807 : Nat))) (ifb (decide ((0 : Int) ≤ IntKind.i64.wrap (pickV bs p (200 : Int) + pickV bs (p + (1 : Int) + (1 : Int)) (20 : Int))) && decide (IntKind.i64.wrap (pickV bs p (200 : Int) + pickV bs (p + (1 : Int) + (1 : Int)) (20 : Int)) < (10 : Int) ^ ((4 : Nat) + (1 : Nat)))) (ifb (decide ((dDec (4 : Nat) (pickV bs p (200 : Int)) ++ #[(32 : UInt8)].toList).length + List.length (dDec (4 : Nat) (IntKind.i64.wrap (pickV bs p (200 : Int) + pickV bs (p + (1 : Int) + (1 : Int)) (20 : Int)))) ≤ (9223372036854775807 : Nat))) (some (.ret (.str (dDec (4 : Nat) (pickV bs p (200 : Int)) ++ #[(32 : UInt8)].toList ++ dDec (4 : Nat) (IntKind.i64.wrap (pickV bs p (200 : Int) + pickV bs (p + (1 : Int) + (1 : Int)) (20 : Int))))) [.box [.sl .u8 bs,.int .i64 (p + (1 : Int) + (1 : Int) + (1 : Int))]])) (none)) (none)) (none)) (none))) (none))) (none)) (none)) (ifb (w == (3 : Int)) (ifb (posOk p) (ifb (decide ((0 : Int) ≤ IntKind.i64.wrap ((1 : Int) + pickV bs p (6 : Int))) && decide (IntKind.i64.wrap ((1 : Int) + pickV bs p (6 : Int)) < (10 : Int) ^ ((4 : Nat) + (1 : Nat)))) (some (.ret (.str (dDec (4 : Nat) (IntKind.i64.wrap ((1 : Int) + pickV bs p (6 : Int))))) [.box [.sl .u8 bs,.int .i64 (p + (1 : Int))]])) (none)) (none)) (ifb (w == (4 : Int)) (ifb (posOk p) (ifb (inb (pickV bs p (↑ps.length : Int)) ps.length) (ifb (posOk (p + (1 : Int))) (ifb (posOk (p + (1 : Int) + (1 : Int))) (ifb (pickV bs (p + (1 : Int) + (1 : Int)) (8 : Int) == (0 : Int)) (some (.go (Qu6t Qttc.fn 20) [.ptr 0 0,.ptr 1 0,.str ((ps.getD (pickV bs p (↑ps.length : Int)).toNat (Qttc.C.dflt Ty.point)).name),.str ((ps.getD (pickV bs p (↑ps.length : Int)).toNat (Qttc.C.dflt Ty.point)).name),.int .i64 (7 : Int)] [.box [.sl .u8 bs,.int .i64 (p + (1 : Int) + (1 : Int) + (1 : Int))],.box [.sl .kind ks,.sl .point ps]])) (some (.go (Qu6t Qttc.fn 20) [.ptr 0 0,.ptr 1 0,.str ((ps.getD (pickV bs p (↑ps.length : Int)).toNat (Qttc.C.dflt Ty.point)).name),.str ((ps.getD (pickV bs p (↑ps.length : Int)).toNat (Qttc.C.dflt Ty.point)).name),.int .i64 (IntKind.i64.wrap ((1 : Int) + pickV bs (p + (1 : Int)) (4 : Int)))] [.box [.sl .u8 bs,.int .i64 (p + (1 : Int) + (1 : Int) + (1 : Int))],.box [.sl .kind ks,.sl .point ps]]))) (none)) (none)) (none)) (none)) (ifb (rdOk bs p && decide ((0 : Nat) < [#[(111 : UInt8),(112 : UInt8),(101 : UInt8),(110 : UInt8)].toList, #[(99 : UInt8),(108 : UInt8),(111 : UInt8),(115 : UInt8),(101 : UInt8),(100 : UInt8)].toList].length)) (some (.ret (.str (ofV bs p [#[(111 : UInt8),(112 : UInt8),(101 : UInt8),(110 : UInt8)].toList, #[(99 : UInt8),(108 : UInt8),(111 : UInt8),(115 : UInt8),(101 : UInt8),(100 : UInt8)].toList])) [.box [.sl .u8 bs,.int .i64 (p + (1 : Int))]])) (none))))):=by kernel_rfl
theorem Q0ny (x0 : Str) (x1 : Str) (x2 : Int) (x3 : List (El .u8)) (x4 : Int) (x5 : List (El .kind)) (x6 : List (El .point)) : aRun Qttc 600 true (Qu6t Qttc.fn 20) (cutSt Qttc.fn (Q1m4 Qttc (Qu6t Qttc.fn 20)) [.ptr 0 0,.ptr 1 0,.str x0,.str x1,.int .i64 x2] [.box [.sl .u8 x3,.int .i64 x4],.box [.sl .kind x5,.sl .point x6]]) =
 ifb (decide (x2 > (0 : Int))) (ifb (posOk x4) (ifb (inb (pickV x3 x4 (↑x6.length : Int)) x6.length) (ifb (!(x6.getD (pickV x3 x4 (↑x6.length : Int)).toNat (Qttc.C.dflt Ty.point)).name == x1) (ifb (decide (List.length x0 + #[(32 : UInt8)].toList.length ≤ (9223372036854775807 : Nat))) (ifb (decide ((x0 ++ #[(32 : UInt8)].toList).length + List.length (x6.getD (pickV x3 x4 (↑x6.length : Int)).toNat (Qttc.C.dflt Ty.point)).name ≤ (9223372036854775807 : Nat))) (some (.go (Qu6t Qttc.fn 20) [.ptr 0 0,.ptr 1 0,.str (x0 ++ #[(32 : UInt8)].toList ++ (x6.getD (pickV x3 x4 (↑x6.length : Int)).toNat (Qttc.C.dflt Ty.point)).name),.str ((x6.getD (pickV x3 x4 (↑x6.length : Int)).toNat (Qttc.C.dflt Ty.point)).name),.int .i64 (IntKind.i64.wrap (x2 - (1 : Int)))] [.box [.sl .u8 x3,.int .i64 (x4 + (1 : Int))],.box [.sl .kind x5,.sl .point x6]])) (none)) (none)) (some (.go (Qu6t Qttc.fn 20) [.ptr 0 0,.ptr 1 0,.str x0,.str x1,.int .i64 (IntKind.i64.wrap (x2 - (1 : Int)))] [.box [.sl .u8 x3,.int .i64 (x4 + (1 : Int))],.box [.sl .kind x5,.sl .point x6]]))) (none)) (none)) (some (.ret (.str x0) [.box [.sl .u8 x3,.int .i64 x4]])):=by kernel_rfl
theorem Qb5x {bs : List Int} {p q : Int} {s : Str} (h1 : s.length ≤ 200) (h2 : p ≤ q) (h3 : q ≤ p + 20) : ∃ x : TxP,(AV.str s : AV Ty El) = .str x.s ∧ ([.box [.sl .u8 bs,.int .i64 q]] : List (AObj Ty El)) = [.box [.sl .u8 bs,.int .i64 x.p]] ∧ Qr3b p x:=⟨⟨s,q⟩,rfl,rfl,h1,h2,h3⟩
theorem Q3yw (bs : List Int) (ks : List Kind) (ps : List Point) (hbs : Qf9o bs = true) (hps : ∀ z ∈ ps,z.name.length ≤ 8) (h1 : 1 ≤ ps.length) (h16 : ps.length ≤ 100) : ∀ (d : Nat) (x0 x1 : Str) (q : Int),0 ≤ q → q + d ≤ 950000 → d ≤ 10 → x0.length + 9 * d ≤ 1000 →
  CutE Qttc Qwqy 20 [.ptr 0 0,.ptr 1 0,.str x0,.str x1,.int .i64 (d : Int)] [.box [.sl .u8 bs,.int .i64 q],.box [.sl .kind ks,.sl .point ps]] (fun v h=>∃ x : TxP,v = .str x.s ∧ h = [.box [.sl .u8 bs,.int .i64 x.p]] ∧ x.s.length ≤ x0.length + 9 * d ∧ q ≤ x.p ∧ x.p ≤ q + d):=by
 intro d
 induction d with
 | zero =>
  intro x0 x1 q h0 hq hd hx
  refine CutE.of Qyl0 rfl (Q0ny x0 x1 (0 : Nat) bs q ks ps) ?_
  exact SatE.ret ⟨⟨x0,q⟩,rfl,rfl,by simp,by simp,by simp⟩
 | succ d ih =>
  intro x0 x1 q h0 hq hd hx
  refine CutE.of Qyl0 rfl (Q0ny x0 x1 ((d + 1 : Nat) : Int) bs q ks ps) ?_
  obtain ⟨a1,a2⟩:=Q5va (p:=q) (n:=(ps.length : Int)) hbs (Q8s4 (by omega) (by omega)) (by omega)
  have hi : inb (pickV bs q (ps.length : Int)) ps.length = true:=by simp only [inb,Bool.and_eq_true,decide_eq_true_eq]; exact ⟨a1,a2⟩
  have hw : IntKind.i64.wrap (((d + 1 : Nat) : Int) - 1) = (d : Int):=by rw [Qbrg] <;> omega
  have hn : (ps.getD (pickV bs q (ps.length : Int)).toNat (Qttc.C.dflt Ty.point)).name.length ≤ 8:=by
   rw [List.getD_eq_getElem?_getD,List.getElem?_eq_getElem (by omega)]
   exact hps _ (List.getElem_mem _)
  rw [show decide (((d + 1 : Nat) : Int) > 0) = true from decide_eq_true (by omega),Q8s4 (q:=q) (by omega) (by omega),hi,hw]
  simp only [Qd8q]
  generalize (ps.getD (pickV bs q (ps.length : Int)).toNat (Qttc.C.dflt Ty.point)).name = nm at hn ⊢
  refine SatE.ifb (fun _=>?_) (fun _=>?_)
  ·refine SatE.need (decide_eq_true (by simp; omega)) (SatE.need (decide_eq_true (by simp; omega)) (SatE.mono (SatE.cut (ih _ _ (q + 1) (by omega) (by omega) (by omega) (by simp; omega))) ?_))
   rintro v h ⟨x,rfl,rfl,b1,b2,b3⟩
   exact ⟨x,rfl,rfl,by simp at b1; omega,by omega,by omega⟩
  ·refine SatE.mono (SatE.cut (ih _ _ (q + 1) (by omega) (by omega) (by omega) (by omega))) ?_
   rintro v h ⟨x,rfl,rfl,b1,b2,b3⟩
   exact ⟨x,rfl,rfl,by omega,by omega,by omega⟩
theorem Qpyo (bs : List Int) (p : Int) (ks : List Kind) (ps : List Point) (w : Int) (hg : valK bs p ks ps = true) : Qewq Tryz.prog CP Qwqy [.ptr 0 0,.agg [.sl .kind ks,.sl .point ps],.int .i64 w] [.box [.sl .u8 bs,.int .i64 p]] (.str (dVal bs p ks ps w).s) [.box [.sl .u8 bs,.int .i64 (dVal bs p ks ps w).p]] ∧ Qr3b p (dVal bs p ks ps w):=by
 simp only [valK,Bool.and_eq_true,decide_eq_true_eq] at hg
 obtain ⟨hr,h16,hn,h1⟩:=hg
 have hps:=named hn
 have hrd:=Qosd (q:=p) hr (by omega) (by omega)
 simp only [rdK,Bool.and_eq_true,decide_eq_true_eq] at hr
 obtain ⟨hbs,h0,h9⟩:=hr
 have ps0 : ∀ (q : Int),p ≤ q → q ≤ p + 10 → posOk q = true:=fun q h2 h3=>Q8s4 (by omega) (by omega)
 have pk : ∀ (q n : Int),p ≤ q → q ≤ p + 10 → 1 ≤ n → 0 ≤ pickV bs q n ∧ pickV bs q n < n:=fun q n h2 h3 h4=>Q5va hbs (ps0 q h2 h3) h4
 have rt : ∀ (q : Int) (x0 x1 : Str) (m : Int),p ≤ q → q ≤ p + 10 → 0 ≤ m → m ≤ 7 → x0.length ≤ 8 → SatE Qttc Qwqy (fun v h=>∃ x : TxP,v = .str x.s ∧ h = [.box [.sl .u8 bs,.int .i64 x.p]] ∧ Qr3b p x) (some (.go (Qu6t Qttc.fn 20) [.ptr 0 0,.ptr 1 0,.str x0,.str x1,.int .i64 m] [.box [.sl .u8 bs,.int .i64 q],.box [.sl .kind ks,.sl .point ps]])):=fun q x0 x1 m h2 h3 h4 h5 h6=>by
  obtain ⟨d,rfl⟩:=Int.eq_ofNat_of_zero_le h4
  refine SatE.mono (SatE.cut (Q3yw bs ks ps hbs hps h1 h16 d x0 x1 q (by omega) (by omega) (by omega) (by omega))) ?_
  rintro v h ⟨x,rfl,rfl,b1,b2,b3⟩
  exact ⟨x,rfl,rfl,by omega,by omega,by omega⟩
 have hE : CallE Qttc.P Qttc.C Qwqy [.ptr 0 0,.agg [.sl .kind ks,.sl .point ps],.int .i64 w] [.box [.sl .u8 bs,.int .i64 p]] (fun v h=>∃ x : TxP,v = .str x.s ∧ h = [.box [.sl .u8 bs,.int .i64 x.p]] ∧ Qr3b p x):=by
  refine CallE.of Qyl0 (by kernel_rfl) (Q12p bs p ks ps w) ?_
  refine SatE.ifb (fun _=>SatE.need (by rw [hrd]; rfl) (SatE.ret (Qb5x (Nat.le_trans (Qgo3 (M:=5) (by rfl)) (by omega)) (by omega) (by omega)))) (fun _=>SatE.ifb (fun _=>?_) (fun _=>SatE.ifb (fun _=>?_) (fun _=>SatE.ifb (fun _=>?_) (fun _=>SatE.need (by rw [hrd]; rfl) (SatE.ret (Qb5x (Nat.le_trans (Qgo3 (M:=6) (by rfl)) (by omega)) (by omega) (by omega)))))))
  ·obtain ⟨a1,a2⟩:=pk p 200 (by omega) (by omega) (by omega)
   obtain ⟨c1,c2⟩:=pk (p + 1 + 1) 80 (by omega) (by omega) (by omega)
   obtain ⟨e1,e2⟩:=pk (p + 1 + 1 + 1) 20 (by omega) (by omega) (by omega)
   obtain ⟨f1,f2⟩:=pk (p + 1 + 1) 20 (by omega) (by omega) (by omega)
   have w1 : IntKind.i64.wrap (10000 - pickV bs (p + 1 + 1) 80) = 10000 - pickV bs (p + 1 + 1) 80:=Qbrg (by omega) (by omega)
   have w2 : IntKind.i64.wrap (10000 - pickV bs (p + 1 + 1) 80 + pickV bs (p + 1 + 1 + 1) 20) = 10000 - pickV bs (p + 1 + 1) 80 + pickV bs (p + 1 + 1 + 1) 20:=Qbrg (by omega) (by omega)
   have w3 : IntKind.i64.wrap (pickV bs p 200 + pickV bs (p + 1 + 1) 20) = pickV bs p 200 + pickV bs (p + 1 + 1) 20:=Qbrg (by omega) (by omega)
   rw [w1,w2,w3]
   obtain ⟨g1,l1⟩:=decs (n:=10000) (by omega) (by omega)
   obtain ⟨g2,l2⟩:=decs (n:=10000 - pickV bs (p + 1 + 1) 80) (by omega) (by omega)
   obtain ⟨g3,l3⟩:=decs (n:=10000 - pickV bs (p + 1 + 1) 80 + pickV bs (p + 1 + 1 + 1) 20) (by omega) (by omega)
   obtain ⟨g4,l4⟩:=decs (n:=pickV bs p 200) (by omega) (by omega)
   obtain ⟨g5,l5⟩:=decs (n:=pickV bs p 200 + pickV bs (p + 1 + 1) 20) (by omega) (by omega)
   refine SatE.need (ps0 _ (by omega) (by omega)) (SatE.need (ps0 _ (by omega) (by omega)) (SatE.ifb (fun _=>?_) (fun _=>?_)))
   ·refine SatE.need (ps0 _ (by omega) (by omega)) (SatE.need (ps0 _ (by omega) (by omega)) (SatE.ifb (fun _=>?_) (fun _=>?_)))
    ·exact SatE.need g2 (SatE.need (decide_eq_true (by simp; omega)) (SatE.need (decide_eq_true (by simp; omega)) (SatE.ret (Qb5x (by simp; omega) (by omega) (by omega)))))
    ·exact SatE.need g2 (SatE.need (decide_eq_true (by simp; omega)) (SatE.need g3 (SatE.need (decide_eq_true (by simp; omega)) (SatE.ret (Qb5x (by simp; omega) (by omega) (by omega))))))
   ·refine SatE.need (ps0 _ (by omega) (by omega)) (SatE.ifb (fun _=>?_) (fun _=>?_))
    ·exact SatE.need g4 (SatE.need (decide_eq_true (by simp; omega)) (SatE.need (decide_eq_true (by simp; omega)) (SatE.ret (Qb5x (by simp; omega) (by omega) (by omega)))))
    ·exact SatE.need g4 (SatE.need (decide_eq_true (by simp; omega)) (SatE.need g5 (SatE.need (decide_eq_true (by simp; omega)) (SatE.ret (Qb5x (by simp; omega) (by omega) (by omega))))))
  ·obtain ⟨a1,a2⟩:=pk p 6 (by omega) (by omega) (by omega)
   have w1 : IntKind.i64.wrap (1 + pickV bs p 6) = 1 + pickV bs p 6:=Qbrg (by omega) (by omega)
   rw [w1]
   obtain ⟨g1,l1⟩:=decs (n:=1 + pickV bs p 6) (by omega) (by omega)
   exact SatE.need (ps0 _ (by omega) (by omega)) (SatE.need g1 (SatE.ret (Qb5x (by omega) (by omega) (by omega))))
  ·obtain ⟨a1,a2⟩:=pk p (ps.length : Int) (by omega) (by omega) (by omega)
   obtain ⟨b1,b2⟩:=pk (p + 1) 4 (by omega) (by omega) (by omega)
   have hi : inb (pickV bs p (ps.length : Int)) ps.length = true:=by simp only [inb,Bool.and_eq_true,decide_eq_true_eq]; exact ⟨a1,a2⟩
   have w1 : IntKind.i64.wrap (1 + pickV bs (p + 1) 4) = 1 + pickV bs (p + 1) 4:=Qbrg (by omega) (by omega)
   rw [w1]
   have hn : (ps.getD (pickV bs p (ps.length : Int)).toNat (Qttc.C.dflt Ty.point)).name.length ≤ 8:=by
    rw [List.getD_eq_getElem?_getD,List.getElem?_eq_getElem (by omega)]
    exact hps _ (List.getElem_mem _)
   refine SatE.need (ps0 _ (by omega) (by omega)) (SatE.need hi (SatE.need (ps0 _ (by omega) (by omega)) (SatE.need (ps0 _ (by omega) (by omega)) (SatE.ifb (fun _=>?_) (fun _=>?_)))))
   ·exact rt _ _ _ _ (by omega) (by omega) (by omega) (by omega) hn
   ·exact rt _ _ _ _ (by omega) (by omega) (by omega) (by omega) hn
 obtain ⟨v,H',h,x,rfl,rfl,hx⟩:=hE
 exact Qk78 (p:=fun x : TxP=>Qewq Tryz.prog CP Qwqy [.ptr 0 0,.agg [.sl .kind ks,.sl .point ps],.int .i64 w] [.box [.sl .u8 bs,.int .i64 p]] (.str x.s) [.box [.sl .u8 bs,.int .i64 x.p]] ∧ Qr3b p x) ⟨x,h,hx⟩
theorem Q95u (bs : List Int) (p : Int) (ks : List Kind) (ps : List Point) (w : Int) (hg : valK bs p ks ps = true) : Qewq Tryz.prog CP Qwqy [.ptr 0 0,.agg [.sl .kind ks,.sl .point ps],.int .i64 w] [.box [.sl .u8 bs,.int .i64 p]] (.str (dVal bs p ks ps w).s) [.box [.sl .u8 bs,.int .i64 (dVal bs p ks ps w).p]]:=by
 exact (Qpyo bs p ks ps w hg).1
theorem Qnck : EntOK Tryz.prog CP Qwqy Q0t5:=by
 refine ⟨⟨Tryz.f118,by kernel_rfl,by kernel_rfl,by kernel_rfl⟩,fun args H res H' h=>?_⟩
 simp only [Q0t5] at h
 split at h
 ·simp only [Option.some.injEq,Prod.mk.injEq] at h
  obtain ⟨hg,rfl,rfl⟩:=h
  exact Q95u _ _ _ _ _ hg
 ·cases h
end Lx
namespace Lx
open Go Go.Proofs
structure ChgP where
 c : Chg
 p : Int
 deriving Inhabited
def Qi1t (p : Int) (x : ChgP) : Prop:=szV x.c.value = true ∧ p ≤ x.p ∧ x.p ≤ p + 30
noncomputable def dChg (bs : List Int) (p : Int) (ks : List Kind) (ps : List Point) : ChgP:=drawn (fun x=>Qewq Tryz.prog CP Qhy2 [.ptr 0 0,.agg [.sl .kind ks,.sl .point ps]] [.box [.sl .u8 bs,.int .i64 p]] (.agg [.str x.c.flight,.int .i64 x.c.what,.int .i64 x.c.number,.str x.c.value]) [.box [.sl .u8 bs,.int .i64 x.p]] ∧ Qi1t p x)
def chgK (bs : List Int) (p : Int) (ks : List Kind) (ps : List Point) : Bool:=Qf9o bs && (decide (0 ≤ p) && (decide (p ≤ 890000) && (decide (ps.length ≤ 100) && (Qeqt ps && decide (1 ≤ ps.length)))))
noncomputable def Qiyn : Ent Ty El:=⟨[.io,.ro],0,fun a h=>match a,h with
 | [.ptr 0 0,.agg [.sl .kind ks,.sl .point ps]],[.box [.sl .u8 bs,.int .i64 p]]=>some (chgK bs p ks ps,.agg [.str (dChg bs p ks ps).c.flight,.int .i64 (dChg bs p ks ps).c.what,.int .i64 (dChg bs p ks ps).c.number,.str (dChg bs p ks ps).c.value],[.box [.sl .u8 bs,.int .i64 (dChg bs p ks ps).p]])
 | _,_=>none⟩
structure ChgsP where
 l : List Chg
 p : Int
 deriving Inhabited
def Q4tv (p : Int) (x : ChgsP) : Prop:=x.l.length ≤ 24 ∧ x.l.all (fun c=>szV c.value) = true ∧ p ≤ x.p ∧ x.p ≤ p + 800
noncomputable def dChgs (bs : List Int) (p : Int) (ks : List Kind) (ps : List Point) (m : Int) : ChgsP:=drawn (fun x=>Qewq Tryz.prog CP Q43w [.ptr 0 0,.agg [.sl .kind ks,.sl .point ps],.int .i64 m] [.box [.sl .u8 bs,.int .i64 p]] (.sl .chg x.l) [.box [.sl .u8 bs,.int .i64 x.p]] ∧ Q4tv p x)
def chgsK (bs : List Int) (p : Int) (ks : List Kind) (ps : List Point) (m : Int) : Bool:=Qf9o bs && (decide (0 ≤ p) && (decide (p ≤ 880000) && (Qib4 ks ps && (decide (1 ≤ ps.length) && (decide (1 ≤ m) && decide (m ≤ 24))))))
noncomputable def Qfl5 : Ent Ty El:=⟨[.io,.ro,.ro],0,fun a h=>match a,h with
 | [.ptr 0 0,.agg [.sl .kind ks,.sl .point ps],.int .i64 m],[.box [.sl .u8 bs,.int .i64 p]]=>some (chgsK bs p ks ps m,.sl .chg (dChgs bs p ks ps m).l,[.box [.sl .u8 bs,.int .i64 (dChgs bs p ks ps m).p]])
 | _,_=>none⟩
end Lx
namespace Lx
open Go Go.Proofs
noncomputable def Qgih : RE Ty El:=⟨Tryz.prog,CP,[(Qpxs,Q7v2),(Qchm,Q2vb),(Qwqy,Q0t5)],Tryz.f90,1,[],[(4,[(0,.any),(3,.any),(4,.any),(5,.any)])]⟩
theorem Qe50 : REOK Qgih Qhy2:=⟨CP_ok,(TabOK.cons Q0e7 (TabOK.cons Qyvd (TabOK.cons Qnck Qye1))),by kernel_rfl,by kernel_rfl⟩
theorem Qhjm (bs : List Int) (p : Int) (ks : List Kind) (ps : List Point) : aRun Qgih 600 false (body0 Qgih.fn) (Q4gm Qgih.fn [.ptr 0 0,.agg [.sl .kind ks,.sl .point ps]] [.box [.sl .u8 bs,.int .i64 p]]) =
 ifb (posOk p) (ifb (IntKind.i64.wrap ((1 : Int) + pickV bs p (5 : Int)) == (5 : Int)) (ifb (posOk (p + (1 : Int))) (ifb (pickV bs (p + (1 : Int)) (2 : Int) == (0 : Int)) (some (.go (Qu6t Qgih.fn 4) [.ptr 0 0,.ptr 1 0,.ptr 2 0,.int .i64 (4 : Int)] [.box [.sl .u8 bs,.int .i64 (p + (1 : Int) + (1 : Int))],.box [.sl .kind ks,.sl .point ps],.box [.str #[].toList,.int .i64 (0 : Int),.int .i64 (0 : Int),.str #[].toList]])) (some (.go (Qu6t Qgih.fn 4) [.ptr 0 0,.ptr 1 0,.ptr 2 0,.int .i64 (IntKind.i64.wrap ((1 : Int) + pickV bs p (5 : Int)))] [.box [.sl .u8 bs,.int .i64 (p + (1 : Int) + (1 : Int))],.box [.sl .kind ks,.sl .point ps],.box [.str #[].toList,.int .i64 (0 : Int),.int .i64 (0 : Int),.str #[].toList]]))) (none)) (some (.go (Qu6t Qgih.fn 4) [.ptr 0 0,.ptr 1 0,.ptr 2 0,.int .i64 (IntKind.i64.wrap ((1 : Int) + pickV bs p (5 : Int)))] [.box [.sl .u8 bs,.int .i64 (p + (1 : Int))],.box [.sl .kind ks,.sl .point ps],.box [.str #[].toList,.int .i64 (0 : Int),.int .i64 (0 : Int),.str #[].toList]]))) (none):=by kernel_rfl
theorem Qczd (x0 : Int) (x1 : List (El .u8)) (x2 : Int) (x3 : List (El .kind)) (x4 : List (El .point)) (x5 : Str) (x6 : Int) (x7 : Int) (x8 : Str) : aRun Qgih 600 true (Qu6t Qgih.fn 4) (cutSt Qgih.fn (Q1m4 Qgih (Qu6t Qgih.fn 4)) [.ptr 0 0,.ptr 1 0,.ptr 2 0,.int .i64 x0] [.box [.sl .u8 x1,.int .i64 x2],.box [.sl .kind x3,.sl .point x4],.box [.str x5,.int .i64 x6,.int .i64 x7,.str x8]]) =
 ifb (rdOk x1 x2 && decide ((0 : Nat) < [#[(107 : UInt8),(108 : UInt8),(49 : UInt8)].toList, #[(107 : UInt8),(108 : UInt8),(49 : UInt8)].toList, #[(107 : UInt8),(108 : UInt8),(49 : UInt8)].toList, #[(98 : UInt8),(97 : UInt8),(45 : UInt8),(50 : UInt8)].toList, #[(98 : UInt8),(97 : UInt8),(45 : UInt8),(50 : UInt8)].toList, #[(108 : UInt8),(104 : UInt8),(51 : UInt8)].toList, #[(120 : UInt8)].toList].length)) (ifb (posOk (x2 + (1 : Int))) (ifb (valK x1 (x2 + (1 : Int) + (1 : Int)) x3 x4) (some (.ret (.agg [.str (ofV x1 x2 [#[(107 : UInt8),(108 : UInt8),(49 : UInt8)].toList, #[(107 : UInt8),(108 : UInt8),(49 : UInt8)].toList, #[(107 : UInt8),(108 : UInt8),(49 : UInt8)].toList, #[(98 : UInt8),(97 : UInt8),(45 : UInt8),(50 : UInt8)].toList, #[(98 : UInt8),(97 : UInt8),(45 : UInt8),(50 : UInt8)].toList, #[(108 : UInt8),(104 : UInt8),(51 : UInt8)].toList, #[(120 : UInt8)].toList]),.int .i64 x0,.int .i64 (IntKind.i64.wrap ((1 : Int) + pickV x1 (x2 + (1 : Int)) (12 : Int))),.str ((dVal x1 (x2 + (1 : Int) + (1 : Int)) x3 x4 x0).s)]) [.box [.sl .u8 x1,.int .i64 ((dVal x1 (x2 + (1 : Int) + (1 : Int)) x3 x4 x0).p)]])) (none)) (none)) (none):=by kernel_rfl
theorem Q7ox {bs : List Int} {p q w n : Int} {f v : Str} (h1 : szV v = true) (h2 : p ≤ q) (h3 : q ≤ p + 30) : ∃ x : ChgP,(AV.agg [.str f,.int .i64 w,.int .i64 n,.str v] : AV Ty El) = .agg [.str x.c.flight,.int .i64 x.c.what,.int .i64 x.c.number,.str x.c.value] ∧ ([.box [.sl .u8 bs,.int .i64 q]] : List (AObj Ty El)) = [.box [.sl .u8 bs,.int .i64 x.p]] ∧ Qi1t p x:=⟨⟨⟨f,w,n,v⟩,q⟩,rfl,rfl,h1,h2,h3⟩
theorem Qnhc (bs : List Int) (p : Int) (ks : List Kind) (ps : List Point) (hg : chgK bs p ks ps = true) : Qewq Tryz.prog CP Qhy2 [.ptr 0 0,.agg [.sl .kind ks,.sl .point ps]] [.box [.sl .u8 bs,.int .i64 p]] (.agg [.str (dChg bs p ks ps).c.flight,.int .i64 (dChg bs p ks ps).c.what,.int .i64 (dChg bs p ks ps).c.number,.str (dChg bs p ks ps).c.value]) [.box [.sl .u8 bs,.int .i64 (dChg bs p ks ps).p]] ∧ Qi1t p (dChg bs p ks ps):=by
 simp only [chgK,Bool.and_eq_true,decide_eq_true_eq] at hg
 obtain ⟨hbs,h0,h9,h16,hn,h1⟩:=hg
 have ps0 : ∀ (q : Int),p ≤ q → q ≤ p + 10 → posOk q = true:=fun q h2 h3=>Q8s4 (by omega) (by omega)
 have rd : ∀ (q : Int) (l : List Str),p ≤ q → q ≤ p + 10 → 0 < l.length → (rdOk bs q && decide (0 < l.length)) = true:=fun q l h2 h3 hl=>by rw [rdOk,hbs,ps0 q h2 h3,decide_eq_true hl]; rfl
 have vl : ∀ (q w : Int),p ≤ q → q ≤ p + 10 → valK bs q ks ps = true ∧ szV (dVal bs q ks ps w).s = true ∧ p ≤ (dVal bs q ks ps w).p ∧ (dVal bs q ks ps w).p ≤ p + 30:=fun q w h2 h3=>by
  have hv : valK bs q ks ps = true:=by simp only [valK,rdK,Bool.and_eq_true,decide_eq_true_eq]; exact ⟨⟨hbs,by omega,by omega⟩,h16,hn,h1⟩
  obtain ⟨a1,a2,a3⟩:=(Qpyo bs q ks ps w hv).2
  exact ⟨hv,decide_eq_true (by omega),by omega,by omega⟩
 have hE : CallE Qgih.P Qgih.C Qhy2 [.ptr 0 0,.agg [.sl .kind ks,.sl .point ps]] [.box [.sl .u8 bs,.int .i64 p]] (fun v h=>∃ x : ChgP,v = .agg [.str x.c.flight,.int .i64 x.c.what,.int .i64 x.c.number,.str x.c.value] ∧ h = [.box [.sl .u8 bs,.int .i64 x.p]] ∧ Qi1t p x):=by
  refine CallE.of Qe50 (by kernel_rfl) (Qhjm bs p ks ps) ?_
  have hc : ∀ (q w : Int),p ≤ q → q ≤ p + 5 → CutE Qgih Qhy2 4 [.ptr 0 0,.ptr 1 0,.ptr 2 0,.int .i64 w] [.box [.sl .u8 bs,.int .i64 q],.box [.sl .kind ks,.sl .point ps],.box [.str [],.int .i64 0,.int .i64 0,.str []]] (fun v h=>∃ x : ChgP,v = .agg [.str x.c.flight,.int .i64 x.c.what,.int .i64 x.c.number,.str x.c.value] ∧ h = [.box [.sl .u8 bs,.int .i64 x.p]] ∧ Qi1t p x):=fun q w h2 h3=>by
   refine CutE.of Qe50 rfl (Qczd w bs q ks ps [] 0 0 []) ?_
   obtain ⟨v1,v2,v3,v4⟩:=vl (q + 1 + 1) w (by omega) (by omega)
   exact SatE.need (rd _ _ (by omega) (by omega) (Nat.zero_lt_succ _)) (SatE.need (ps0 _ (by omega) (by omega)) (SatE.need v1 (SatE.ret (Q7ox v2 v3 v4))))
  refine SatE.need (ps0 _ (by omega) (by omega)) (SatE.ifb (fun _=>SatE.need (ps0 _ (by omega) (by omega)) (SatE.ifb (fun _=>?_) (fun _=>?_))) (fun _=>?_))
  ·exact SatE.cut (hc _ _ (by omega) (by omega))
  ·exact SatE.cut (hc _ _ (by omega) (by omega))
  ·exact SatE.cut (hc _ _ (by omega) (by omega))
 obtain ⟨v,H',h,x,rfl,rfl,hx⟩:=hE
 unfold dChg
 exact Qk78 (p:=fun x : ChgP=>Qewq Tryz.prog CP Qhy2 [.ptr 0 0,.agg [.sl .kind ks,.sl .point ps]] [.box [.sl .u8 bs,.int .i64 p]] (.agg [.str x.c.flight,.int .i64 x.c.what,.int .i64 x.c.number,.str x.c.value]) [.box [.sl .u8 bs,.int .i64 x.p]] ∧ Qi1t p x) ⟨x,h,hx⟩
theorem Q20h (bs : List Int) (p : Int) (ks : List Kind) (ps : List Point) (hg : chgK bs p ks ps = true) : Qewq Tryz.prog CP Qhy2 [.ptr 0 0,.agg [.sl .kind ks,.sl .point ps]] [.box [.sl .u8 bs,.int .i64 p]] (.agg [.str (dChg bs p ks ps).c.flight,.int .i64 (dChg bs p ks ps).c.what,.int .i64 (dChg bs p ks ps).c.number,.str (dChg bs p ks ps).c.value]) [.box [.sl .u8 bs,.int .i64 (dChg bs p ks ps).p]]:=by
 exact (Qnhc bs p ks ps hg).1
theorem Q3dh : EntOK Tryz.prog CP Qhy2 Qiyn:=by
 refine ⟨⟨Tryz.f90,by kernel_rfl,by kernel_rfl,by kernel_rfl⟩,fun args H res H' h=>?_⟩
 simp only [Qiyn] at h
 split at h
 ·simp only [Option.some.injEq,Prod.mk.injEq] at h
  obtain ⟨hg,rfl,rfl⟩:=h
  exact Q20h _ _ _ _ hg
 ·cases h

noncomputable def Q9ws : RE Ty El:=⟨Tryz.prog,CP,[(Qpxs,Q7v2),(Qhy2,Qiyn)],Tryz.f150,1,[.ro .chg],[(3,[(0,.any),(4,.any),(7,.any),(8,.any)])]⟩
theorem Qtkw : REOK Q9ws Q43w:=⟨CP_ok,(TabOK.cons Q0e7 (TabOK.cons Q3dh Qye1)),by kernel_rfl,by kernel_rfl⟩
theorem Qr5u (bs : List Int) (p : Int) (ks : List Kind) (ps : List Point) (m : Int) : aRun Q9ws 600 false (body0 Q9ws.fn) (Q4gm Q9ws.fn [.ptr 0 0,.agg [.sl .kind ks,.sl .point ps],.int .i64 m] [.box [.sl .u8 bs,.int .i64 p]]) =
 ifb (posOk p) (some (.go (Qu6t Q9ws.fn 3) [.ptr 0 0,.ptr 1 0,.own 2 [] 0,.int .i64 (pickV bs p m)] [.box [.sl .u8 bs,.int .i64 (p + (1 : Int))],.box [.sl .kind ks,.sl .point ps],.row .chg [] 0 0 0 .no])) (none):=by kernel_rfl
theorem Qv2y (x0 : Int) (x1 : List (El .u8)) (x2 : Int) (x3 : List (El .kind)) (x4 : List (El .point)) (x5 : List (El .chg)) : aRun Q9ws 600 true (Qu6t Q9ws.fn 3) (cutSt Q9ws.fn (Q1m4 Q9ws (Qu6t Q9ws.fn 3)) [.ptr 0 0,.ptr 1 0,.own 2 [] 0,.int .i64 x0] [.box [.sl .u8 x1,.int .i64 x2],.box [.sl .kind x3,.sl .point x4],.row .chg x5 0 0 0 .no]) =
 ifb (decide (x0 > (0 : Int))) (ifb (chgK x1 x2 x3 x4) (ifb (decide ((x5.length + [(dChg x1 x2 x3 x4).c].length) * Qbhn Q9ws.P (51 : Nat) ≤ (140737488355328 : Nat))) (some (.go (Qu6t Q9ws.fn 3) [.ptr 0 0,.ptr 1 0,.own 2 [] 0,.int .i64 (IntKind.i64.wrap (x0 - (1 : Int)))] [.box [.sl .u8 x1,.int .i64 ((dChg x1 x2 x3 x4).p)],.box [.sl .kind x3,.sl .point x4],.row .chg (x5 ++ [(dChg x1 x2 x3 x4).c]) 0 0 0 .no])) (none)) (none)) (some (.ret (.sl .chg x5) [.box [.sl .u8 x1,.int .i64 x2]])):=by kernel_rfl
theorem Qpkk (bs : List Int) (ks : List Kind) (ps : List Point) (hbs : Qf9o bs = true) (hb : Qib4 ks ps = true) (h1 : 1 ≤ ps.length) : ∀ (d : Nat) (l : List Chg) (q : Int),0 ≤ q → q + 30 * d ≤ 890000 → l.length + d ≤ 24 → l.all (fun c=>szV c.value) = true →
  CutE Q9ws Q43w 3 [.ptr 0 0,.ptr 1 0,.own 2 [] 0,.int .i64 (d : Int)] [.box [.sl .u8 bs,.int .i64 q],.box [.sl .kind ks,.sl .point ps],.row .chg l 0 0 0 .no] (fun v h=>∃ x : ChgsP,v = .sl .chg x.l ∧ h = [.box [.sl .u8 bs,.int .i64 x.p]] ∧ x.l.length ≤ 24 ∧ x.l.all (fun c=>szV c.value) = true ∧ q ≤ x.p ∧ x.p ≤ q + 30 * d):=by
 have hbb : Qbhn Q9ws.P 51 ≤ 256:=of_decide_eq_true (by kernel_rfl)
 intro d
 induction d with
 | zero =>
  intro l q h0 hq hl hz
  refine CutE.of Qtkw rfl (Qv2y (0 : Nat) bs q ks ps l) ?_
  exact SatE.ret ⟨⟨l,q⟩,rfl,rfl,by simpa using hl,hz,by simp,by simp⟩
 | succ d ih =>
  intro l q h0 hq hl hz
  refine CutE.of Qtkw rfl (Qv2y ((d + 1 : Nat) : Int) bs q ks ps l) ?_
  have hw : IntKind.i64.wrap (((d + 1 : Nat) : Int) - 1) = (d : Int):=by rw [Qbrg] <;> omega
  have hc : chgK bs q ks ps = true:=by simp only [chgK,Bool.and_eq_true,decide_eq_true_eq]; exact ⟨hbs,h0,by omega,(Qd1y hb).1,(Qd1y hb).2,h1⟩
  obtain ⟨c1,c2,c3⟩:=(Qnhc bs q ks ps hc).2
  rw [show decide (((d + 1 : Nat) : Int) > 0) = true from decide_eq_true (by omega),hc,hw]
  simp only [Qd8q]
  refine SatE.need (Q1mk hbb (by simp; omega)) (SatE.mono (SatE.cut (ih (l ++ [(dChg bs q ks ps).c]) (dChg bs q ks ps).p (by omega) (by omega) (by simp; omega) (by rw [List.all_append,hz]; simpa using c1))) ?_)
  rintro v h ⟨x,rfl,rfl,a1,a2,a3,a4⟩
  exact ⟨x,rfl,rfl,a1,a2,by omega,by omega⟩
theorem Qbm6 (bs : List Int) (p : Int) (ks : List Kind) (ps : List Point) (m : Int) (hg : chgsK bs p ks ps m = true) : Qewq Tryz.prog CP Q43w [.ptr 0 0,.agg [.sl .kind ks,.sl .point ps],.int .i64 m] [.box [.sl .u8 bs,.int .i64 p]] (.sl .chg (dChgs bs p ks ps m).l) [.box [.sl .u8 bs,.int .i64 (dChgs bs p ks ps m).p]] ∧ Q4tv p (dChgs bs p ks ps m):=by
 simp only [chgsK,Bool.and_eq_true,decide_eq_true_eq] at hg
 obtain ⟨hbs,h0,h9,hb,h1,hm,hm2⟩:=hg
 have hE : CallE Q9ws.P Q9ws.C Q43w [.ptr 0 0,.agg [.sl .kind ks,.sl .point ps],.int .i64 m] [.box [.sl .u8 bs,.int .i64 p]] (fun v h=>∃ x : ChgsP,v = .sl .chg x.l ∧ h = [.box [.sl .u8 bs,.int .i64 x.p]] ∧ Q4tv p x):=by
  refine CallE.of Qtkw (by kernel_rfl) (Qr5u bs p ks ps m) ?_
  obtain ⟨a1,a2⟩:=Q5va (n:=m) hbs (Q8s4 (q:=p) (by omega) (by omega)) hm
  refine SatE.need (Q8s4 (by omega) (by omega)) ?_
  obtain ⟨d,hd⟩:=Int.eq_ofNat_of_zero_le a1
  rw [hd]
  refine SatE.mono (SatE.cut (Qpkk bs ks ps hbs hb h1 d [] (p + 1) (by omega) (by omega) (by simp; omega) rfl)) ?_
  rintro v h ⟨x,rfl,rfl,b1,b2,b3,b4⟩
  exact ⟨x,rfl,rfl,b1,b2,by omega,by omega⟩
 obtain ⟨v,H',h,x,rfl,rfl,hx⟩:=hE
 unfold dChgs
 exact Qk78 (p:=fun x : ChgsP=>Qewq Tryz.prog CP Q43w [.ptr 0 0,.agg [.sl .kind ks,.sl .point ps],.int .i64 m] [.box [.sl .u8 bs,.int .i64 p]] (.sl .chg x.l) [.box [.sl .u8 bs,.int .i64 x.p]] ∧ Q4tv p x) ⟨x,h,hx⟩
theorem Q3xm (bs : List Int) (p : Int) (ks : List Kind) (ps : List Point) (m : Int) (hg : chgsK bs p ks ps m = true) : Qewq Tryz.prog CP Q43w [.ptr 0 0,.agg [.sl .kind ks,.sl .point ps],.int .i64 m] [.box [.sl .u8 bs,.int .i64 p]] (.sl .chg (dChgs bs p ks ps m).l) [.box [.sl .u8 bs,.int .i64 (dChgs bs p ks ps m).p]]:=by
 exact (Qbm6 bs p ks ps m hg).1
theorem Qel0 : EntOK Tryz.prog CP Q43w Qfl5:=by
 refine ⟨⟨Tryz.f150,by kernel_rfl,by kernel_rfl,by kernel_rfl⟩,fun args H res H' h=>?_⟩
 simp only [Qfl5] at h
 split at h
 ·simp only [Option.some.injEq,Prod.mk.injEq] at h
  obtain ⟨hg,rfl,rfl⟩:=h
  exact Q3xm _ _ _ _ _ hg
 ·cases h
end Lx
namespace Lx
open Go Go.Proofs
def Qtv6 (q : Option Int) (w : Int) : Bool:=match q with
 | none=>true
 | some q=>decide (q < w)
theorem Qg5r {ks : List Kind} {ps : List Point} {n : Str} {q : Option Int} {f : Fld} {l : List Fld} : Qt03 ks ps n q (f :: l) = (Qh2h ks ps n f.what f.number f.value && (Qtv6 q f.what && Qt03 ks ps n (some f.what) l)):=by
 cases q <;> rfl
theorem Qiqk {ks : List Kind} {ps : List Point} {n : Str} {f : Fld} (hf : Qh2h ks ps n f.what f.number f.value = true) : ∀ (l : List Fld) (q : Option Int),Qt03 ks ps n q l = true → Qtv6 q f.what = true → Qt03 ks ps n q (Qul0 l f) = true
 | [],q,_,hq=>by simp only [Qul0,Qg5r,hf,hq,Bool.true_and]; rfl
 | g :: r,q,h,hq=>by
  have h0:=h
  simp only [Qg5r,Bool.and_eq_true] at h
  obtain ⟨h1,h2,h3⟩:=h
  unfold Qul0
  split
  ·rename_i hlt
   simp only [Qg5r,h1,h2,Bool.true_and]
   exact Qiqk hf r (some g.what) h3 (decide_eq_true hlt)
  ·split
   ·rename_i hne he
    split
    ·simp only [Qg5r,hf,hq,Bool.true_and]
     rw [← he]; exact h3
    ·exact h0
   ·rename_i hlt hne
    simp only [Qg5r,hf,hq,h1,h3,Bool.true_and,Bool.and_true]
    exact decide_eq_true (by omega)
theorem Quu1 {ks : List Kind} {ps : List Point} {x : Entry} (hx : Q7i7 ks ps x = true) : ∀ (es : List Entry) (i : Nat) (q : Option Str),Qgea ks ps q es = true → (∀ e,es[i]? = some e → x.name = e.name) → Qgea ks ps q (es.set i x) = true
 | [],_,_,_,_=>rfl
 | e :: r,0,q,h,hn=>by
  simp only [Qgea,Bool.and_eq_true] at h
  simp only [List.set_cons_zero,Qgea,Bool.and_eq_true,hn e rfl]
  exact ⟨hx,h.2.1,h.2.2⟩
 | e :: r,i + 1,q,h,hn=>by
  simp only [Qgea,Bool.and_eq_true] at h
  simp only [List.set_cons_succ,Qgea,Bool.and_eq_true]
  exact ⟨h.1,h.2.1,Quu1 hx r i _ h.2.2 (fun e' he'=>hn e' (by simpa using he'))⟩
theorem Qe48 {ks : List Kind} {ps : List Point} {n : Str} {f : Fld} (hx : Q7i7 ks ps ⟨n,[f]⟩ = true) : ∀ (es : List Entry) (q : Option Str),Qgea ks ps q es = true → Qe7t q n = true → (∀ e ∈ es,e.name ≠ n) → Qgea ks ps q (insE es n f) = true
 | [],q,_,hq,_=>by simp only [insE,Qgea,hx,hq,Bool.true_and]
 | e :: r,q,h,hq,hn=>by
  simp only [Qgea,Bool.and_eq_true] at h
  unfold insE
  split
  ·rename_i hlt
   simp only [Qgea,Bool.and_eq_true]
   exact ⟨h.1,h.2.1,Qe48 hx r _ h.2.2 hlt (fun e' he'=>hn e' (List.mem_cons_of_mem _ he'))⟩
  ·rename_i hlt
   simp only [Qgea,Bool.and_eq_true]
   refine ⟨hx,hq,h.1, ?_,h.2.2⟩
   have h1:=le_lt n e.name
   have h2 : Q7zj e.name n = false:=by simpa using hlt
   have h3 : (n == e.name) = false:=by
    have:=hn e (List.mem_cons_self ..)
    simp only [beq_eq_false_iff_ne]; exact fun e'=>this e'.symm
   rw [h2,h3,Bool.or_false] at h1
   exact h1
theorem Q853 {es : List Entry} {n : Str} (h : entIx es n < 0) : ∀ e ∈ es,e.name ≠ n:=by
 intro e he hn
 unfold entIx idxF at h
 split at h
 ·omega
 ·rename_i hf
  have:=List.findIdx?_eq_none_iff.1 hf e he
  simp [hn] at this
theorem Qn0g {es : List Entry} {n : Str} (h : 0 ≤ entIx es n) : ∀ e,es[(entIx es n).toNat]? = some e → e.name = n:=by
 intro e he
 unfold entIx idxF at h he
 split at h
 ·rename_i i hf
  rw [hf] at he
  obtain ⟨hlt,hp,_⟩:=List.findIdx?_eq_some_iff_getElem.1 hf
  simp only [Int.toNat_natCast,List.getElem?_eq_getElem hlt,Option.some.injEq] at he
  subst he
  simpa using hp
 ·omega
theorem Qz8z {ks : List Kind} {ps : List Point} {es : List Entry} {c : Chg} (hb : Qn0o ks ps es = true) (hc : Qs7k ks ps c = true) (hl : ¬ (entIx es c.flight < 0 ∧ 12 ≤ es.length)) : Qn0o ks ps (putF es c.flight ⟨c.what,c.number,c.value⟩) = true:=by
 simp only [Qn0o,Bool.and_eq_true,decide_eq_true_eq] at hb
 obtain ⟨hb0,hb1,hb2⟩:=hb
 simp only [Qs7k,Bool.and_eq_true] at hc
 obtain ⟨c1,c2,_,c3⟩:=hc
 have hcv : Qh2h ks ps c.flight c.what c.number c.value = true:=by simp only [Qh2h,c1,c2,c3,Bool.and_true]
 simp only [Qn0o,Bool.and_eq_true,decide_eq_true_eq]
 refine ⟨hb0, ?_⟩
 by_cases h : 0 ≤ entIx es c.flight
 ·rw [Q5v6 h]
  refine ⟨by rw [List.length_set]; exact hb1, ?_⟩
  have hlt : (entIx es c.flight).toNat < es.length:=by have h2 : entIx es c.flight < (es.length : Int):=Q1mf; omega
  have hat : es[(entIx es c.flight).toNat]? = some (es.getD (entIx es c.flight).toNat (dfltP .entry)):=by rw [List.getD_eq_getElem?_getD,List.getElem?_eq_getElem hlt]; rfl
  have hm:=Qhwx h
  have hn:=Qn0g h _ hat
  have ho:=Qmra es _ hb2 _ hm
  generalize es.getD (entIx es c.flight).toNat (dfltP .entry) = e at *
  refine Quu1 ?_ es _ none hb2 (fun e' he'=>by rw [hat] at he'; simp only [Option.some.injEq] at he'; rw [← he'])
  simp only [Q7i7,Bool.and_eq_true] at ho ⊢
  refine ⟨ho.1, ?_,Qiqk (n:=e.name) (by rw [hn]; exact hcv) _ none ho.2.2 rfl⟩
  cases e.fields with
  | nil=>simp [Qul0]
  | cons g r =>
   unfold Qul0
   split
   ·simp
   ·split
    ·split <;> simp
    ·simp
 ·rw [Qk9v h]
  refine ⟨?_,Qe48 ?_ es none hb2 rfl (Q853 (by omega))⟩
  ·rw [Q7l0]
   have : ¬ 12 ≤ es.length:=fun h12=>hl ⟨by omega,h12⟩
   omega
  ·simp only [Q7i7,Qt03,c1,hcv,Bool.true_and,Bool.and_true]; rfl
theorem Qdgy {ks : List Kind} {ps : List Point} {es : List Entry} {c : Chg} (hb : Qn0o ks ps es = true) : (takeF ks ps es c).ks = ks ∧ (takeF ks ps es c).ps = ps ∧ Qn0o ks ps (takeF ks ps es c).es = true:=by
 unfold takeF
 rw [if_pos hb]
 split
 ·rename_i hc
  split
  ·exact ⟨rfl,rfl,hb⟩
  ·rename_i hl
   exact ⟨rfl,rfl,Qz8z hb hc hl⟩
 ·exact ⟨rfl,rfl,hb⟩
def goodE (ks : List Kind) (ps : List Point) (es : List Entry) : Bool:=Qn0o ks ps es && goodB ks ps es
theorem Qy7k {ks : List Kind} {ps : List Point} {es : List Entry} {c : Chg} (h : goodE ks ps es = true) (hv : szV c.value = true) : (takeF ks ps es c).ks = ks ∧ (takeF ks ps es c).ps = ps ∧ goodE ks ps (takeF ks ps es c).es = true:=by
 simp only [goodE,Bool.and_eq_true] at h ⊢
 obtain ⟨h1,h2,h3⟩:=Qdgy (c:=c) h.1
 have h4:=Qk6a (c:=c) h.2 hv
 rw [h1,h2] at h4
 exact ⟨h1,h2,h3,h4⟩
end Lx
namespace Lx
open Go Go.Proofs
structure TkP where
 es : List Entry
 cs : List Int
 deriving Inhabited
noncomputable def dTk (ks : List Kind) (ps : List Point) (es : List Entry) (l : List Chg) : TkP:=drawn (fun x=>Qewq Tryz.prog CP Qlb4 [.agg [.sl .kind ks,.sl .point ps,.sl .entry es],.sl .chg l] [] (.tup [.agg [.sl .kind ks,.sl .point ps,.sl .entry x.es],.sl .int x.cs]) [] ∧ goodE ks ps x.es = true)
def tkK (ks : List Kind) (ps : List Point) (es : List Entry) (l : List Chg) : Bool:=goodE ks ps es && (decide (l.length ≤ 1000) && l.all (fun c=>szV c.value))
noncomputable def Q2m7 : Ent Ty El:=⟨[.ro,.ro],0,fun a h=>match a,h with
 | [.agg [.sl .kind ks,.sl .point ps,.sl .entry es],.sl .chg l],[]=>some (tkK ks ps es l,.tup [.agg [.sl .kind ks,.sl .point ps,.sl .entry (dTk ks ps es l).es],.sl .int (dTk ks ps es l).cs],[])
 | _,_=>none⟩
end Lx
namespace Lx
open Go Go.Proofs
noncomputable def Qkxy : RE Ty El:=⟨Tryz.prog,CP,[(Qdfk,Q124),(Qfx9,Qc1o),(Qbeb,Q8t5)],Tryz.f63,0,[.agg [.ro .kind,.ro .point,.ro .entry],.ro .int],[(6,[(1,.any),(4,.any),(6,.any),(7,.box [.ro .kind,.ro .point,.ro .entry]),(8,.any)])]⟩
theorem Qdq1 : REOK Qkxy Qlb4:=⟨CP_ok,(TabOK.cons Q8cq (TabOK.cons Qaka (TabOK.cons Q2a7 Qye1))),by kernel_rfl,by kernel_rfl⟩
theorem Qw5w (ks : List Kind) (ps : List Point) (es : List Entry) (l : List Chg) : aRun Qkxy 600 false (body0 Qkxy.fn) (Q4gm Qkxy.fn [.agg [.sl .kind ks,.sl .point ps,.sl .entry es],.sl .chg l] []) =
 ifb (szB es) (ifb (!Qn0o ks ps es) (some (.ret (.tup [.agg [.sl .kind [],.sl .point [],.sl .entry []],.sl .int []]) [])) (ifb (Q8cx ks ps es) (some (.go (Qu6t Qkxy.fn 6) [.sl .chg l,.ptr 0 0,.own 1 [] 0,.ptr 2 0,.int .i64 (0 : Int)] [.box [.nils,.nils,.nils],.row .int [] 0 0 0 .no,.box [.sl .kind ks,.sl .point ps,.sl .entry es]])) (none))) (none):=by kernel_rfl
theorem Qmr7 (x0 : List (El .chg)) (x1 : Int) (x2 : List (El .int)) (x3 : List (El .kind)) (x4 : List (El .point)) (x5 : List (El .entry)) : aRun Qkxy 600 true (Qu6t Qkxy.fn 6) (cutSt Qkxy.fn (Q1m4 Qkxy (Qu6t Qkxy.fn 6)) [.sl .chg x0,.ptr 0 0,.own 1 [] 0,.ptr 2 0,.int .i64 x1] [.box [.nils,.nils,.nils],.row .int x2 0 0 0 .no,.box [.sl .kind x3,.sl .point x4,.sl .entry x5]]) =
 ifb (decide (x1 < (↑x0.length : Int))) (ifb (inb x1 x0.length) (ifb (goodB x3 x4 x5 && szV (x0.getD x1.toNat (Qkxy.C.dflt Ty.chg)).value) (ifb (decide ((x2.length + [(takeF x3 x4 x5 (x0.getD x1.toNat (Qkxy.C.dflt Ty.chg))).code].length) * Qbhn Qkxy.P (3 : Nat) ≤ (140737488355328 : Nat))) (some (.go (Qu6t Qkxy.fn 6) [.sl .chg x0,.ptr 0 0,.own 1 [] 0,.ptr 2 0,.int .i64 (IntKind.i64.wrap (x1 + (1 : Int)))] [.box [.nils,.nils,.nils],.row .int (x2 ++ [(takeF x3 x4 x5 (x0.getD x1.toNat (Qkxy.C.dflt Ty.chg))).code]) 0 0 0 .no,.box [.sl .kind ((takeF x3 x4 x5 (x0.getD x1.toNat (Qkxy.C.dflt Ty.chg))).ks),.sl .point ((takeF x3 x4 x5 (x0.getD x1.toNat (Qkxy.C.dflt Ty.chg))).ps),.sl .entry ((takeF x3 x4 x5 (x0.getD x1.toNat (Qkxy.C.dflt Ty.chg))).es)]])) (none)) (none)) (none)) (some (.ret (.tup [.agg [.sl .kind x3,.sl .point x4,.sl .entry x5],.sl .int x2]) [])):=by kernel_rfl
theorem Qq9y (ks : List Kind) (ps : List Point) (l : List Chg) (g0 : l.length ≤ 1000) (g1 : l.all (fun c=>szV c.value) = true) : ∀ (d i : Nat) (es : List Entry) (cs : List Int),i + d = l.length → cs.length = i → goodE ks ps es = true →
  CutE Qkxy Qlb4 6 [.sl .chg l,.ptr 0 0,.own 1 [] 0,.ptr 2 0,.int .i64 (i : Int)] [.box [.nils,.nils,.nils],.row .int cs 0 0 0 .no,.box [.sl .kind ks,.sl .point ps,.sl .entry es]] (fun v h=>∃ x : TkP,v = (.tup [.agg [.sl .kind ks,.sl .point ps,.sl .entry x.es],.sl .int x.cs]) ∧ h = [] ∧ goodE ks ps x.es = true):=by
 have hbb : Qbhn Qkxy.P 3 ≤ 256:=of_decide_eq_true (by kernel_rfl)
 intro d
 induction d with
 | zero =>
  intro i es cs hi hc hg
  refine CutE.of Qdq1 rfl (Qmr7 l i cs ks ps es) ?_
  rw [show decide ((i : Int) < (l.length : Int)) = false from decide_eq_false (by omega),Qk7y]
  exact SatE.ret ⟨⟨es,cs⟩,rfl,rfl,hg⟩
 | succ d ih =>
  intro i es cs hi hc hg
  refine CutE.of Qdq1 rfl (Qmr7 l i cs ks ps es) ?_
  have hlt : i < l.length:=by omega
  have hw : IntKind.wrap .i64 ((i : Int) + 1) = ((i + 1 : Nat) : Int):=by rw [Qbrg] <;> omega
  have hw1 : IntKind.wrap .i64 ((i : Int) - 1) = (i : Int) - 1:=by rw [Qbrg] <;> omega
  have hd : l.drop i = l[i] :: l.drop (i + 1):=List.drop_eq_getElem_cons hlt
  have hx : l.getD (i : Int).toNat (Qkxy.C.dflt .chg) = l[i]:=by simp [hlt]
  have hin : inb (i : Int) l.length = true:=by simp only [inb,Bool.and_eq_true,decide_eq_true_eq]; omega
  have hlo : decide ((i : Int) < (l.length : Int)) = true:=decide_eq_true (by omega)
  have htk:=List.take_succ_eq_append_getElem hlt
  have hl : (l.take (i + 1)).getLast? = some l[i]:=by rw [List.take_succ_eq_append_getElem hlt,List.getLast?_concat]
  have hv:=List.all_eq_true.1 g1 _ (List.getElem_mem hlt)
  obtain ⟨t1,t2,t3⟩:=Qy7k (c:=l[i]) hg hv
  have hgb:=hg
  simp only [goodE,Bool.and_eq_true] at hgb
  rw [hlo,hin,hx,hw,hgb.2,hv,t1,t2]
  simp only [Qd8q,Bool.and_true]
  exact SatE.need (Q1mk hbb (by simp; omega)) (SatE.cut (ih (i + 1) _ _ (by omega) (by simp; omega) t3))
theorem Qhv6 (ks : List Kind) (ps : List Point) (es : List Entry) (l : List Chg) (hg : tkK ks ps es l = true) : Qewq Tryz.prog CP Qlb4 [.agg [.sl .kind ks,.sl .point ps,.sl .entry es],.sl .chg l] [] (.tup [.agg [.sl .kind ks,.sl .point ps,.sl .entry (dTk ks ps es l).es],.sl .int (dTk ks ps es l).cs]) [] ∧ goodE ks ps (dTk ks ps es l).es = true:=by
 simp only [tkK,Bool.and_eq_true,decide_eq_true_eq] at hg
 obtain ⟨h0,h1,h2⟩:=hg
 have h3:=h0
 simp only [goodE,goodB,Bool.and_eq_true] at h3
 obtain ⟨b1,b2,b3⟩:=h3
 have hE : CallE Qkxy.P Qkxy.C Qlb4 [.agg [.sl .kind ks,.sl .point ps,.sl .entry es],.sl .chg l] [] (fun v h=>∃ x : TkP,v = (.tup [.agg [.sl .kind ks,.sl .point ps,.sl .entry x.es],.sl .int x.cs]) ∧ h = [] ∧ goodE ks ps x.es = true):=by
  refine CallE.of Qdq1 (by kernel_rfl) (Qw5w ks ps es l) ?_
  rw [b1,b2,b3]
  exact SatE.cut (Qq9y ks ps l h1 h2 l.length 0 es [] (by omega) rfl h0)
 obtain ⟨v,H',h,x,rfl,rfl,hx⟩:=hE
 exact Qk78 (p:=fun x : TkP=>Qewq Tryz.prog CP Qlb4 [.agg [.sl .kind ks,.sl .point ps,.sl .entry es],.sl .chg l] [] (.tup [.agg [.sl .kind ks,.sl .point ps,.sl .entry x.es],.sl .int x.cs]) [] ∧ goodE ks ps x.es = true) ⟨x,h,hx⟩
theorem Qqvt (ks : List Kind) (ps : List Point) (es : List Entry) (l : List Chg) (hg : tkK ks ps es l = true) : Qewq Tryz.prog CP Qlb4 [.agg [.sl .kind ks,.sl .point ps,.sl .entry es],.sl .chg l] [] (.tup [.agg [.sl .kind ks,.sl .point ps,.sl .entry (dTk ks ps es l).es],.sl .int (dTk ks ps es l).cs]) []:=by
 exact (Qhv6 ks ps es l hg).1
theorem Qyvn : EntOK Tryz.prog CP Qlb4 Q2m7:=by
 refine ⟨⟨Tryz.f63,by kernel_rfl,by kernel_rfl,by kernel_rfl⟩,fun args H res H' h=>?_⟩
 simp only [Q2m7] at h
 split at h
 ·simp only [Option.some.injEq,Prod.mk.injEq] at h
  obtain ⟨hg,rfl,rfl⟩:=h
  exact Qqvt _ _ _ _ hg
 ·cases h
end Lx
namespace Lx
open Go Go.Proofs
structure BkP where
 es : List Entry
 p : Int
 deriving Inhabited
def Qv5n (ks : List Kind) (ps : List Point) (p : Int) (x : BkP) : Prop:=goodE ks ps x.es = true ∧ p ≤ x.p ∧ x.p ≤ p + 1000
noncomputable def dBook (bs : List Int) (p : Int) (ks : List Kind) (ps : List Point) : BkP:=drawn (fun x=>Qewq Tryz.prog CP Q604 [.ptr 0 0,.agg [.sl .kind ks,.sl .point ps]] [.box [.sl .u8 bs,.int .i64 p]] (.agg [.sl .kind ks,.sl .point ps,.sl .entry x.es]) [.box [.sl .u8 bs,.int .i64 x.p]] ∧ Qv5n ks ps p x)
def bkK (bs : List Int) (p : Int) (ks : List Kind) (ps : List Point) : Bool:=Qf9o bs && (decide (0 ≤ p) && (decide (p ≤ 870000) && (Qib4 ks ps && decide (1 ≤ ps.length))))
noncomputable def Qnfe : Ent Ty El:=⟨[.io,.ro],0,fun a h=>match a,h with
 | [.ptr 0 0,.agg [.sl .kind ks,.sl .point ps]],[.box [.sl .u8 bs,.int .i64 p]]=>some (bkK bs p ks ps,.agg [.sl .kind ks,.sl .point ps,.sl .entry (dBook bs p ks ps).es],[.box [.sl .u8 bs,.int .i64 (dBook bs p ks ps).p]])
 | _,_=>none⟩
theorem Qkew {ks : List Kind} {ps : List Point} (h : Qib4 ks ps = true) : goodE ks ps [] = true:=by
 have h0:=h
 simp only [Qib4,Bool.and_eq_true,decide_eq_true_eq] at h
 have k1 : Q6lz ks = true:=by simp only [Q6lz,Bool.and_true,decide_eq_true_eq]; omega
 have k2 : Qjyp ps = true:=by simp only [Qjyp,Bool.and_true,decide_eq_true_eq]; omega
 have k3 : Qn0o ks ps [] = true:=by rw [Qn0o,h0]; rfl
 have k4 : Q8cx ks ps [] = true:=by rw [Q8cx,k1,k2]; rfl
 rw [goodE,goodB,k3,k4]; rfl
end Lx
