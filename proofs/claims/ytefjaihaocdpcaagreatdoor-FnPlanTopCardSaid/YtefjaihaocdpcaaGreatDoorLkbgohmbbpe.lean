/- Cells of a route, as the program makes them. -/
import Derived.Test.YtefjaihaocdpcaaGreatDoorLjgjgmbnnec
import Derived.Test.YtefjaihaocdpcaaGreatDoorLhicachincn
set_option linter.unusedVariables false
set_option linter.unusedSimpArgs false
set_option maxRecDepth 4000
namespace Lx
open Go Go.Proofs
noncomputable def Qtgh : RE Ty El:=⟨Tryz.prog,CP,[(Qdaf,Qzuu),(Qwtz,Qbsc),(Qdu7,Q4ps)],Tryz.f36,0,[.ro .cell,.any],[(8,[(6,.any),(8,.any),(9,.any)]),(11,[(6,.any),(8,.any),(9,.any),(62,.any),(63,.any),(64,.any)])]⟩
theorem Qmle : REOK Qtgh Qlm4:=⟨CP_ok,(TabOK.cons Qkfq (TabOK.cons Q09u (TabOK.cons Q6da Qye1))),by kernel_rfl,by kernel_rfl⟩
theorem Q0dz (ks : List Kind) (ps : List Point) (w : List Str) : aRun Qtgh 600 false (body0 Qtgh.fn) (Q4gm Qtgh.fn [.agg [.sl .kind ks,.sl .point ps],.sl .str w] []) =
 ifb (!Qib4 ks ps) (some (.ret (.tup [.sl .cell [],.bool false]) [])) (ifb (decide (ps.length < (1000000000 : Nat))) (ifb (!Qyhl ps w) (some (.ret (.tup [.sl .cell [],.bool false]) [])) (ifb (inb (0 : Int) (Q51t ps w).length) (ifb (inb (0 : Int) (Q51t ps w).length) (some (.go (Qu6t Qtgh.fn 8) [.sl .point (Q51t ps w),.own 0 [] 0,.int .i64 (1 : Int)] [.row .cell [Cell.mk ((Q51t ps w).getD (Int.toNat (0 : Int)) (Qtgh.C.dflt Ty.point)).x ((Q51t ps w).getD (Int.toNat (0 : Int)) (Qtgh.C.dflt Ty.point)).y] 0 0 0 .no])) (none)) (none))) (none)):=by kernel_rfl
theorem Qsx8 (x0 : List (El .point)) (x1 : Int) (x2 : List (El .cell)) : aRun Qtgh 600 true (Qu6t Qtgh.fn 8) (cutSt Qtgh.fn (Q1m4 Qtgh (Qu6t Qtgh.fn 8)) [.sl .point x0,.own 0 [] 0,.int .i64 x1] [.row .cell x2 0 0 0 .no]) =
 ifb (decide (x1 < (↑x0.length : Int))) (ifb (inb (IntKind.i64.wrap (x1 - (1 : Int))) x0.length) (ifb (inb (IntKind.i64.wrap (x1 - (1 : Int))) x0.length) (ifb (inb x1 x0.length) (ifb (inb x1 x0.length) (ifb (Qlxz (Cell.mk (x0.getD (IntKind.i64.wrap (x1 - (1 : Int))).toNat (Qtgh.C.dflt Ty.point)).x (x0.getD (IntKind.i64.wrap (x1 - (1 : Int))).toNat (Qtgh.C.dflt Ty.point)).y) && Qlxz (Cell.mk (x0.getD x1.toNat (Qtgh.C.dflt Ty.point)).x (x0.getD x1.toNat (Qtgh.C.dflt Ty.point)).y)) (ifb (decide ((0 : Int) ≤ (1 : Int)) && (decide ((1 : Int) ≤ (↑(Qppc (Cell.mk (x0.getD (IntKind.i64.wrap (x1 - (1 : Int))).toNat (Qtgh.C.dflt Ty.point)).x (x0.getD (IntKind.i64.wrap (x1 - (1 : Int))).toNat (Qtgh.C.dflt Ty.point)).y) (Cell.mk (x0.getD x1.toNat (Qtgh.C.dflt Ty.point)).x (x0.getD x1.toNat (Qtgh.C.dflt Ty.point)).y)).length : Int)) && decide ((↑(Qppc (Cell.mk (x0.getD (IntKind.i64.wrap (x1 - (1 : Int))).toNat (Qtgh.C.dflt Ty.point)).x (x0.getD (IntKind.i64.wrap (x1 - (1 : Int))).toNat (Qtgh.C.dflt Ty.point)).y) (Cell.mk (x0.getD x1.toNat (Qtgh.C.dflt Ty.point)).x (x0.getD x1.toNat (Qtgh.C.dflt Ty.point)).y)).length : Int) ≤ (↑(Qppc (Cell.mk (x0.getD (IntKind.i64.wrap (x1 - (1 : Int))).toNat (Qtgh.C.dflt Ty.point)).x (x0.getD (IntKind.i64.wrap (x1 - (1 : Int))).toNat (Qtgh.C.dflt Ty.point)).y) (Cell.mk (x0.getD x1.toNat (Qtgh.C.dflt Ty.point)).x (x0.getD x1.toNat (Qtgh.C.dflt Ty.point)).y)).length : Int)))) (some (.go (Qu6t Qtgh.fn 11) [.sl .point x0,.own 0 [] 0,.int .i64 x1,.sl .pair (List.take ((↑(Qppc (Cell.mk (x0.getD (IntKind.i64.wrap (x1 - (1 : Int))).toNat (Qtgh.C.dflt Ty.point)).x (x0.getD (IntKind.i64.wrap (x1 - (1 : Int))).toNat (Qtgh.C.dflt Ty.point)).y) (Cell.mk (x0.getD x1.toNat (Qtgh.C.dflt Ty.point)).x (x0.getD x1.toNat (Qtgh.C.dflt Ty.point)).y)).length : Int).toNat - Int.toNat (1 : Int)) (List.drop (Int.toNat (1 : Int)) (Qppc (Cell.mk (x0.getD (IntKind.i64.wrap (x1 - (1 : Int))).toNat (Qtgh.C.dflt Ty.point)).x (x0.getD (IntKind.i64.wrap (x1 - (1 : Int))).toNat (Qtgh.C.dflt Ty.point)).y) (Cell.mk (x0.getD x1.toNat (Qtgh.C.dflt Ty.point)).x (x0.getD x1.toNat (Qtgh.C.dflt Ty.point)).y)))),.int .i64 ((↑(List.take ((↑(Qppc (Cell.mk (x0.getD (IntKind.i64.wrap (x1 - (1 : Int))).toNat (Qtgh.C.dflt Ty.point)).x (x0.getD (IntKind.i64.wrap (x1 - (1 : Int))).toNat (Qtgh.C.dflt Ty.point)).y) (Cell.mk (x0.getD x1.toNat (Qtgh.C.dflt Ty.point)).x (x0.getD x1.toNat (Qtgh.C.dflt Ty.point)).y)).length : Int).toNat - Int.toNat (1 : Int)) (List.drop (Int.toNat (1 : Int)) (Qppc (Cell.mk (x0.getD (IntKind.i64.wrap (x1 - (1 : Int))).toNat (Qtgh.C.dflt Ty.point)).x (x0.getD (IntKind.i64.wrap (x1 - (1 : Int))).toNat (Qtgh.C.dflt Ty.point)).y) (Cell.mk (x0.getD x1.toNat (Qtgh.C.dflt Ty.point)).x (x0.getD x1.toNat (Qtgh.C.dflt Ty.point)).y)))).length : Int)),.int .i64 (0 : Int)] [.row .cell x2 0 0 0 .no])) (none)) (none)) (none)) (none)) (none)) (none)) (ifb (decide ((↑x2.length : Int) > (40 : Int))) (some (.ret (.tup [.sl .cell [],.bool false]) [])) (some (.ret (.tup [.sl .cell x2,.bool true]) []))):=by kernel_rfl
theorem Q7lp (x0 : List (El .point)) (x1 : Int) (x2 : List (El .pair)) (x3 : Int) (x4 : Int) (x5 : List (El .cell)) : aRun Qtgh 600 true (Qu6t Qtgh.fn 11) (cutSt Qtgh.fn (Q1m4 Qtgh (Qu6t Qtgh.fn 11)) [.sl .point x0,.own 0 [] 0,.int .i64 x1,.sl .pair x2,.int .i64 x3,.int .i64 x4] [.row .cell x5 0 0 0 .no]) =
 ifb (decide (x4 < x3)) (ifb (inb x4 x2.length) (ifb (decide ((x5.length + [x2.getD x4.toNat (Qtgh.C.dflt Ty.pair)].length) * Qbhn Qtgh.P (72 : Nat) ≤ (140737488355328 : Nat))) (some (.go (Qu6t Qtgh.fn 11) [.sl .point x0,.own 0 [] 0,.int .i64 x1,.sl .pair x2,.int .i64 x3,.int .i64 (IntKind.i64.wrap (x4 + (1 : Int)))] [.row .cell (x5 ++ [x2.getD x4.toNat (Qtgh.C.dflt Ty.pair)]) 0 0 0 .no])) (none)) (none)) (some (.go (Qu6t Qtgh.fn 8) [.sl .point x0,.own 0 [] 0,.int .i64 (IntKind.i64.wrap (x1 + (1 : Int)))] [.row .cell x5 0 0 0 .no])):=by kernel_rfl
theorem Q7ss (pts : List Point) (i : Nat) (hi : i < 1000) (cs : List Cell) (hcs : cs.length ≤ 100) (acc : List Cell) (hacc : acc.length ≤ 10000) (res : V) (h8 : Cut Qtgh Qlm4 8 [.sl .point pts,.own 0 [] 0,.int .i64 ((i + 1 : Nat) : Int)] [.row .cell (acc ++ cs) 0 0 0 .no] res []) : ∀ (d k : Nat),k + d = cs.length →
  Cut Qtgh Qlm4 11 [.sl .point pts,.own 0 [] 0,.int .i64 (i : Int),.sl .pair cs,.int .i64 (cs.length : Int),.int .i64 (k : Int)] [.row .cell (acc ++ cs.take k) 0 0 0 .no] res []:=by
 have hbs : Qbhn Qtgh.P 72 = 16:=by kernel_rfl
 have hwi : IntKind.wrap .i64 ((i : Int) + 1) = ((i + 1 : Nat) : Int):=by rw [Qbrg] <;> omega
 intro d
 induction d with
 | zero =>
  intro k hk
  refine Cut.of Qmle rfl (Q7lp pts i cs cs.length k _) ?_
  rw [decide_eq_false (by omega),hwi,List.take_of_length_le (by omega)]
  exact Sat.cut h8
 | succ d ih =>
  intro k hk
  refine Cut.of Qmle rfl (Q7lp pts i cs cs.length k _) ?_
  have hlt : k < cs.length:=by omega
  have hw : IntKind.wrap .i64 ((k : Int) + 1) = ((k + 1 : Nat) : Int):=by rw [Qbrg] <;> omega
  have hw1 : IntKind.wrap .i64 ((k : Int) - 1) = (k : Int) - 1:=by rw [Qbrg] <;> omega
  have hd : cs.drop k = cs[k] :: cs.drop (k + 1):=List.drop_eq_getElem_cons hlt
  have hx : cs.getD (k : Int).toNat (Qtgh.C.dflt .pair) = cs[k]:=by simp [hlt]
  have hin : inb (k : Int) cs.length = true:=by simp only [inb,Bool.and_eq_true,decide_eq_true_eq]; omega
  have hlo : decide ((k : Int) < (cs.length : Int)) = true:=decide_eq_true (by omega)
  have htk:=List.take_succ_eq_append_getElem hlt
  have hl : (cs.take (k + 1)).getLast? = some cs[k]:=by rw [List.take_succ_eq_append_getElem hlt,List.getLast?_concat]
  have hroom : decide (((acc ++ cs.take k).length + [cs[k]].length) * 16 ≤ 140737488355328) = true:=decide_eq_true (by simp; omega)
  rw [hlo,hin,hx,hw,hbs,hroom]
  have:=ih (k + 1) (by omega)
  rw [htk,← List.append_assoc] at this
  exact Sat.cut this
theorem Qhoq (ks : List Kind) (ps : List Point) (w : List Str) (hb : Qib4 ks ps = true) (hr : Qyhl ps w = true) : ∀ (d i : Nat),i + d = w.length → 1 ≤ i → (Qya3 ps w (i - 1)).length ≤ 1 + 200 * i →
  Cut Qtgh Qlm4 8 [.sl .point (w.map (ptOf ps)),.own 0 [] 0,.int .i64 (i : Int)] [.row .cell (Qya3 ps w (i - 1)) 0 0 0 .no] (Qkcc (Qqfy ks ps w)) []:=by
 obtain ⟨hw2,hw8,hall⟩:=Quu2 hr
 intro d
 induction d with
 | zero =>
  intro i hi h1 hlen
  refine Cut.of Qmle rfl (Qsx8 (w.map (ptOf ps)) i _) ?_
  rw [List.length_map,decide_eq_false (by omega),Qk7y]
  have e : w.length - 1 = i - 1:=by omega
  by_cases h40 : (Qya3 ps w (i - 1)).length ≤ 40
  ·rw [decide_eq_false (by omega)]
   refine Sat.ret ?_ rfl
   rw [Qqfy,if_pos ⟨hb,hr,by rw [e]; exact h40⟩,e]; rfl
  ·rw [decide_eq_true (by omega)]
   refine Sat.ret ?_ rfl
   rw [Qqfy,if_neg (fun h=>h40 (by rw [← e]; exact h.2.2))]; rfl
 | succ d ih =>
  intro i hi h1 hlen
  refine Cut.of Qmle rfl (Qsx8 (w.map (ptOf ps)) i _) ?_
  have hlt : i < w.length:=by omega
  have hlt1 : i - 1 < w.length:=by omega
  have hw1 : IntKind.wrap .i64 ((i : Int) - 1) = (i : Int) - 1:=by rw [Qbrg] <;> omega
  have e1 : ((i : Int) - 1).toNat = i - 1:=by omega
  have e2 : (i : Int).toNat = i:=by omega
  have i0 : inb ((i : Int) - 1) w.length = true:=by simp only [inb,Bool.and_eq_true,decide_eq_true_eq]; omega
  have i1 : inb (i : Int) w.length = true:=by simp only [inb,Bool.and_eq_true,decide_eq_true_eq]; omega
  have m0 : w.getD (i - 1) [] ∈ w:=by rw [List.getD_eq_getElem?_getD,List.getElem?_eq_getElem hlt1]; exact List.getElem_mem hlt1
  have m1 : w.getD i [] ∈ w:=by rw [List.getD_eq_getElem?_getD,List.getElem?_eq_getElem hlt]; exact List.getElem_mem hlt
  have hp : ∀ j,j < w.length → (w.map (ptOf ps)).getD j (Qtgh.C.dflt Ty.point) = ptOf ps (w.getD j []):=fun j hj=>by simp [hj]
  have hc : ∀ n,Cell.mk (ptOf ps n).x (ptOf ps n).y = Qg2m ps n:=fun n=>rfl
  have hl:=Qek1 (a:=Qg2m ps (w.getD (i - 1) [])) (b:=Qg2m ps (w.getD i []))
  have hln:=Q1tq (Qgjr hb (hall _ m0)) (Qgjr hb (hall _ m1))
  have ht : (Qppc (Qg2m ps (w.getD (i - 1) [])) (Qg2m ps (w.getD i []))).drop 1 = tailC ps w (i - 1):=by
   unfold tailC
   rw [show i - 1 + 1 = i by omega]
  have htl : (tailC ps w (i - 1)).length ≤ 100:=by rw [← ht,List.length_drop]; omega
  have e4 : (((Qppc (Qg2m ps (w.getD (i - 1) [])) (Qg2m ps (w.getD i []))).drop (Int.toNat 1)).take (((Qppc (Qg2m ps (w.getD (i - 1) [])) (Qg2m ps (w.getD i []))).length : Int).toNat - Int.toNat 1)) = tailC ps w (i - 1):=by
   rw [show (Int.toNat 1) = 1 from rfl,ht]
   exact List.take_of_length_le (by rw [← ht,List.length_drop]; omega)
  rw [List.length_map,hw1,e1,e2,i0,i1,hp _ hlt1,hp _ hlt,hc,hc,Qgjr hb (hall _ m0),Qgjr hb (hall _ m1),decide_eq_true (by omega : (i : Int) < (w.length : Int)),e4,decide_eq_true (by omega : (1 : Int) ≤ ((Qppc (Qg2m ps (w.getD (i - 1) [])) (Qg2m ps (w.getD i []))).length : Int)),decide_eq_true (Int.le_refl ((Qppc (Qg2m ps (w.getD (i - 1) [])) (Qg2m ps (w.getD i []))).length : Int))]
  have h8:=ih (i + 1) (by omega) (by omega) (by
   rw [show i + 1 - 1 = (i - 1) + 1 by omega,Q0oy,List.length_append]; omega)
  rw [show i + 1 - 1 = (i - 1) + 1 by omega,Q0oy] at h8
  have:=Q7ss (w.map (ptOf ps)) i (by omega) (tailC ps w (i - 1)) htl (Qya3 ps w (i - 1)) (by omega) _ h8 _ 0 (Nat.zero_add _)
  rw [List.take_zero,List.append_nil] at this
  exact Sat.cut this
theorem Qcku (ks : List Kind) (ps : List Point) (w : List Str) (hg : decide (ps.length < 1000000000) = true) : Qewq Tryz.prog CP Qlm4 [.agg [.sl .kind ks,.sl .point ps],.sl .str w] [] (Qkcc (Qqfy ks ps w)) []:=by
 refine Qewq.of Qmle (by kernel_rfl) (Q0dz ks ps w) ?_
 have no : Qqfy ks ps w = none → Sat Qtgh Qlm4 (Qkcc (Qqfy ks ps w)) [] (some (.ret (.tup [.sl .cell [],.bool false]) [])):=fun h=>by
  rw [h]; exact Sat.ret rfl rfl
 rw [hg]
 cases hb : Qib4 ks ps with
 | false=>exact no (by rw [Qqfy,hb]; simp)
 | true =>
  cases hr : Qyhl ps w with
  | false=>exact no (by rw [Qqfy,hr]; simp)
  | true =>
   obtain ⟨hw2,hw8,hall⟩:=Quu2 hr
   have hrp : Q51t ps w = w.map (ptOf ps):=by rw [Q51t,if_pos hr]
   have i0 : inb (0 : Int) w.length = true:=by simp only [inb,Bool.and_eq_true,decide_eq_true_eq]; omega
   have hlt : 0 < w.length:=by omega
   have hp : (w.map (ptOf ps)).getD (Int.toNat 0) (Qtgh.C.dflt Ty.point) = ptOf ps (w.getD 0 []):=by
    show (w.map (ptOf ps)).getD 0 _ = _
    simp [hlt]
   have:=Qhoq ks ps w hb hr (w.length - 1) 1 (by omega) (Nat.le_refl _) (by simp [Qya3])
   rw [hrp,List.length_map,i0,hp]
   exact Sat.cut this
theorem Qh42 : EntOK Tryz.prog CP Qlm4 Qp5x:=by
 refine ⟨⟨Tryz.f36,by kernel_rfl,by kernel_rfl,by kernel_rfl⟩,fun args H res H' h=>?_⟩
 simp only [Qp5x,Q49v] at h
 split at h
 ·simp only [Option.some.injEq,Prod.mk.injEq] at h
  obtain ⟨hg,rfl,rfl⟩:=h
  exact Qcku _ _ _ hg
 ·cases h
end Lx
namespace Lx
open Go Go.Proofs
def lvl (f : Flight) (n : Nat) (k : Nat) : Int:=(Qc07 n f.level).getD k 0
def Q9ns (f : Flight) (cs : List Cell) (k : Nat) : Stp :=
 ⟨(cs.getD k ⟨0,0⟩).x,(cs.getD k ⟨0,0⟩).y,min (lvl f cs.length (k - 1)) (lvl f cs.length k),max (lvl f cs.length (k - 1)) (lvl f cs.length k),f.frm + k * f.kind.quick,f.by_ + k * f.kind.slow⟩
theorem Q5vz {n : Nat} {l : Int} (h1 : 1 ≤ n) (h40 : n ≤ 40) (h : inR l 1 6 = true) : (Qc07 n l).length = n:=by
 have hn : inR (n : Int) 1 40 = true:=by simp only [inR,Bool.and_eq_true,decide_eq_true_eq]; omega
 unfold Qc07
 rw [if_pos ⟨hn,h⟩]
 simp
theorem fl_ok {ks : List Kind} {ps : List Point} {es : List Entry} {n : Str} {f : Flight} (h : stB ks ps es n = some f) : 0 ≤ f.frm ∧ f.frm ≤ f.by_ ∧ f.by_ ≤ 10000 ∧ 1 ≤ f.kind.quick ∧ f.kind.quick ≤ f.kind.slow ∧ f.kind.slow ≤ 50 ∧ inR f.level 1 6 = true:=by
 unfold stB at h
 split at h
 ·rename_i hc
  obtain ⟨hb,h0⟩:=hc
  obtain ⟨hbase,_,hall⟩:=Qg6k hb
  have hok:=hall _ (Qhwx h0)
  generalize es.getD (entIx es n).toNat (dfltP .entry) = e at *
  unfold stE at h
  split at h
  ·cases h
  ·rename_i hv
   split at h
   ·cases h
   ·simp only [Option.some.injEq] at h
    subst h
    have h1:=Q256 hok (w:=1) (fun e=>hv (.inl e))
    have h2:=Q256 hok (w:=2) (fun e=>hv (.inr (.inl e)))
    have h3:=Q256 hok (w:=3) (fun e=>hv (.inr (.inr (.inl e))))
    have ht:=fits2 h2
    have hk:=fits1 h1
    have hlev : inR (numF (valF e.fields 3)) 1 6 = true:=by simpa [fitsV] using h3
    have hin:=Qus2 hk
    simp only [inb,Bool.and_eq_true,decide_eq_true_eq] at hin
    have hlt : (Qh2z ks (valF e.fields 1)).toNat < ks.length:=by omega
    have hm : ks.getD (Qh2z ks (valF e.fields 1)).toNat (dfltP .kind) ∈ ks:=by
     rw [List.getD_eq_getElem?_getD,List.getElem?_eq_getElem hlt]; exact List.getElem_mem hlt
    simp only [Qib4,Bool.and_eq_true] at hbase
    have hko:=Q315 hbase.2.2.1 _ hm
    simp only [Kind.ok,Bool.and_eq_true,decide_eq_true_eq] at hko
    have htm : 0 ≤ numF ((cutS 32 (valF e.fields 2)).getD 0 []) ∧ numF ((cutS 32 (valF e.fields 2)).getD 0 []) ≤ numF ((cutS 32 (valF e.fields 2)).getD 1 []) ∧ numF ((cutS 32 (valF e.fields 2)).getD 1 []) ≤ 10000:=by
     match hw : cutS 32 (valF e.fields 2),ht with
     | [a,b],ht =>
      simp only [Q2es,inR,Bool.and_eq_true,decide_eq_true_eq] at ht
      exact ⟨ht.1,ht.2.1,ht.2.2⟩
    exact ⟨htm.1,htm.2.1,htm.2.2,hko.2.1,hko.2.2.1,hko.2.2.2,hlev⟩
 ·cases h
structure PathR where
 steps : List Stp
 frm : Int
 by_ : Int
 code : Int
def pathF (ks : List Kind) (ps : List Point) (es : List Entry) (n : Str) : PathR :=
 if Qn0o ks ps es = true then match stB ks ps es n with
  | none=>⟨[],0,0,2⟩
  | some f=>match Qqfy ks ps f.route with
   | none=>⟨[],0,0,3⟩
   | some cs=>if f.by_ + cs.length * f.kind.slow > 10000 then ⟨[],0,0,4⟩ else ⟨(List.range cs.length).map (Q9ns f cs),f.frm + cs.length * f.kind.quick,f.by_ + cs.length * f.kind.slow,0⟩
 else ⟨[],0,0,1⟩
def pathV (r : PathR) : V:=.tup [.agg [.sl .step r.steps,.int .i64 r.frm,.int .i64 r.by_],.int .i64 r.code]
def Q4vh : Ent Ty El:=⟨[.ro,.ro],0,fun a h=>match a,h with
 | [.agg [.sl .kind ks,.sl .point ps,.sl .entry es],.str n],[]=>some (szB es && decide (es.length < 1000000000),pathV (pathF ks ps es n),[])
 | _,_=>none⟩
def Qrhz : Ent Ty El:=Q4vh
end Lx
namespace Lx
open Go Go.Proofs
end Lx
namespace Lx
open Go Go.Proofs
noncomputable def Q8e3 : RE Ty El:=⟨Tryz.prog,CP,[(Qaev,Qjv4),(Qcq6,Qnor),(Qlm4,Qp5x),(Qqwa,Q7vp)],Tryz.f17,0,[.agg [.ro .step,.any,.any],.any],[(15,[(4,.box [.own .step]),(6,.box [.own .step]),(11,.box [.own .step]),(12,.box [.own .step]),(67,.box [.own .step]),(68,.box [.own .step]),(69,.box [.own .step])])]⟩
theorem Qqun : REOK Q8e3 Qwuz:=⟨CP_ok,(TabOK.cons Qwza (TabOK.cons Qyj8 (TabOK.cons Qh42 (TabOK.cons Qgno Qye1)))),by kernel_rfl,by kernel_rfl⟩
theorem Qzjm (ks : List Kind) (ps : List Point) (es : List Entry) (n : Str) : aRun Q8e3 600 false (body0 Q8e3.fn) (Q4gm Q8e3.fn [.agg [.sl .kind ks,.sl .point ps,.sl .entry es],.str n] []) =
 ifb (szB es) (ifb (!Qn0o ks ps es) (some (.ret (.tup [.agg [.sl .step [],.int .i64 (0 : Int),.int .i64 (0 : Int)],.int .i64 (1 : Int)]) [])) (ifb (szB es && Qn0o ks ps es) (ifb (!(stB ks ps es n).isSome) (some (.ret (.tup [.agg [.sl .step [],.int .i64 (0 : Int),.int .i64 (0 : Int)],.int .i64 (2 : Int)]) [])) (ifb (decide (ps.length < (1000000000 : Nat))) (ifb (!(Qqfy ks ps ((stB ks ps es n).getD fl0).route).isSome) (some (.ret (.tup [.agg [.sl .step [],.int .i64 (0 : Int),.int .i64 (0 : Int)],.int .i64 (3 : Int)]) [])) (ifb (decide (IntKind.i64.wrap (((stB ks ps es n).getD fl0).by_ + IntKind.i64.wrap ((↑((Qqfy ks ps ((stB ks ps es n).getD fl0).route).getD []).length : Int) * ((stB ks ps es n).getD fl0).kind.slow)) > (10000 : Int))) (some (.ret (.tup [.agg [.sl .step [],.int .i64 (0 : Int),.int .i64 (0 : Int)],.int .i64 (4 : Int)]) [])) (some (.go (Qu6t Q8e3.fn 15) [.ptr 0 0,.ptr 2 0,.ptr 3 0,.sl .int (Qc07 (↑((Qqfy ks ps ((stB ks ps es n).getD fl0).route).getD []).length : Int) ((stB ks ps es n).getD fl0).level),.sl .cell ((Qqfy ks ps ((stB ks ps es n).getD fl0).route).getD []),.int .i64 ((↑((Qqfy ks ps ((stB ks ps es n).getD fl0).route).getD []).length : Int)),.int .i64 (0 : Int)] [.box [.own 1 [] 0,.int .i64 (0 : Int),.int .i64 (0 : Int)],.row .step [] 0 0 0 .no,.box [.str (((stB ks ps es n).getD fl0).name),.str (((stB ks ps es n).getD fl0).kind.name),.int .i64 (((stB ks ps es n).getD fl0).kind.quick),.int .i64 (((stB ks ps es n).getD fl0).kind.slow),.int .i64 (((stB ks ps es n).getD fl0).frm),.int .i64 (((stB ks ps es n).getD fl0).by_),.int .i64 (((stB ks ps es n).getD fl0).level),.sl .str (((stB ks ps es n).getD fl0).route)],.box [.own 4 [] 0,.int .i64 (IntKind.i64.wrap (((stB ks ps es n).getD fl0).frm + IntKind.i64.wrap ((↑((Qqfy ks ps ((stB ks ps es n).getD fl0).route).getD []).length : Int) * ((stB ks ps es n).getD fl0).kind.quick))),.int .i64 (IntKind.i64.wrap (((stB ks ps es n).getD fl0).by_ + IntKind.i64.wrap ((↑((Qqfy ks ps ((stB ks ps es n).getD fl0).route).getD []).length : Int) * ((stB ks ps es n).getD fl0).kind.slow)))],.row .step [] 0 0 0 .no])))) (none))) (none))) (none):=by kernel_rfl
theorem Q1gs (x0 : List (El .int)) (x1 : List (El .cell)) (x2 : Int) (x3 : Int) (x4 : Int) (x5 : Int) (x6 : List (El .step)) (x7 : Str) (x8 : Str) (x9 : Int) (x10 : Int) (x11 : Int) (x12 : Int) (x13 : Int) (x14 : List (El .str)) (x15 : Int) (x16 : Int) (x17 : List (El .step)) : aRun Q8e3 600 true (Qu6t Q8e3.fn 15) (cutSt Q8e3.fn (Q1m4 Q8e3 (Qu6t Q8e3.fn 15)) [.ptr 0 0,.ptr 2 0,.ptr 3 0,.sl .int x0,.sl .cell x1,.int .i64 x2,.int .i64 x3] [.box [.own 1 [] 0,.int .i64 x4,.int .i64 x5],.row .step x6 0 0 0 .no,.box [.str x7,.str x8,.int .i64 x9,.int .i64 x10,.int .i64 x11,.int .i64 x12,.int .i64 x13,.sl .str x14],.box [.own 4 [] 0,.int .i64 x15,.int .i64 x16],.row .step x17 0 0 0 .no]) =
 ifb (decide (x3 < x2)) (ifb (inb x3 x1.length) (ifb (inb (max2A (IntKind.i64.wrap (x3 - (1 : Int))) (0 : Int)) x0.length) (ifb (inb x3 x0.length) (ifb (inb x3 x0.length) (ifb (decide ((x17.length + [Stp.mk (x1.getD x3.toNat (Q8e3.C.dflt Ty.cell)).x (x1.getD x3.toNat (Q8e3.C.dflt Ty.cell)).y (min2A (x0.getD (max2A (IntKind.i64.wrap (x3 - (1 : Int))) (0 : Int)).toNat (Q8e3.C.dflt Ty.int)) (x0.getD x3.toNat (Q8e3.C.dflt Ty.int))) (max2A (x0.getD (max2A (IntKind.i64.wrap (x3 - (1 : Int))) (0 : Int)).toNat (Q8e3.C.dflt Ty.int)) (x0.getD x3.toNat (Q8e3.C.dflt Ty.int))) (IntKind.i64.wrap (x11 + IntKind.i64.wrap (x3 * x9))) (IntKind.i64.wrap (x12 + IntKind.i64.wrap (x3 * x10)))].length) * Qbhn Q8e3.P (47 : Nat) ≤ (140737488355328 : Nat))) (some (.go (Qu6t Q8e3.fn 15) [.ptr 0 0,.ptr 2 0,.ptr 3 0,.sl .int x0,.sl .cell x1,.int .i64 x2,.int .i64 (IntKind.i64.wrap (x3 + (1 : Int)))] [.box [.own 1 [] 0,.int .i64 x4,.int .i64 x5],.row .step x6 0 0 0 .no,.box [.str x7,.str x8,.int .i64 x9,.int .i64 x10,.int .i64 x11,.int .i64 x12,.int .i64 x13,.sl .str x14],.box [.own 4 [] 0,.int .i64 x15,.int .i64 x16],.row .step (x17 ++ [Stp.mk (x1.getD x3.toNat (Q8e3.C.dflt Ty.cell)).x (x1.getD x3.toNat (Q8e3.C.dflt Ty.cell)).y (min2A (x0.getD (max2A (IntKind.i64.wrap (x3 - (1 : Int))) (0 : Int)).toNat (Q8e3.C.dflt Ty.int)) (x0.getD x3.toNat (Q8e3.C.dflt Ty.int))) (max2A (x0.getD (max2A (IntKind.i64.wrap (x3 - (1 : Int))) (0 : Int)).toNat (Q8e3.C.dflt Ty.int)) (x0.getD x3.toNat (Q8e3.C.dflt Ty.int))) (IntKind.i64.wrap (x11 + IntKind.i64.wrap (x3 * x9))) (IntKind.i64.wrap (x12 + IntKind.i64.wrap (x3 * x10)))]) 0 0 0 .no])) (none)) (none)) (none)) (none)) (none)) (some (.ret (.tup [.agg [.sl .step x17,.int .i64 x15,.int .i64 x16],.int .i64 (0 : Int)]) [])):=by kernel_rfl
theorem Qtic (f : Flight) (cs : List Cell) (F B : Int) (h40 : cs.length ≤ 40) (h0 : 0 ≤ f.frm) (h1 : f.frm ≤ f.by_) (h2 : f.by_ ≤ 10000) (h3 : 1 ≤ f.kind.quick) (h4 : f.kind.quick ≤ f.kind.slow) (h5 : f.kind.slow ≤ 50) (h6 : inR f.level 1 6 = true) : ∀ (d k : Nat),k + d = cs.length →
  Cut Q8e3 Qwuz 15 [.ptr 0 0,.ptr 2 0,.ptr 3 0,.sl .int (Qc07 cs.length f.level),.sl .cell cs,.int .i64 (cs.length : Int),.int .i64 (k : Int)] [.box [.own 1 [] 0,.int .i64 0,.int .i64 0],.row .step [] 0 0 0 .no,.box [.str f.name,.str f.kind.name,.int .i64 f.kind.quick,.int .i64 f.kind.slow,.int .i64 f.frm,.int .i64 f.by_,.int .i64 f.level,.sl .str f.route],.box [.own 4 [] 0,.int .i64 F,.int .i64 B],.row .step ((List.range k).map (Q9ns f cs)) 0 0 0 .no] (.tup [.agg [.sl .step ((List.range cs.length).map (Q9ns f cs)),.int .i64 F,.int .i64 B],.int .i64 0]) []:=by
 have hbs : Qbhn Q8e3.P 47 = 48:=by kernel_rfl
 intro d
 induction d with
 | zero =>
  intro k hk
  refine Cut.of Qqun rfl (Q1gs _ cs cs.length k 0 0 [] f.name f.kind.name f.kind.quick f.kind.slow f.frm f.by_ f.level f.route F B _) ?_
  rw [decide_eq_false (by omega),Qk7y]
  refine Sat.ret ?_ rfl
  rw [show k = cs.length by omega]
 | succ d ih =>
  intro k hk
  refine Cut.of Qqun rfl (Q1gs _ cs cs.length k 0 0 [] f.name f.kind.name f.kind.quick f.kind.slow f.frm f.by_ f.level f.route F B _) ?_
  have hlt : k < cs.length:=by omega
  have hL : (Qc07 cs.length f.level).length = cs.length:=Q5vz (by omega) h40 h6
  have hw : IntKind.wrap .i64 ((k : Int) + 1) = ((k + 1 : Nat) : Int):=by rw [Qbrg] <;> omega
  have hw1 : IntKind.wrap .i64 ((k : Int) - 1) = (k : Int) - 1:=by rw [Qbrg] <;> omega
  have hx : cs.getD (k : Int).toNat (Q8e3.C.dflt .cell) = cs.getD k ⟨0,0⟩:=by simp [hlt]
  have hdi : Q8e3.C.dflt Ty.int = (0 : Int):=rfl
  have ek : (k : Int).toNat = k:=by omega
  have i1 : inb (k : Int) cs.length = true:=by simp only [inb,Bool.and_eq_true,decide_eq_true_eq]; omega
  have pq : (k : Int) * f.kind.quick ≤ 40 * 50 ∧ 0 ≤ (k : Int) * f.kind.quick:=⟨Int.mul_le_mul (by omega) (by omega) (by omega) (by omega),Int.mul_nonneg (by omega) (by omega)⟩
  have ps : (k : Int) * f.kind.slow ≤ 40 * 50 ∧ 0 ≤ (k : Int) * f.kind.slow:=⟨Int.mul_le_mul (by omega) (by omega) (by omega) (by omega),Int.mul_nonneg (by omega) (by omega)⟩
  have w1 : IntKind.wrap .i64 ((k : Int) * f.kind.quick) = (k : Int) * f.kind.quick:=Qbrg (by omega) (by omega)
  have w2 : IntKind.wrap .i64 ((k : Int) * f.kind.slow) = (k : Int) * f.kind.slow:=Qbrg (by omega) (by omega)
  have w3 : IntKind.wrap .i64 (f.frm + (k : Int) * f.kind.quick) = f.frm + (k : Int) * f.kind.quick:=Qbrg (by omega) (by omega)
  have w4 : IntKind.wrap .i64 (f.by_ + (k : Int) * f.kind.slow) = f.by_ + (k : Int) * f.kind.slow:=Qbrg (by omega) (by omega)
  have hroom : ∀ z : Stp,decide ((((List.range k).map (Q9ns f cs)).length + [z].length) * 48 ≤ 140737488355328) = true:=fun z=>decide_eq_true (by simp; omega)
  have nxt:=ih (k + 1) (by omega)
  rw [List.range_succ,List.map_append,List.map_cons,List.map_nil] at nxt
  have hm : max2A ((k : Int) - 1) 0 = ((k - 1 : Nat) : Int):=by unfold max2A; split <;> omega
  have i2 : inb ((k - 1 : Nat) : Int) cs.length = true:=by simp only [inb,Bool.and_eq_true,decide_eq_true_eq]; omega
  have mn : ∀ x y : Int,min2A x y = min x y:=fun x y=>by unfold min2A; split <;> omega
  have mx : ∀ x y : Int,max2A x y = max x y:=fun x y=>by unfold max2A; split <;> omega
  rw [hx,hdi,ek,hw,hw1,hm,hL,i1,i2,Int.toNat_natCast,mn,mx,w1,w2,w3,w4,hbs,hroom,decide_eq_true (by omega : (k : Int) < (cs.length : Int))]
  exact Sat.cut nxt
theorem Qc7q (ks : List Kind) (ps : List Point) (es : List Entry) (n : Str) (hg : (szB es && decide (es.length < 1000000000)) = true) : Qewq Tryz.prog CP Qwuz [.agg [.sl .kind ks,.sl .point ps,.sl .entry es],.str n] [] (pathV (pathF ks ps es n)) []:=by
 refine Qewq.of Qqun (by kernel_rfl) (Qzjm ks ps es n) ?_
 have hg2:=hg
 simp only [Bool.and_eq_true,decide_eq_true_eq] at hg
 have hz:=hg.1
 have no : ∀ c : Int,pathF ks ps es n = ⟨[],0,0,c⟩ → Sat Q8e3 Qwuz (pathV (pathF ks ps es n)) [] (some (.ret (.tup [.agg [.sl .step [],.int .i64 (0 : Int),.int .i64 (0 : Int)],.int .i64 c]) [])):=fun c h=>by
  rw [h]; exact Sat.ret rfl rfl
 rw [hz]
 cases hb : Qn0o ks ps es with
 | false=>exact no 1 (by simp [pathF,hb])
 | true =>
  cases hst : stB ks ps es n with
  | none=>exact no 2 (by simp [pathF,hb,hst])
  | some f =>
   obtain ⟨h0,h1,h2,h3,h4,h5,h6⟩:=fl_ok hst
   have hp16:=(Qrzz (Qg6k hb).1).2
   simp only [Option.getD_some,Option.isSome_some]
   rw [decide_eq_true (by omega : ps.length < 1000000000)]
   have hcase : Qqfy ks ps f.route = none ∨ ∃ cs,Qqfy ks ps f.route = some cs:=by cases Qqfy ks ps f.route <;> simp
   rcases hcase with hc | ⟨cs,hc⟩
   ·simp only [hc,Option.isSome_none]
    exact no 3 (by simp [pathF,hb,hst,hc])
   ·simp only [hc]
    have h40 : cs.length ≤ 40:=by
     unfold Qqfy at hc
     split at hc
     ·rename_i hx
      simp only [Option.some.injEq] at hc
      subst hc; exact hx.2.2
     ·cases hc
    simp only [Option.getD_some,Option.isSome_some]
    have pq : (cs.length : Int) * f.kind.quick ≤ 40 * 50 ∧ 0 ≤ (cs.length : Int) * f.kind.quick:=⟨Int.mul_le_mul (by omega) (by omega) (by omega) (by omega),Int.mul_nonneg (by omega) (by omega)⟩
    have ps2 : (cs.length : Int) * f.kind.slow ≤ 40 * 50 ∧ 0 ≤ (cs.length : Int) * f.kind.slow:=⟨Int.mul_le_mul (by omega) (by omega) (by omega) (by omega),Int.mul_nonneg (by omega) (by omega)⟩
    have w1 : IntKind.wrap .i64 ((cs.length : Int) * f.kind.quick) = (cs.length : Int) * f.kind.quick:=Qbrg (by omega) (by omega)
    have w2 : IntKind.wrap .i64 ((cs.length : Int) * f.kind.slow) = (cs.length : Int) * f.kind.slow:=Qbrg (by omega) (by omega)
    have w3 : IntKind.wrap .i64 (f.frm + (cs.length : Int) * f.kind.quick) = f.frm + (cs.length : Int) * f.kind.quick:=Qbrg (by omega) (by omega)
    have w4 : IntKind.wrap .i64 (f.by_ + (cs.length : Int) * f.kind.slow) = f.by_ + (cs.length : Int) * f.kind.slow:=Qbrg (by omega) (by omega)
    simp only [w1,w2,w3,w4]
    by_cases hl : f.by_ + (cs.length : Int) * f.kind.slow > 10000
    ·rw [decide_eq_true hl]
     exact no 4 (by simp only [pathF,hb,hst,hc,if_true]; rw [if_pos hl])
    ·rw [decide_eq_false hl]
     rw [show pathF ks ps es n = ⟨(List.range cs.length).map (Q9ns f cs),f.frm + cs.length * f.kind.quick,f.by_ + cs.length * f.kind.slow,0⟩ by simp only [pathF,hb,hst,hc,if_true]; rw [if_neg hl]]
     exact Sat.cut (Qtic f cs _ _ h40 h0 h1 h2 h3 h4 h5 h6 cs.length 0 (Nat.zero_add _))
theorem Q5y3 : EntOK Tryz.prog CP Qwuz Qrhz:=by
 refine ⟨⟨Tryz.f17,by kernel_rfl,by kernel_rfl,by kernel_rfl⟩,fun args H res H' h=>?_⟩
 simp only [Qrhz,Q4vh] at h
 split at h
 ·simp only [Option.some.injEq,Prod.mk.injEq] at h
  obtain ⟨hg,rfl,rfl⟩:=h
  exact Qc7q _ _ _ _ hg
 ·cases h
end Lx
namespace Lx
open Go Go.Proofs
end Lx
namespace Lx
open Go Go.Proofs
end Lx
namespace Lx
open Go Go.Proofs
end Lx
namespace Lx
open Go Go.Proofs
end Lx
namespace Lx
open Go Go.Proofs
end Lx
namespace Lx
open Go Go.Proofs
def adjC (a b : Cell) : Prop:=(-1 ≤ a.x - b.x ∧ a.x - b.x ≤ 1 ∧ -1 ≤ a.y - b.y ∧ a.y - b.y ≤ 1) ∧ (a.x - b.x ≠ 0 ∨ a.y - b.y ≠ 0)
theorem adjC.symm {a b : Cell} (h : adjC a b) : adjC b a:=by unfold adjC at *; omega
end Lx
namespace Lx
open Go Go.Proofs
end Lx
namespace Lx
open Go Go.Proofs
theorem Qomc {ks : List Kind} {ps : List Point} {es : List Entry} {n : Str} (hz : szB es = true) : ((stB ks ps es n).getD fl0).route.length ≤ 1000000001:=by
 cases h : stB ks ps es n with
 | none=>simp [fl0]
 | some f =>
  unfold stB at h
  split at h
  ·rename_i hc
   obtain ⟨hb,h0⟩:=hc
   have hm:=Qhwx h0
   simp only [szB,Bool.and_eq_true] at hz
   have hs:=Q46g (List.all_eq_true.1 hz.2 _ hm) 4
   generalize es.getD (entIx es n).toNat (dfltP .entry) = e at h hs
   unfold stE at h
   split at h
   ·cases h
   ·split at h
    ·cases h
    ·simp only [Option.some.injEq] at h
     subst h
     have:=Qtox 32 (valF e.fields 4)
     simp only [Option.getD_some]
     omega
  ·cases h
end Lx
namespace Lx
open Go Go.Proofs
def dW (fs : List Fld) (w : Int) : Int:=if valF fs w = [] then 0 else 1
theorem dW_01 (fs : List Fld) (w : Int) : 0 ≤ dW fs w ∧ dW fs w ≤ 1:=by
 unfold dW
 split <;> omega
theorem Qfnb {fs : List Fld} {w : Int} (h : ∀ f ∈ fs,f.what ≠ w) : valF fs w = []:=by
 rcases Qxu8 fs w with h1 | ⟨f,hf,hw,_⟩
 ·exact h1
 ·exact absurd hw (h f hf)
theorem Qfpe (f : Fld) (l : List Fld) : valF (f :: l) f.what = f.value:=by
 rw [Qxcg,beq_self_eq_true]; rfl
theorem Qaad {f : Fld} {l : List Fld} {w : Int} (h : f.what ≠ w) : valF (f :: l) w = valF l w:=by
 rw [Qxcg,beq_eq_false_iff_ne.2 h]; rfl
theorem ws_eq : ∀ (fs : List Fld) (n : Int),fs.Pairwise (fun a b=>a.what < b.what) → (∀ f ∈ fs,1 ≤ f.what ∧ f.what ≤ 5 ∧ (f.what ≤ 4 → f.value ≠ [])) → wsGo n fs = (!decide (valF fs 5 = Qupw) && (n + dW fs 1 + dW fs 2 + dW fs 3 + dW fs 4 == 4))
 | [],n,_,_=>by
  have e : ∀ w,valF ([] : List Fld) w = []:=fun w=>rfl
  have d : ∀ w,dW ([] : List Fld) w = 0:=fun w=>if_pos (e w)
  rw [wsGo,e,d,d,d,d,decide_eq_false (show ¬ ([] : Str) = Qupw by simp [Qupw]),Int.add_zero,Int.add_zero,Int.add_zero,Int.add_zero]
  rfl
 | f :: l,n,hs,hf=>by
  rw [List.pairwise_cons] at hs
  obtain ⟨h1,h5,hv⟩:=hf f (List.mem_cons_self ..)
  have ih:=fun m=>ws_eq l m hs.2 (fun g hg=>hf g (List.mem_cons_of_mem _ hg))
  have ho : ∀ w,f.what ≠ w → valF (f :: l) w = valF l w:=fun w h=>Qaad h
  have hd : ∀ w,f.what ≠ w → dW (f :: l) w = dW l w:=fun w h=>by rw [dW,ho w h,dW]
  have hn : valF l f.what = []:=Qfnb (fun g hg e=>by have:=hs.1 g hg; omega)
  have hh:=Qfpe f l
  have h0 : dW l f.what = 0:=if_pos hn
  rw [wsGo]
  by_cases h : f.what < 5
  ·rw [if_pos h,ih]
   have hne:=hv (by omega)
   have hw : f.what = 1 ∨ f.what = 2 ∨ f.what = 3 ∨ f.what = 4:=by omega
   have h2 : dW (f :: l) f.what = 1:=by rw [dW,hh,if_neg hne]
   have hsum : n + 1 + dW l 1 + dW l 2 + dW l 3 + dW l 4 = n + dW (f :: l) 1 + dW (f :: l) 2 + dW (f :: l) 3 + dW (f :: l) 4:=by
    rcases hw with e | e | e | e
    ·rw [hd 2 (by omega),hd 3 (by omega),hd 4 (by omega)]; rw [e] at h0 h2; omega
    ·rw [hd 1 (by omega),hd 3 (by omega),hd 4 (by omega)]; rw [e] at h0 h2; omega
    ·rw [hd 1 (by omega),hd 2 (by omega),hd 4 (by omega)]; rw [e] at h0 h2; omega
    ·rw [hd 1 (by omega),hd 2 (by omega),hd 3 (by omega)]; rw [e] at h0 h2; omega
   rw [ho 5 (by omega),hsum]
  ·have e : f.what = 5:=by omega
   rw [if_neg h,hd 1 (by omega),hd 2 (by omega),hd 3 (by omega),hd 4 (by omega)]
   rw [e] at hh hn
   rw [hh]
   by_cases hc : f.value = Qupw
   ·rw [if_pos hc,decide_eq_true hc]; rfl
   ·rw [if_neg hc,ih,decide_eq_false hc,hn,decide_eq_false (show ¬ ([] : Str) = Qupw by simp [Qupw])]
theorem st_ws {ks : List Kind} {ps : List Point} {e : Entry} (hb : Qib4 ks ps = true) (h : Q7i7 ks ps e = true) (hs : e.fields.Pairwise (fun a b=>a.what < b.what)) : wsGo 0 e.fields = (stE ks e).isSome:=by
 have hok:=h
 simp only [Q7i7,Bool.and_eq_true] at hok
 have hf : ∀ f ∈ e.fields,1 ≤ f.what ∧ f.what ≤ 5 ∧ (f.what ≤ 4 → f.value ≠ []):=fun f hf=>by
  have hfit:=Qx66 hok.2.2 f hf
  have hr : f.what = 1 ∨ f.what = 2 ∨ f.what = 3 ∨ f.what = 4 ∨ f.what = 5:=by
   have:=Q3ut hfit
   omega
  refine ⟨by omega,by omega,fun h4 hv=>?_⟩
  rw [hv,Qi3r hb (w:=f.what) (by omega)] at hfit
  cases hfit
 rw [ws_eq _ 0 hs hf,stE]
 have b1:=dW_01 e.fields 1
 have b2:=dW_01 e.fields 2
 have b3:=dW_01 e.fields 3
 have b4:=dW_01 e.fields 4
 split
 ·rename_i hv
  have : ¬ 0 + dW e.fields 1 + dW e.fields 2 + dW e.fields 3 + dW e.fields 4 = 4:=by
   rcases hv with hv | hv | hv | hv
   ·have : dW e.fields 1 = 0:=if_pos hv
    omega
   ·have : dW e.fields 2 = 0:=if_pos hv
    omega
   ·have : dW e.fields 3 = 0:=if_pos hv
    omega
   ·have : dW e.fields 4 = 0:=if_pos hv
    omega
  rw [beq_eq_false_iff_ne.2 this,Bool.and_false]; rfl
 ·rename_i hv
  have a1 : dW e.fields 1 = 1:=if_neg (fun h=>hv (.inl h))
  have a2 : dW e.fields 2 = 1:=if_neg (fun h=>hv (.inr (.inl h)))
  have a3 : dW e.fields 3 = 1:=if_neg (fun h=>hv (.inr (.inr (.inl h))))
  have a4 : dW e.fields 4 = 1:=if_neg (fun h=>hv (.inr (.inr (.inr h))))
  rw [a1,a2,a3,a4]
  by_cases hc : valF e.fields 5 = Qupw
  ·rw [if_pos hc,decide_eq_true hc]; rfl
  ·rw [if_neg hc,decide_eq_false hc]; rfl
theorem Qsxg {es : List Entry} (h : Qurt es) {i : Nat} (hi : i < es.length) : entIx es es[i].name = (i : Int):=by
 refine Qjgx (x:=es[i]) (List.getElem?_eq_getElem hi) (beq_self_eq_true _) (fun k hk y hy=>?_)
 obtain ⟨hlt,rfl⟩:=List.getElem?_eq_some_iff.1 hy
 have hp:=List.pairwise_iff_getElem.1 h k i hlt hi hk
 refine beq_eq_false_iff_ne.2 (fun e=>?_)
 rw [e,Qqw5] at hp
 cases hp
theorem Qn9i {ks : List Kind} {ps : List Point} {es : List Entry} (hb : Qn0o ks ps es = true) {i : Nat} (hi : i < es.length) : (stB ks ps es es[i].name).isSome = wsGo 0 es[i].fields:=by
 have hs:=Qwk3 hb
 have hx:=Qsxg hs.1 hi
 obtain ⟨hbase,_,hall⟩:=Qg6k hb
 have hm:=List.getElem_mem hi
 rw [stB,if_pos ⟨hb,by omega⟩,hx,Int.toNat_natCast,List.getD_eq_getElem?_getD,List.getElem?_eq_getElem hi,Option.getD_some]
 exact (st_ws hbase (hall _ hm) (hs.2 _ hm).1).symm
theorem Qadn {ks : List Kind} {ps : List Point} {es : List Entry} (hb : Qn0o ks ps es = true) (n : Str) : ((pathF ks ps es n).code == 2) = !(stB ks ps es n).isSome:=by
 unfold pathF
 rw [if_pos hb]
 cases stB ks ps es n with
 | none=>rfl
 | some f =>
  simp only
  cases Qqfy ks ps f.route with
  | none=>rfl
  | some cs =>
   simp only
   split <;> rfl
theorem Qoxn (ks : List Kind) (ps : List Point) (es a b : List Entry) : allF ks ps es (a ++ b) = allF ks ps es a ++ allF ks ps es b:=List.filterMap_append ..
theorem Qlx7 (l : List Chg) (c : Chg) : dbl (l ++ [c]) = dbl l ++ [c,c]:=by
 rw [dbl,List.flatMap_append]; rfl
theorem Qr50 {p : Chg → Bool} {l : List Chg} (h : l.all p = true) : (dbl l).all p = true:=by
 rw [List.all_eq_true] at h ⊢
 intro c hc
 obtain ⟨d,hd,hc⟩:=List.mem_flatMap.1 hc
 simp only [List.mem_cons,List.not_mem_nil,or_false,or_self] at hc
 exact hc ▸ h d hd
theorem Qdvo : ∀ l : List Chg,(dbl l).length = 2 * l.length
 | []=>rfl
 | c :: l=>by
  have e : dbl (c :: l) = c :: c :: dbl l:=rfl
  rw [e]; simp only [List.length_cons,Qdvo l]; omega
end Lx
namespace Lx
open Go Go.Proofs
noncomputable def Qcsu : RE Ty El:=⟨Tryz.prog,CP,[(Qr6y,Qsrq),(Qt0f,Q1df),(Qlb4,Q7a1),(Q5ho,Qz24),(Qscj,Q2m5),(Qaev,Qjv4),(Qdfk,Q124),(Qfp7,Qvex),(Q4t8,Qxe2),(Qwuz,Qrhz),(Qtik,Qwu1),(Qsoo,Q7nz)],Tryz.f11,0,[],[(12,[(3,.any),(4,.any),(5,.any),(6,.any),(9,.any),(10,.any)]),(17,[(5,.any),(6,.any),(11,.any),(13,.any)]),(26,[(5,.any),(14,.any),(15,.any),(16,.any)]),(23,[(5,.box [.ro .kind,.ro .point,.ro .entry])])]⟩
theorem Qmnq : REOK Qcsu Qsxz:=⟨CP_ok,(TabOK.cons Q9p5 (TabOK.cons Qtar (TabOK.cons Qjh9 (TabOK.cons Qxl3 (TabOK.cons Qygd (TabOK.cons Qwza (TabOK.cons Q8cq (TabOK.cons Qg96 (TabOK.cons Qcwe (TabOK.cons Q5y3 (TabOK.cons Qmcf (TabOK.cons Qqb0 Qye1)))))))))))),by kernel_rfl,by kernel_rfl⟩
theorem Qdq8 (c : List Int) : aRun Qcsu 600 false (body0 Qcsu.fn) (Q4gm Qcsu.fn [.sl .u8 c] []) =
 ifb (decide ((↑c.length : Int) > (1048576 : Int))) (some (.ret (.bool true) [])) (ifb (Qf9o c) (ifb (goodB (Qzux c).ks (Qzux c).ps (Qzux c).es && Q7ga (Qzux c).l) (ifb (goodB (Qzux c).ks (Qzux c).ps (Qzux c).es && Q7ga (Qzux c).l) (ifb (Q2xe (Q0ew (Qzux c).ks (Qzux c).ps (Qzux c).es (Qzux c).l).ks (Q0ew (Qzux c).ks (Qzux c).ps (Qzux c).es (Qzux c).l).ks (Q0ew (Qzux c).ks (Qzux c).ps (Qzux c).es (Qzux c).l).ps (Q0ew (Qzux c).ks (Qzux c).ps (Qzux c).es (Qzux c).l).ps (Q0ew (Qzux c).ks (Qzux c).ps (Qzux c).es (Qzux c).l).es (Q0ew (Qzux c).ks (Qzux c).ps (Qzux c).es (Qzux c).l).es) (ifb (decide ((Q0ew (Qzux c).ks (Qzux c).ps (Qzux c).es (Qzux c).l).cs.length ≤ (1000000000 : Nat)) && decide ((Q0ew (Qzux c).ks (Qzux c).ps (Qzux c).es (Qzux c).l).cs = (Q0ew (Qzux c).ks (Qzux c).ps (Qzux c).es (Qzux c).l).cs)) (ifb (szB (Qzux c).es) (ifb (!Qn0o (Qzux c).ks (Qzux c).ps (Qzux c).es) (some (.ret (.bool ((↑(Q0ew (Qzux c).ks (Qzux c).ps (Qzux c).es (Qzux c).l).cs.length : Int) == (0 : Int))) [])) (some (.go (Qu6t Qcsu.fn 12) [.ptr 0 0,.sl .chg ((Qzux c).l),.ptr 1 0,.own 5 [] 0,.own 6 [] 0,.int .i64 (IntKind.i64.wrap ((↑(Qzux c).l.length : Int) - (1 : Int)))] [.box [.sl .kind ((Qzux c).ks),.sl .point ((Qzux c).ps),.sl .entry ((Qzux c).es)],.box [.own 2 [] 0,.own 3 [] 0,.own 4 [] 0],.row .kind ((Q0ew (Qzux c).ks (Qzux c).ps (Qzux c).es (Qzux c).l).ks) 0 0 0 .no,.row .point ((Q0ew (Qzux c).ks (Qzux c).ps (Qzux c).es (Qzux c).l).ps) 0 0 0 .no,.row .entry ((Q0ew (Qzux c).ks (Qzux c).ps (Qzux c).es (Qzux c).l).es) 1 0 0 .no,.row .int ((Q0ew (Qzux c).ks (Qzux c).ps (Qzux c).es (Qzux c).l).cs) 0 0 0 .no,.row .chg [] 0 0 0 .no]))) (none)) (none)) (none)) (none)) (none)) (none)):=by kernel_rfl
theorem Qonq (x0 : List (El .chg)) (x1 : Int) (x2 : List (El .kind)) (x3 : List (El .point)) (x4 : List (El .entry)) (x5 : List (El .kind)) (x6 : List (El .point)) (x7 : List (El .entry)) (x8 : List (El .int)) (x9 : List (El .chg)) : aRun Qcsu 600 true (Qu6t Qcsu.fn 12) (cutSt Qcsu.fn (Q1m4 Qcsu (Qu6t Qcsu.fn 12)) [.ptr 0 0,.sl .chg x0,.ptr 1 0,.own 5 [] 0,.own 6 [] 0,.int .i64 x1] [.box [.sl .kind x2,.sl .point x3,.sl .entry x4],.box [.own 2 [] 0,.own 3 [] 0,.own 4 [] 0],.row .kind x5 0 0 0 .no,.row .point x6 0 0 0 .no,.row .entry x7 1 0 0 .no,.row .int x8 0 0 0 .no,.row .chg x9 0 0 0 .no]) =
 ifb (decide (x1 ≥ (0 : Int))) (ifb (inb x1 x0.length) (ifb (inb x1 x0.length) (ifb (decide ((x9.length + [x0.getD x1.toNat (Qcsu.C.dflt Ty.chg),x0.getD x1.toNat (Qcsu.C.dflt Ty.chg)].length) * Qbhn Qcsu.P (51 : Nat) ≤ (140737488355328 : Nat))) (some (.go (Qu6t Qcsu.fn 12) [.ptr 0 0,.sl .chg x0,.ptr 1 0,.own 5 [] 0,.own 6 [] 0,.int .i64 (IntKind.i64.wrap (x1 - (1 : Int)))] [.box [.sl .kind x2,.sl .point x3,.sl .entry x4],.box [.own 2 [] 0,.own 3 [] 0,.own 4 [] 0],.row .kind x5 0 0 0 .no,.row .point x6 0 0 0 .no,.row .entry x7 1 0 0 .no,.row .int x8 0 0 0 .no,.row .chg (x9 ++ [x0.getD x1.toNat (Qcsu.C.dflt Ty.chg),x0.getD x1.toNat (Qcsu.C.dflt Ty.chg)]) 0 0 0 .no])) (none)) (none)) (none)) (ifb (goodB x2 x3 x4 && Q7ga x9) (some (.go (Qu6t Qcsu.fn 17) [.ptr 0 0,.own 4 [] 0,.ptr 5 0,.int .i64 (0 : Int)] [.box [.own 1 [] 0,.own 2 [] 0,.own 3 [] 0],.row .kind x5 0 0 0 .no,.row .point x6 0 0 0 .no,.row .entry x7 1 0 0 .no,.row .int x8 0 0 0 .no,.box [.own 6 [] 0,.own 7 [] 0,.own 8 [] 0],.row .kind ((Q0ew x2 x3 x4 x9).ks) 0 0 0 .no,.row .point ((Q0ew x2 x3 x4 x9).ps) 0 0 0 .no,.row .entry ((Q0ew x2 x3 x4 x9).es) 1 0 0 .no])) (none)):=by kernel_rfl
theorem Qbzw (x0 : Int) (x1 : List (El .kind)) (x2 : List (El .point)) (x3 : List (El .entry)) (x4 : List (El .int)) (x5 : List (El .kind)) (x6 : List (El .point)) (x7 : List (El .entry)) : aRun Qcsu 600 true (Qu6t Qcsu.fn 17) (cutSt Qcsu.fn (Q1m4 Qcsu (Qu6t Qcsu.fn 17)) [.ptr 0 0,.own 4 [] 0,.ptr 5 0,.int .i64 x0] [.box [.own 1 [] 0,.own 2 [] 0,.own 3 [] 0],.row .kind x1 0 0 0 .no,.row .point x2 0 0 0 .no,.row .entry x3 1 0 0 .no,.row .int x4 0 0 0 .no,.box [.own 6 [] 0,.own 7 [] 0,.own 8 [] 0],.row .kind x5 0 0 0 .no,.row .point x6 0 0 0 .no,.row .entry x7 1 0 0 .no]) =
 ifb (decide (x0 < (↑x4.length : Int))) (ifb (inb x0 x4.length) (ifb (x4.getD x0.toNat (Qcsu.C.dflt Ty.int) == (3 : Int)) (ifb (szB x3) (some (.ret (.bool (Qn0o x1 x2 x3)) [])) (none)) (some (.go (Qu6t Qcsu.fn 17) [.ptr 0 0,.own 4 [] 0,.ptr 5 0,.int .i64 (IntKind.i64.wrap (x0 + (1 : Int)))] [.box [.own 1 [] 0,.own 2 [] 0,.own 3 [] 0],.row .kind x1 0 0 0 .no,.row .point x2 0 0 0 .no,.row .entry x3 1 0 0 .no,.row .int x4 0 0 0 .no,.box [.own 6 [] 0,.own 7 [] 0,.own 8 [] 0],.row .kind x5 0 0 0 .no,.row .point x6 0 0 0 .no,.row .entry x7 1 0 0 .no]))) (none)) (ifb (Q2xe x1 x5 x2 x6 x3 x7) (ifb (szB x3) (ifb (!Qn0o x1 x2 x3) (some (.ret (.bool false) [])) (some (.go (Qu6t Qcsu.fn 23) [.ptr 0 0] [.box [.sl .kind x1,.sl .point x2,.sl .entry x3]]))) (none)) (none)):=by kernel_rfl
theorem Qtsd (x0 : List (El .kind)) (x1 : List (El .point)) (x2 : List (El .entry)) : aRun Qcsu 600 true (Qu6t Qcsu.fn 23) (cutSt Qcsu.fn (Q1m4 Qcsu (Qu6t Qcsu.fn 23)) [.ptr 0 0] [.box [.sl .kind x0,.sl .point x1,.sl .entry x2]]) =
 ifb (szB x2 && (decide (x2.length < (1000000000 : Nat)) && Qn0o x0 x1 x2)) (some (.go (Qu6t Qcsu.fn 26) [.ptr 0 0,.sl .flight (allF x0 x1 x2 x2),.int .i64 (0 : Int),.int .i64 (0 : Int)] [.box [.sl .kind x0,.sl .point x1,.sl .entry x2]])) (none):=by kernel_rfl
theorem Quu7 (x0 : List (El .flight)) (x1 : Int) (x2 : Int) (x3 : List (El .kind)) (x4 : List (El .point)) (x5 : List (El .entry)) : aRun Qcsu 600 true (Qu6t Qcsu.fn 26) (cutSt Qcsu.fn (Q1m4 Qcsu (Qu6t Qcsu.fn 26)) [.ptr 0 0,.sl .flight x0,.int .i64 x1,.int .i64 x2] [.box [.sl .kind x3,.sl .point x4,.sl .entry x5]]) =
 ifb (decide (x2 < (↑x5.length : Int))) (ifb (inb x2 x5.length) (ifb (szB x5 && decide (x5.length < (1000000000 : Nat))) (ifb (inb x2 x5.length) (ifb (szB x5 && decide (x5.length < (1000000000 : Nat))) (ifb (inb x2 x5.length) (ifb (Qckx (x5.getD x2.toNat (Qcsu.C.dflt Ty.entry)).fields) (ifb (!(stB x3 x4 x5 (x5.getD x2.toNat (Qcsu.C.dflt Ty.entry)).name).isSome == wsGo (0 : Int) (x5.getD x2.toNat (Qcsu.C.dflt Ty.entry)).fields) (some (.ret (.bool false) [])) (ifb ((stB x3 x4 x5 (x5.getD x2.toNat (Qcsu.C.dflt Ty.entry)).name).isSome == ((pathF x3 x4 x5 (x5.getD x2.toNat (Qcsu.C.dflt Ty.entry)).name).code == (2 : Int))) (some (.ret (.bool false) [])) (ifb ((stB x3 x4 x5 (x5.getD x2.toNat (Qcsu.C.dflt Ty.entry)).name).isSome) (ifb (inb x1 x0.length) (ifb (decide (((stB x3 x4 x5 (x5.getD x2.toNat (Qcsu.C.dflt Ty.entry)).name).getD fl0).route.length ≤ (2000000000 : Nat)) && decide ((stB x3 x4 x5 (x5.getD x2.toNat (Qcsu.C.dflt Ty.entry)).name).getD fl0 = x0.getD x1.toNat (Qcsu.C.dflt Ty.flight))) (ifb ((stB x3 x4 x5 (x5.getD x2.toNat (Qcsu.C.dflt Ty.entry)).name).isSome) (some (.go (Qu6t Qcsu.fn 26) [.ptr 0 0,.sl .flight x0,.int .i64 (IntKind.i64.wrap (x1 + (1 : Int))),.int .i64 (IntKind.i64.wrap (x2 + (1 : Int)))] [.box [.sl .kind x3,.sl .point x4,.sl .entry x5]])) (some (.go (Qu6t Qcsu.fn 26) [.ptr 0 0,.sl .flight x0,.int .i64 x1,.int .i64 (IntKind.i64.wrap (x2 + (1 : Int)))] [.box [.sl .kind x3,.sl .point x4,.sl .entry x5]]))) (none)) (none)) (ifb ((stB x3 x4 x5 (x5.getD x2.toNat (Qcsu.C.dflt Ty.entry)).name).isSome) (some (.go (Qu6t Qcsu.fn 26) [.ptr 0 0,.sl .flight x0,.int .i64 (IntKind.i64.wrap (x1 + (1 : Int))),.int .i64 (IntKind.i64.wrap (x2 + (1 : Int)))] [.box [.sl .kind x3,.sl .point x4,.sl .entry x5]])) (some (.go (Qu6t Qcsu.fn 26) [.ptr 0 0,.sl .flight x0,.int .i64 x1,.int .i64 (IntKind.i64.wrap (x2 + (1 : Int)))] [.box [.sl .kind x3,.sl .point x4,.sl .entry x5]])))))) (none)) (none)) (none)) (none)) (none)) (none)) (some (.ret (.bool (x1 == (↑x0.length : Int))) [])):=by kernel_rfl
theorem Qdsw {ks : List Kind} {ps : List Point} {es : List Entry} (h : goodB ks ps es = true) : Q2xe ks ks ps ps es es = true:=by
 simp only [goodB,Q8cx,Q6lz,Qjyp,Bool.and_eq_true,decide_eq_true_eq,and_true] at h
 simp only [Q2xe,sameK,Bool.and_eq_true,decide_eq_true_eq,and_true]
 exact ⟨⟨h.2.1,h.2.2.1⟩,h.2.2.2⟩
theorem Q6jz (ks : List Kind) (ps : List Point) (xs : List Entry) (hb : Qn0o ks ps xs = true) (hz : szB xs = true) (ht : Qnwa xs = true) : ∀ (d i : Nat),i + d = xs.length → Cut Qcsu Qsxz 26 [.ptr 0 0,.sl .flight (allF ks ps xs xs),.int .i64 ((allF ks ps xs (xs.take i)).length : Int),.int .i64 (i : Int)] [.box [.sl .kind ks,.sl .point ps,.sl .entry xs]] (.bool true) []:=by
 have h12:=(Qm34 hb).1
 have hz2 : (szB xs && decide (xs.length < (1000000000 : Nat))) = true:=by rw [hz,decide_eq_true (by omega)]; rfl
 intro d
 induction d with
 | zero =>
  intro i hi
  refine Cut.of Qmnq rfl (Quu7 _ _ i ks ps xs) ?_
  rw [show decide ((i : Int) < (xs.length : Int)) = false from decide_eq_false (by omega),List.take_of_length_le (by omega),beq_self_eq_true]
  exact Sat.ret rfl rfl
 | succ d ih =>
  intro i hi
  refine Cut.of Qmnq rfl (Quu7 _ _ i ks ps xs) ?_
  have hlt : i < xs.length:=by omega
  have hw : IntKind.wrap .i64 ((i : Int) + 1) = ((i + 1 : Nat) : Int):=by rw [Qbrg] <;> omega
  have hw1 : IntKind.wrap .i64 ((i : Int) - 1) = (i : Int) - 1:=by rw [Qbrg] <;> omega
  have hd : xs.drop i = xs[i] :: xs.drop (i + 1):=List.drop_eq_getElem_cons hlt
  have hx : xs.getD (i : Int).toNat (Qcsu.C.dflt .entry) = xs[i]:=by simp [hlt]
  have hin : inb (i : Int) xs.length = true:=by simp only [inb,Bool.and_eq_true,decide_eq_true_eq]; omega
  have hlo : decide ((i : Int) < (xs.length : Int)) = true:=decide_eq_true (by omega)
  have htk:=List.take_succ_eq_append_getElem hlt
  have hl : (xs.take (i + 1)).getLast? = some xs[i]:=by rw [List.take_succ_eq_append_getElem hlt,List.getLast?_concat]
  have hst:=Qn9i hb hlt
  have hpc:=Qadn hb xs[i].name
  have hfl : Qckx xs[i].fields = true:=by
   simp only [Qnwa,Bool.and_eq_true] at ht
   have:=List.all_eq_true.1 ht.2 xs[i] (List.getElem_mem hlt)
   simpa only [Qytc,Bool.and_true] using this
  have hrl:=Qomc (ks:=ks) (ps:=ps) (n:=xs[i].name) hz
  have hpart : allF ks ps xs xs = allF ks ps xs (xs.take i) ++ allF ks ps xs (xs.drop i):=by rw [← Qoxn,List.take_append_drop]
  have hlen : (allF ks ps xs (xs.take i)).length ≤ 12:=Nat.le_trans (List.length_filterMap_le ..) (by rw [List.length_take]; omega)
  have nx:=ih (i + 1) (by omega)
  rw [htk,Qoxn] at nx
  rw [hlo,hin,hx,hw,hz2,hfl,hpc,← hst]
  rw [hd] at hpart
  cases hs : stB ks ps xs xs[i].name with
  | none =>
   have e : allF ks ps xs [xs[i]] = []:=List.filterMap_cons_none hs
   rw [e,List.append_nil] at nx
   exact Sat.cut nx
  | some f =>
   have e : allF ks ps xs [xs[i]] = [f]:=List.filterMap_cons_some hs
   have e2 : allF ks ps xs (xs[i] :: xs.drop (i + 1)) = f :: allF ks ps xs (xs.drop (i + 1)):=List.filterMap_cons_some hs
   rw [e2] at hpart
   rw [e,List.length_append,List.length_singleton] at nx
   have hlt3 : (allF ks ps xs (xs.take i)).length < (allF ks ps xs xs).length:=by rw [hpart]; simp
   have hin3 : inb ((allF ks ps xs (xs.take i)).length : Int) (allF ks ps xs xs).length = true:=by simp only [inb,Bool.and_eq_true,decide_eq_true_eq]; omega
   have hx3 : (allF ks ps xs xs).getD ((allF ks ps xs (xs.take i)).length : Int).toNat (Qcsu.C.dflt .flight) = f:=by
    rw [hpart,Int.toNat_natCast,List.getD_eq_getElem?_getD,List.getElem?_append_right (Nat.le_refl _),Nat.sub_self]; rfl
   have hw3 : IntKind.wrap .i64 (((allF ks ps xs (xs.take i)).length : Int) + 1) = (((allF ks ps xs (xs.take i)).length + 1 : Nat) : Int):=by rw [Qbrg] <;> omega
   rw [hs,Option.getD_some] at hrl
   have hr2 : decide (f.route.length ≤ (2000000000 : Nat)) = true:=decide_eq_true (by omega)
   rw [hin3,hx3,hw3]
   simp only [Option.isSome_some,Option.getD_some,beq_self_eq_true,Bool.not_true,Qd8q,Qk7y,hr2,decide_true,Bool.and_self]
   exact Sat.cut nx
theorem Q9mv (ks : List Kind) (ps : List Point) (xs ys : List Entry) (cs : List Int) (hl : cs.length ≤ 24) (hg : goodE ks ps xs = true) (hy : (∀ k ∈ cs,k ≠ 3) → ys = xs) : ∀ (d i : Nat),i + d = cs.length → (∀ k ∈ cs.take i,k ≠ 3) → Cut Qcsu Qsxz 17 [.ptr 0 0,.own 4 [] 0,.ptr 5 0,.int .i64 (i : Int)] [.box [.own 1 [] 0,.own 2 [] 0,.own 3 [] 0],.row .kind ks 0 0 0 .no,.row .point ps 0 0 0 .no,.row .entry xs 1 0 0 .no,.row .int cs 0 0 0 .no,.box [.own 6 [] 0,.own 7 [] 0,.own 8 [] 0],.row .kind ks 0 0 0 .no,.row .point ps 0 0 0 .no,.row .entry ys 1 0 0 .no] (.bool true) []:=by
 simp only [goodE,Bool.and_eq_true] at hg
 obtain ⟨hb,hg⟩:=hg
 have hsm:=Qdsw hg
 simp only [goodB,Bool.and_eq_true] at hg
 obtain ⟨hz,ht⟩:=hg
 intro d
 induction d with
 | zero =>
  intro i hi h3
  refine Cut.of Qmnq rfl (Qbzw i ks ps xs cs ks ps ys) ?_
  rw [List.take_of_length_le (by omega)] at h3
  rw [show decide ((i : Int) < (cs.length : Int)) = false from decide_eq_false (by omega),hy h3,hsm,hz,hb]
  simp only [Qd8q,Qk7y,Bool.not_true]
  refine Sat.cut (Cut.of Qmnq rfl (Qtsd ks ps xs) ?_)
  have h12:=(Qm34 hb).1
  rw [hz,hb,decide_eq_true (show xs.length < 1000000000 by omega)]
  have tx : Qnwa xs = true:=by
   simp only [Q8cx,Bool.and_eq_true,and_true] at ht
   exact ht.2.2
  exact Sat.cut (Q6jz ks ps xs hb hz tx xs.length 0 (by omega))
 | succ d ih =>
  intro i hi h3
  refine Cut.of Qmnq rfl (Qbzw i ks ps xs cs ks ps ys) ?_
  have hlt : i < cs.length:=by omega
  have hw : IntKind.wrap .i64 ((i : Int) + 1) = ((i + 1 : Nat) : Int):=by rw [Qbrg] <;> omega
  have hw1 : IntKind.wrap .i64 ((i : Int) - 1) = (i : Int) - 1:=by rw [Qbrg] <;> omega
  have hd : cs.drop i = cs[i] :: cs.drop (i + 1):=List.drop_eq_getElem_cons hlt
  have hx : cs.getD (i : Int).toNat (Qcsu.C.dflt .int) = cs[i]:=by simp [hlt]
  have hin : inb (i : Int) cs.length = true:=by simp only [inb,Bool.and_eq_true,decide_eq_true_eq]; omega
  have hlo : decide ((i : Int) < (cs.length : Int)) = true:=decide_eq_true (by omega)
  have htk:=List.take_succ_eq_append_getElem hlt
  have hl : (cs.take (i + 1)).getLast? = some cs[i]:=by rw [List.take_succ_eq_append_getElem hlt,List.getLast?_concat]
  rw [hlo,hin,hx,hw,hz,hb]
  simp only [Qd8q]
  refine Sat.ifb (fun _=>Sat.ret rfl rfl) (fun h=>?_)
  refine Sat.cut (ih (i + 1) (by omega) (fun k hk=>?_))
  rw [htk] at hk
  rcases List.mem_append.1 hk with hk | hk
  ·exact h3 k hk
  ·rw [List.mem_singleton.1 hk]
   exact beq_eq_false_iff_ne.1 h
theorem Q30w (ks : List Kind) (ps : List Point) (es xs : List Entry) (l : List Chg) (cs : List Int) (h24 : l.length ≤ 24) (hl : cs.length ≤ 24) (hg0 : goodE ks ps es = true) (hv : (l.all fun c=>szV c.value) = true) (hg : goodE ks ps xs = true) (hxs : xs = (tkGo ks ps es l).1) (hcs : cs = (tkGo ks ps es l).2) : ∀ j : Nat,j ≤ l.length → Cut Qcsu Qsxz 12 [.ptr 0 0,.sl .chg l,.ptr 1 0,.own 5 [] 0,.own 6 [] 0,.int .i64 ((j : Int) - 1)] [.box [.sl .kind ks,.sl .point ps,.sl .entry es],.box [.own 2 [] 0,.own 3 [] 0,.own 4 [] 0],.row .kind ks 0 0 0 .no,.row .point ps 0 0 0 .no,.row .entry xs 1 0 0 .no,.row .int cs 0 0 0 .no,.row .chg (dbl (l.drop j).reverse) 0 0 0 .no] (.bool true) []:=by
 have hbb : Qbhn Qcsu.P 51 ≤ 256:=of_decide_eq_true (by kernel_rfl)
 intro j
 induction j with
 | zero =>
  intro hj
  refine Cut.of Qmnq rfl (Qonq l _ ks ps es ks ps xs cs _) ?_
  rw [show decide (((0 : Nat) : Int) - 1 ≥ 0) = false from rfl,List.drop_zero]
  have hg0':=hg0
  simp only [goodE,Bool.and_eq_true] at hg0'
  have hc : Q7ga (dbl l.reverse) = true:=by
   simp only [Q7ga,Bool.and_eq_true,decide_eq_true_eq]
   exact ⟨by rw [Qdvo,List.length_reverse]; omega,Qr50 (by rw [List.all_reverse]; exact hv)⟩
  rw [hg0'.2,hc,Q0ew,if_pos hg0'.1]
  refine Sat.cut (Q9mv ks ps xs _ cs hl hg (fun h3=>?_) cs.length 0 (by omega) (by simp))
  rw [hxs]
  exact Qlqn hg0'.1 (hcs ▸ h3)
 | succ j ih =>
  intro hj
  refine Cut.of Qmnq rfl (Qonq l _ ks ps es ks ps xs cs _) ?_
  have e0 : ((j + 1 : Nat) : Int) - 1 = (j : Int):=by omega
  have hlt : j < l.length:=by omega
  have hin : inb (j : Int) l.length = true:=by simp only [inb,Bool.and_eq_true,decide_eq_true_eq]; omega
  have hw : IntKind.wrap .i64 ((j : Int) - 1) = (j : Int) - 1:=by rw [Qbrg] <;> omega
  have hx : l.getD (j : Int).toNat (Qcsu.C.dflt .chg) = l[j]:=by simp [hlt]
  have hn : (dbl (l.drop (j + 1)).reverse).length ≤ 48:=by rw [Qdvo,List.length_reverse,List.length_drop]; omega
  have nx:=ih (by omega)
  rw [List.drop_eq_getElem_cons hlt,List.reverse_cons,Qlx7] at nx
  rw [e0,show decide ((j : Int) ≥ 0) = true from decide_eq_true (by omega),hin,hw,hx,Q1mk hbb (by simp only [List.length_cons,List.length_nil]; omega)]
  exact Sat.cut nx
theorem Q7iw (c : List Int) (hg : Qf9o c = true) : Qewq Tryz.prog CP Qsxz [.sl .u8 c] [] (.bool true) []:=by
 refine Qewq.of Qmnq (by kernel_rfl) (Qdq8 c) ?_
 have yes : Sat Qcsu Qsxz (.bool true) [] (some (.ret (.bool true) [])):=Sat.ret rfl rfl
 refine Sat.ifb (fun _=>yes) (fun _=>?_)
 obtain ⟨gb,gl,gv⟩:=(Qs6v c hg).2
 rw [hg]
 generalize Qzux c = z at gb gl gv ⊢
 simp only [goodS,Bool.and_eq_true,decide_eq_true_eq] at gb
 obtain ⟨gb,_,_,h9,_⟩:=gb
 have gb2:=gb
 simp only [goodB,Bool.and_eq_true] at gb2
 obtain ⟨hz,ht⟩:=gb2
 have hc : Q7ga z.l = true:=by
  simp only [Q7ga,Bool.and_eq_true,decide_eq_true_eq]
  exact ⟨by omega,gv⟩
 cases hb : Qn0o z.ks z.ps z.es with
 | false =>
  have e : Q0ew z.ks z.ps z.es z.l = ⟨[],[],[],[]⟩:=by rw [Q0ew,if_neg (by simp [hb])]
  rw [e,gb,hc,hz,show Q2xe [] [] [] [] [] [] = true from rfl]
  exact yes
 | true =>
  have hge : goodE z.ks z.ps z.es = true:=by rw [goodE,hb,gb]; rfl
  have e : Q0ew z.ks z.ps z.es z.l = ⟨z.ks,z.ps,(tkGo z.ks z.ps z.es z.l).1,(tkGo z.ks z.ps z.es z.l).2⟩:=by rw [Q0ew,if_pos hb]
  obtain ⟨g1,g2⟩:=Qbzy (l:=z.l) hge gv
  have g3:=g1
  simp only [goodE,Bool.and_eq_true] at g3
  have hw : IntKind.wrap .i64 ((z.l.length : Int) - 1) = (z.l.length : Int) - 1:=by rw [Qbrg] <;> omega
  rw [e,gb,hc,hz,Qdsw g3.2,hw,decide_eq_true (show (tkGo z.ks z.ps z.es z.l).2.length ≤ 1000000000 by omega)]
  simp only [Bool.and_self,Qd8q,decide_true,Bool.not_true,Qk7y]
  have nx:=Q30w z.ks z.ps z.es _ z.l _ gl (by omega) hge gv g1 rfl rfl z.l.length (Nat.le_refl _)
  rw [List.drop_length] at nx
  exact Sat.cut nx
end Lx
