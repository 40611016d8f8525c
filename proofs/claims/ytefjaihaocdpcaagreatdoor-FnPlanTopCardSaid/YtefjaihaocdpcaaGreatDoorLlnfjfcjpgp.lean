/- A region whose order is drawn, last part: any order does what the text's order does. -/
import Derived.Deep.Slices
import Derived.WideKeyArgs
import Derived.RowKit
import Derived.ProofKit
import Derived.ChangeKeysEq
import Derived.Test.YtefjaihaocdpcaaGreatDoorProg
import Derived.KernelRfl
import Derived.Shelf.Strings.Split
import Derived.Shelf.Strconv.Atoi
import Derived.Shelf.Strings.Trim
import Derived.Shelf.Strings.Count
import Derived.Test.YtefjaihaocdpcaaGreatDoorLknajkmhjad
import Derived.Test.YtefjaihaocdpcaaGreatDoorLmkaepbafli
set_option linter.unusedVariables false
set_option linter.unusedSimpArgs false
namespace Lx
open Go
section
variable {Ty : Type} {El : Ty → Type} {C : Cod Ty El} {P : Program}

def cntU (D : Nat → Bool) : Nat → Nat
 | 0=>0
 | n + 1=>cntU D n + if D n then 0 else 1
theorem Quow {D : Nat → Bool} : ∀ {n : Nat},cntU D n = 0 → ∀ i,i < n → D i = true
 | n + 1,h,i,hi=>by
  simp only [cntU] at h
  by_cases hin : i = n
  ·subst hin
   cases hD : D i with
   | true=>rfl
   | false=>simp [hD] at h
  ·exact Quow (n:=n) (by omega) i (by omega)
theorem Q4tb {D : Nat → Bool} {j : Nat} : ∀ {n : Nat},n ≤ j → cntU (withI D j) n = cntU D n
 | 0,_=>rfl
 | n + 1,h=>by
  have : n ≠ j:=by omega
  simp only [cntU,Q4tb (D:=D) (j:=j) (n:=n) (by omega)]
  simp only [withI,if_neg this]
theorem Qbis {D : Nat → Bool} {j : Nat} (hD : D j = false) : ∀ {n : Nat},j < n → cntU (withI D j) n + 1 = cntU D n
 | n + 1,h=>by
  by_cases hjn : j = n
  ·subst hjn
   simp only [cntU,Q4tb (Nat.le_refl _),hD]
   simp [withI]
  ·have ih:=Qbis hD (n:=n) (by omega)
   have : n ≠ j:=fun e=>hjn e.symm
   simp only [cntU,withI,if_neg this] at *
   omega

theorem Qwrj {l : Array Bool} {j : Nat} (hj : j < l.size) : (fun i=>(l.setIfInBounds j true).getD i false) = withI (fun i=>l.getD i false) j:=by
 funext i
 simp only [withI]
 by_cases h : i = j
 ·subst h; simp [hj]
 ·simp [h,Array.getElem?_setIfInBounds_ne (Ne.symm h)]

theorem Quoz {E : Tab Ty El} : ∀ {os : List Oper} {f : Nat} {i j : Nat} {o : Oper},os[i]? = some o → i < j → Qpba E f os i + Qojn E o ≤ Qpba E f os j
 | [],_,i,_,o,h,_=>by simp at h
 | o0 :: os,f,i,j,o,h,hij=>by
  cases j with
  | zero=>omega
  | succ j =>
   cases i with
   | zero =>
    simp only [List.getElem?_cons_zero,Option.some.injEq] at h
    subst h
    simp only [Qpba]
    have : ∀ (os : List Oper) (f j : Nat),f ≤ Qpba E f os j:=by
     intro os
     induction os with
     | nil=>intro f j; cases j <;> simp [Qpba]
     | cons o os ih=>intro f j; cases j with
      | zero=>simp [Qpba]
      | succ j=>simp only [Qpba]; exact Nat.le_trans (Nat.le_add_right _ _) (ih _ _)
    exact this _ _ _
   | succ i=>exact Quoz (os:=os) (f:=f + Qojn E o0) (i:=i) (j:=j) (by simpa using h) (by omega)
theorem Qzjv {E : Tab Ty El} : ∀ (os : List Oper) (f j : Nat),f ≤ Qpba E f os j:=by
 intro os
 induction os with
 | nil=>intro f j; cases j <;> simp [Qpba]
 | cons o os ih=>intro f j; cases j with
  | zero=>simp [Qpba]
  | succ j=>simp only [Qpba]; exact Nat.le_trans (Nat.le_add_right _ _) (ih _ _)

section
variable {E : Tab Ty El} {n : Nat} {os : List Oper} {f : Nat} {tm : Nat → AV Ty El} {hp : Nat → AObj Ty El} {es : List (Ev Ty El)}

theorem Qbgn (hat : ∀ i o,os[i]? = some o → ∃ e,es[i]? = some e ∧ stepF P C E os o (Qpba E f os i) (valAt (wT n os es) tm (fun _=>true) i) (valAt (wH es) hp (fun _=>true) i) = some e)
  (hlen : es.length = os.length) (hfr : ∀ k,f ≤ k → hp k = .gone) {j : Nat} {oj : Oper} (hj : os[j]? = some oj) {k : Nat} (hk1 : Qpba E f os j ≤ k) (hk2 : k < Qpba E f os j + Qojn E oj) :
  ∀ i,i ≤ os.length → valAt (wH es) hp (fun _=>true) i k ≠ .gone → j < i ∧ ∃ ej,es[j]? = some ej ∧ k ∈ ej.wr.map (·.1):=by
 intro i
 induction i with
 | zero =>
  intro _ h
  exact absurd (hfr k (Nat.le_trans (Qzjv _ _ _) hk1)) h
 | succ i ih =>
  intro hi h
  have hio : os[i]? = some os[i]:=List.getElem?_eq_getElem (by omega)
  obtain ⟨e,he,hs⟩:=hat i _ hio
  by_cases hkey : k ∈ e.wr.map (·.1)
  ·rcases Qmll hs k hkey with h1 | h1
   ·obtain ⟨h2,h3⟩:=ih (by omega) h1
    exact ⟨by omega,h3⟩
   ·have : i = j:=by
     rcases Nat.lt_trichotomy i j with h4 | h4 | h4
     ·have:=Quoz (E:=E) (f:=f) hio h4; omega
     ·exact h4
     ·have:=Quoz (E:=E) (f:=f) hj h4; omega
    subst this
    exact ⟨by omega,e,he,hkey⟩
  ·simp only [valAt] at h
   rw [show wH es i k = none from by simp only [wH,he]; exact Qrye hkey] at h
   obtain ⟨h2,h3⟩:=ih (by omega) h
   exact ⟨by omega,h3⟩
end

theorem Q7i1 {n : Nat} {ops : List Oper} {es : List (Ev Ty El)} {i t : Nat} (h : ∀ o,ops[i]? = some o → o.dst ≠ some t) : wT n ops es i t = none:=by
 unfold wT
 split
 ·rename_i o e ho he
  rw [if_neg (fun hh=>h o ho hh.1)]
 ·rfl
theorem Qn42 {es : List (Ev Ty El)} {i k : Nat} (h : ∀ e,es[i]? = some e → k ∉ e.wr.map (·.1)) : wH es i k = none:=by
 unfold wH
 split
 ·rename_i e he; exact Qrye (h e he)
 ·rfl
theorem Qpte {n : Nat} {ops : List Oper} {es : List (Ev Ty El)} {i t : Nat} {x : AV Ty El} (h : wT n ops es i t = some x) : ∃ o,ops[i]? = some o ∧ o.dst = some t:=by
 unfold wT at h
 split at h
 ·rename_i o e ho he
  split at h
  ·rename_i hh; exact ⟨o,ho,hh.1⟩
  ·cases h
 ·cases h
theorem Qngn {es : List (Ev Ty El)} {i k : Nat} {x : AObj Ty El} (h : wH es i k = some x) : ∃ e,es[i]? = some e ∧ k ∈ e.wr.map (·.1):=by
 unfold wH at h
 split at h
 ·rename_i e he
  refine ⟨e,he,Classical.byContradiction fun hn=>?_⟩
  rw [Qrye hn] at h; cases h
 ·cases h

theorem Q7b0 (hC : CodOK P C) {E : Tab Ty El} (hE : TabOK P C E) {X : Cx} {ops : Array Oper} {Q : Exit → Act → World → Prop} {f : Nat} {tm tm' : Nat → AV Ty El} {hp hp' : Nat → AObj Ty El} {es : List (Ev Ty El)}
  (hout : ∀ t,X.n ≤ t → tm t = .dead) (hfr : ∀ k,f ≤ k → hp k = .gone) (ht : Trace P C E ops.toList X.n ops.toList f tm hp es tm' hp') (hconf : Qsf9 ops.toList (es.map Ev.log) = true)
  (hQ : ∀ a w N',SimN C X N' tm' hp' a w → (∀ t,X.n ≤ t → tm' t = .dead) → Q .normal a w) :
  ∀ (fuel : Nat) (l : Array Bool) (N : Nm) (a : Act) (w : World),l.size = ops.size → cntU (fun i=>l.getD i false) ops.size ≤ fuel → Down ops.toList (fun i=>l.getD i false) →
   SimN C X N (valAt (wT X.n ops.toList es) tm (fun i=>l.getD i false) ops.size) (valAt (wH es) hp (fun i=>l.getD i false) ops.size) a w → wpAny P .any ops Q fuel l a w:=by
 obtain ⟨hlen,hat,htm,hhp⟩:=ht.at
 obtain ⟨_,hback,hap⟩:=Qpmf hconf
 have hoT : ∀ D m t,X.n ≤ t → valAt (wT X.n ops.toList es) tm D m t = .dead:=fun D m t h=>by
  rw [Qdml]
  ·exact hout t h
  ·intro i _
   refine .inr ?_
   unfold wT
   split
   ·rw [if_neg (fun hh=>Nat.not_le.2 hh.2 h)]
   ·rfl
 have done : ∀ (l : Array Bool) (N : Nm) (a : Act) (w : World),(∀ i,i < ops.size → l.getD i false = true) →
   SimN C X N (valAt (wT X.n ops.toList es) tm (fun i=>l.getD i false) ops.size) (valAt (wH es) hp (fun i=>l.getD i false) ops.size) a w → Q .normal a w:=by
  intro l N a w hall hS
  have e1 : valAt (wT X.n ops.toList es) tm (fun i=>l.getD i false) ops.size = tm':=by
   rw [htm]; funext t; exact Qhet _ (fun i hi=>.inl (hall i hi))
  have e2 : valAt (wH es) hp (fun i=>l.getD i false) ops.size = hp':=by
   rw [hhp]; funext t; exact Qhet _ (fun i hi=>.inl (hall i hi))
  rw [e1,e2] at hS
  exact hQ a w N hS (fun t h=>e1 ▸ hoT _ _ t h)
 have some_ready : ∀ (l : Array Bool),l.size = ops.size → Region.ready .any ops l = [] → ∀ i,i < ops.size → l.getD i false = true:=by
  intro l hl hr i
  induction i using Nat.strongRecOn with
  | ind i ih =>
   intro hi
   refine Classical.byContradiction fun hn=>?_
   have : i ∈ Region.ready .any ops l:=by
    rw [mem_ready]
    have hli : i < l.size:=hl ▸ hi
    refine ⟨?_,ops[i],Array.getElem?_eq_getElem hi,fun e he hb=>?_⟩
    ·simp [hli] at hn ⊢; exact hn
    ·have hlt : e.on < i:=by simpa using Qwkr hback i ops[i] (by simp [hi]) e he hb
     exact ih e.on hlt (Nat.lt_trans hlt hi)
   rw [hr] at this
   cases this
 intro fuel
 induction fuel with
 | zero =>
  intro l N a w hl hcnt hdown hS
  have hall:=Quow (Nat.le_zero.1 hcnt)
  refine ⟨?_,done l N a w hall hS⟩
  refine List.eq_nil_iff_forall_not_mem.2 fun j hj=>?_
  obtain ⟨h1,o,ho,_⟩:=mem_ready.1 hj
  have hjl : j < ops.size:=(Array.getElem?_eq_some_iff.1 ho).1
  have:=hall j hjl
  have hli : j < l.size:=hl ▸ hjl
  simp [hli] at h1 this
  rw [h1] at this; cases this
 | succ fuel ih =>
  intro l N a w hl hcnt hdown hS
  refine ⟨fun hr=>done l N a w (some_ready l hl hr) hS,fun j hj=>?_⟩
  obtain ⟨h1,oj,hoj,hall⟩:=mem_ready.1 hj
  have hjl : j < ops.size:=(Array.getElem?_eq_some_iff.1 hoj).1
  have hli : j < l.size:=hl ▸ hjl
  have hDj : l.getD j false = false:=by simp [hli] at h1 ⊢; exact h1
  have hojL : ops.toList[j]? = some oj:=by rw [Array.getElem?_toList]; exact hoj
  obtain ⟨ej,hej,hs⟩:=hat j oj hojL
  have hancD:=Qwnv hback hdown j oj hojL hall

  have early : ∀ i oi ei,i < j → l.getD i false ≠ true → ops.toList[i]? = some oi → es[i]? = some ei → Apart ops.toList oi oj ei ej:=fun i oi ei hij hDi hoi hei=>by
   rcases hap i j oi oj ei ej hij hoi hojL hei hej with h | h
   ·exact absurd (hancD i h) hDi
   ·exact h
  have late : ∀ i oi ei,j < i → l.getD i false = true → ops.toList[i]? = some oi → es[i]? = some ei → Apart ops.toList oj oi ej ei:=fun i oi ei hij hDi hoi hei=>by
   rcases hap j i oj oi ej ei hij hojL hoi hej hei with h | h
   ·have:=Qwnv hback hdown i oi hoi (fun e he hb=>hdown i hDi oi hoi e he hb) j h
    rw [hDj] at this; cases this
   ·exact h
  have other : ∀ i,i ≠ j → l.getD i false = true ∧ i < j ∨ l.getD i false ≠ true ∧ j < i ∨ (∀ oi ei,ops.toList[i]? = some oi → es[i]? = some ei → Apart ops.toList oi oj ei ej ∨ Apart ops.toList oj oi ej ei):=by
   intro i hij
   rcases Nat.lt_or_gt_of_ne hij with h | h
   ·by_cases hD : l.getD i false = true
    ·exact .inl ⟨hD,h⟩
    ·exact .inr (.inr fun oi ei hoi hei=>.inl (early i oi ei h hD hoi hei))
   ·by_cases hD : l.getD i false = true
    ·exact .inr (.inr fun oi ei hoi hei=>.inr (late i oi ei h hD hoi hei))
    ·exact .inr (.inl ⟨hD,h⟩)
  have esome : ∀ i,i < ops.size → ∃ oi ei,ops.toList[i]? = some oi ∧ es[i]? = some ei:=fun i hi=>by
   have hoi : ops.toList[i]? = some ops[i]:=by simp [hi]
   obtain ⟨ei,hei,_⟩:=hat i _ hoi
   exact ⟨_,ei,hoi,hei⟩
  have eT : ∀ t ∈ looks ops.toList oj,valAt (wT X.n ops.toList es) tm (fun i=>l.getD i false) ops.size t = valAt (wT X.n ops.toList es) tm (fun _=>true) j t:=by
   intro t htl
   refine Qxgq (Nat.le_of_lt hjl) (fun i hi=>?_) (fun i hi hin=>?_)
   ·by_cases hD : l.getD i false = true
    ·exact .inl hD
    ·refine .inr (Q7i1 fun oi hoi hd=>?_)
     obtain ⟨_,ei,_,hei⟩:=esome i (Nat.lt_trans hi hjl)
     exact (early i oi ei hi hD hoi hei).look t hd htl
   ·by_cases hij : i = j
    ·subst hij; exact .inl hDj
    ·by_cases hD : l.getD i false = true
     ·refine .inr (Q7i1 fun oi hoi hd=>?_)
      obtain ⟨_,ei,_,hei⟩:=esome i hin
      exact (late i oi ei (by omega) hD hoi hei).look' t hd htl
     ·exact .inl (by simpa using hD)
  have eH : ∀ k ∈ ej.rd,valAt (wH es) hp (fun i=>l.getD i false) ops.size k = valAt (wH es) hp (fun _=>true) j k:=by
   intro k hk
   refine Qxgq (Nat.le_of_lt hjl) (fun i hi=>?_) (fun i hi hin=>?_)
   ·by_cases hD : l.getD i false = true
    ·exact .inl hD
    ·refine .inr (Qn42 fun ei hei hmem=>?_)
     obtain ⟨oi,_,hoi,_⟩:=esome i (Nat.lt_trans hi hjl)
     exact (early i oi ei hi hD hoi hei).wrrd k hmem hk
   ·by_cases hij : i = j
    ·subst hij; exact .inl hDj
    ·by_cases hD : l.getD i false = true
     ·refine .inr (Qn42 fun ei hei hmem=>?_)
      obtain ⟨oi,_,hoi,_⟩:=esome i hin
      exact (late i oi ei (by omega) hD hoi hei).rdwr k hmem hk
     ·exact .inl (by simpa using hD)
  have hs':=Qt0t hs eT eH
  have hnew : ∀ k,k < Qojn E oj → valAt (wH es) hp (fun i=>l.getD i false) ops.size (Qpba E f ops.toList j + k) = .gone:=by
   intro k hk
   rw [Qdml]
   ·exact hfr _ (Nat.le_trans (Qzjv _ _ _) (Nat.le_add_right _ _))
   ·intro i hi
    by_cases hD : l.getD i false = true
    ·refine .inr (Qn42 fun ei hei hmem=>?_)
     obtain ⟨oi,_,hoi,_⟩:=esome i hi
     obtain ⟨ei',hei',hsi⟩:=hat i oi hoi
     rw [hei] at hei'
     obtain rfl:=Option.some.inj hei'
     have hne : i ≠ j:=fun e=>by subst e; rw [hDj] at hD; cases hD
     rcases Qmll hsi _ hmem with h | h
     ·obtain ⟨hji,ej',hej',hmem'⟩:=Qbgn hat hlen hfr hojL (k:=Qpba E f ops.toList j + k) (Nat.le_add_right _ _) (by omega) i (by simp; omega) h
      rw [hej] at hej'
      obtain rfl:=Option.some.inj hej'
      exact (late i oi ei hji hD hoi hei).wrwr _ hmem' hmem
     ·rcases Nat.lt_or_gt_of_ne hne with h4 | h4
      ·have:=Quoz (E:=E) (f:=f) hoi h4; omega
      ·have:=Quoz (E:=E) (f:=f) hojL h4; omega
    ·exact .inl (by simpa using hD)
  refine Q58k hC hE hS (hoT _ _) hoj hs' hnew fun v N' w' hS'=>?_
  have hw:=Qwrj hli
  have e1 : valAt (wT X.n ops.toList es) tm (fun i=>(l.setIfInBounds j true).getD i false) ops.size = updT X.n (valAt (wT X.n ops.toList es) tm (fun i=>l.getD i false) ops.size) oj.dst ej.v:=by
   rw [hw]; funext t
   rw [Qg1p (ops:=ops.toList) (es:=es) hojL hej]
   refine Qlez hjl hDj fun i hi hin hD=>?_
   cases hwi : wT X.n ops.toList es i t with
   | none=>exact .inl rfl
   | some x =>
    refine .inr (Q7i1 fun o ho hd=>?_)
    rw [hojL] at ho
    obtain rfl:=Option.some.inj ho
    obtain ⟨oi,hoi,hdi⟩:=Qpte hwi
    obtain ⟨_,ei,_,hei⟩:=esome i hin
    exact (late i oi ei hi hD hoi hei).dst t hd hdi
  have e2 : valAt (wH es) hp (fun i=>(l.setIfInBounds j true).getD i false) ops.size = updH (valAt (wH es) hp (fun i=>l.getD i false) ops.size) ej.wr:=by
   rw [hw]; funext t
   rw [Qs13 (es:=es) hej]
   refine Qlez hjl hDj fun i hi hin hD=>?_
   cases hwi : wH es i t with
   | none=>exact .inl rfl
   | some x =>
    refine .inr (Qn42 fun e he hmem=>?_)
    rw [hej] at he
    obtain rfl:=Option.some.inj he
    obtain ⟨ei,hei,hmi⟩:=Qngn hwi
    obtain ⟨oi,_,hoi,_⟩:=esome i hin
    exact (late i oi ei hi hD hoi hei).wrwr t hmem hmi
  rw [← e1,← e2] at hS'
  refine ih _ N' _ w' (by simp [hl]) ?_ ?_ hS'
  ·rw [hw]
   have:=Qbis (D:=fun i=>l.getD i false) hDj hjl
   omega
  ·rw [hw]
   intro i hi o ho e he hb
   simp only [withI] at hi ⊢
   split
   ·rfl
   ·split at hi
    ·rename_i h _ h2
     subst h2
     rw [hojL] at ho
     obtain rfl:=Option.some.inj ho
     exact hall e he hb
    ·exact hdown i hi o ho e he hb

theorem SimN.drew (hC : CodOK P C) {X : Cx} {N : Nm} {tm : Nat → AV Ty El} {hp : Nat → AObj Ty El} {a : Act} {w : World} (h : SimN C X N tm hp a w) (k : Nat) : SimN C X N tm hp a { w with drawn:=k }:=by
 have hL : Le N N w { w with drawn:=k }:=⟨fun _ _ _ _ h=>h,fun _ h=>h,fun _ _=>rfl⟩
 have hs : ∀ r,SameN N N r:=fun r=>⟨rfl,fun _=>Iff.rfl,fun _ _ _=>Iff.rfl⟩
 exact ⟨⟨fun r=>(h.hr.obj r).mono hC hL (hs r) (fun _ _=>rfl),fun r p v u hg=>refOK.mono (w':={ w with drawn:=k }) hC (h.hr.obj r) (fun _ _=>rfl) (h.hr.reg r p v u hg),fun r=>Qamb.mono hC (h.hr.obj r) (hs r) (fun _ _=>rfl) (h.hr.full r),h.hr.one,h.hr.dist,h.hr.roNot,h.hr.roLt⟩,
  fun t ht=>(h.tmps t ht).mono hL,h.size,h.defers,⟨h.fr.os,h.fr.tape,h.fr.output,h.fr.size,h.fr.block⟩,h.live,h.io,h.nog,h.roI,h.roO⟩

theorem Qwn3 (hC : CodOK P C) (hmix : P.follows .mixedOrders = true) {E : Tab Ty El} (hE : TabOK P C E) {X : Cx} {N : Nm} {id : Nat} {ops : Array Oper} {draw : Bool} {K : St Ty El → List Log → Option (Leaf Ty El)} {lf : Leaf Ty El} {s : St Ty El} {a : Act} {w : World}
  (hS : SimN C X N s.tmF s.hpF a w) (hn : s.tm.length = X.n)
  (h : Qg3x P C E ops.toList ops.toList s.hp.length s [] (fun s lg=>if draw then (if Qsf9 ops.toList lg then K s lg else none) else K s lg) = some lf) {Q : Exit → Act → World → Prop}
  (hQ : ∀ a w N' s' lg,s'.tm.length = X.n → SimN C X N' s'.tmF s'.hpF a w → K s' lg = some lf → Q .normal a w) : (Code.region id ops draw).wp P Q a w:=by
 obtain ⟨es,s',h1,h2,h3⟩:=Qjwl _ _ _ _ h
 have hout : ∀ t,X.n ≤ t → s.tmF t = .dead:=fun t ht=>by
  have : s.tm.length ≤ t:=hn ▸ ht
  simp [St.tmF,this]
 have hfr : ∀ k,s.hp.length ≤ k → s.hpF k = .gone:=fun k hk=>by simp [St.hpF,hk]
 rw [hn] at h2
 cases draw with
 | false =>
  simp only [Bool.false_eq_true,if_false] at h3
  refine wp_region ?_
  have:=Qwy4 hC hE (Q:=Q) ops.toList 0 _ N _ _ _ a w rfl hS hout hfr h2 (fun a w N' hS' _=>hQ a w N' s' _ (h1.trans hn) hS' h3)
  rw [List.range_eq_range']
  simpa using this
 | true =>
  simp only [if_true] at h3
  split at h3
  ·rename_i hc
   refine wp_region_any hmix ?_
   refine Q7b0 hC hE hout hfr h2 (by simpa using hc) (fun a w N' hS' _=>hQ a w N' s' _ (h1.trans hn) hS' h3) _ _ N a _ (by simp) ?_ ?_ ?_
   ·have : ∀ (D : Nat → Bool) n,cntU D n ≤ n:=fun D n=>by
     induction n with
     | zero=>simp [cntU]
     | succ n ih=>simp only [cntU]; split <;> omega
    exact this _ _
   ·intro i hi
    simp at hi
    exfalso
    revert hi
    by_cases hlt : i < ops.size <;> simp [hlt]
   ·have hD : ∀ i,i < ops.size → (Array.replicate ops.size false).getD i false = false:=fun i hi=>by simp [hi]
    have e1 : valAt (wT X.n ops.toList es) s.tmF (fun i=>(Array.replicate ops.size false).getD i false) ops.size = s.tmF:=by
     funext t; exact Qdml _ (fun i hi=>.inl (hD i hi))
    have e2 : valAt (wH es) s.hpF (fun i=>(Array.replicate ops.size false).getD i false) ops.size = s.hpF:=by
     funext t; exact Qdml _ (fun i hi=>.inl (hD i hi))
    rw [e1,e2]
    exact hS.drew hC _
  ·cases h3
end
end Lx
namespace Lx
open Go
section
variable {Ty : Type} {El : Ty → Type} {C : Cod Ty El} {P : Program}

theorem Qriu {r : Nat} : ∀ {l : List (Option Nat)} {k n : Nat},idxO r l k = some n → k ≤ n ∧ l[n - k]? = some (some r)
 | [],k,n,h=>by simp [idxO] at h
 | a :: l,k,n,h=>by
  simp only [idxO] at h
  split at h
  ·rename_i e
   simp only [Option.some.injEq] at h
   subst h; subst e
   simp
  ·obtain ⟨h1,h2⟩:=Qriu h
   exact ⟨by omega,by rw [show n - k = (n - (k + 1)) + 1 by omega,List.getElem?_cons_succ]; exact h2⟩
theorem Qom6 {r : Nat} : ∀ {l : List (Option Nat)} {k : Nat},idxO r l k = none → some r ∉ l
 | [],_,_=>by simp
 | a :: l,k,h=>by
  simp only [idxO] at h
  split at h
  ·cases h
  ·rename_i hne
   have:=Qom6 h
   simp only [List.mem_cons,not_or]
   exact ⟨fun e=>hne e.symm,this⟩

def Qme7 (N : Nm) (hp : Nat → AObj Ty El) (w : World) (C : Cod Ty El) (tab : List (Option Nat)) (os : List (AObj Ty El)) : Nm :=
 {ν:=fun k=>match tab[k]? with | some (some r)=>N.ν r | _=>undef
  F:=fun k b=>match tab[k]? with | some (some r)=>N.F r b | _=>False
  G:=fun k p v u=>match tab[k]? with | some (some r)=>objG C w (N.ν r) (hpOf os k) p v u | _=>False
  ro:=N.ro }

def Qe1t (tab : List (Option Nat)) : Prop:=∀ (k k' r : Nat),tab[k]? = some (some r) → tab[k']? = some (some r) → k = k'

theorem Qwl3 {hp : Nat → AObj Ty El} {r : Nat} {p : Path} {v : Nat} (h : cur hp r p v = true) : ∃ T xs d vr vn,hp r = .row T xs d vr vn .no ∧ v = verAt p vr vn ∧ p.length ≤ d:=by
 unfold cur at h
 split at h
 ·rename_i T xs d vr vn m hr
  split at h
  ·split at h
   ·exact ⟨T,xs,d,vr,vn,hr,by simpa [verAt] using h,Nat.zero_le _⟩
   ·rename_i hp0
    simp only [Bool.and_eq_true,beq_iff_eq,decide_eq_true_eq] at h
    refine ⟨T,xs,d,vr,vn,hr, ?_,h.2⟩
    cases p with
    | nil=>exact absurd rfl hp0
    | cons q p=>exact h.1
  ·cases h
 ·cases h

theorem Qy44 {N : Nm} {hp : Nat → AObj Ty El} {w : World} (hH : HR C N hp w) {tab : List (Option Nat)} {os : List (AObj Ty El)} {f : Nat → Option Nat} {r k : Nat} (ht : tab[k]? = some (some r)) (hos : ∀ T xs d vr vn,hp r = .row T xs d vr vn .no → hpOf os k = .row T xs d 0 0 .no) {p : Path} {v : Nat} {u : Value}
  (hc : cur hp r p v = true) (hG : N.G r p v u) : (Qme7 N hp w C tab os).G k p 0 u:=by
 obtain ⟨T,xs,d,vr,vn,hr,hv,hl⟩:=Qwl3 hc
 have hreg:=hH.reg r p v u hG
 rw [hr] at hreg
 simp only [Qme7,ht]
 rw [hos T xs d vr vn hr]
 cases p with
 | nil=>exact .inl ⟨rfl,rfl,hreg.2 hv⟩
 | cons q p=>exact .inr ⟨by simp,hl,rfl,rfl,hreg.2 rfl hv hl⟩

theorem Qgpm (hC : CodOK P C) {N Nc : Nm} {hp : Nat → AObj Ty El} {w : World} {f : Nat → Option Nat} (hro : ∀ b,N.ro b → Nc.ro b) (hcur : ∀ r p v u k,f r = some k → cur hp r p v = true → N.G r p v u → Nc.G k p 0 u)
  (hptr : ∀ r k q,(∃ cs,hp r = .box cs) ∨ (∃ K V es,hp r = .mp K V es) → f r = some k → N.G r [] 0 q → Nc.G k [] 0 q) : ∀ (n : Nat) (x y : AV Ty El) (v : Value),RepA C N w v x → renC hp f n x = some y → RepA C Nc w v y:=by
 intro n
 induction n with
 | zero=>intro x y v _ h; simp [renC] at h
 | succ n ih =>
  intro x y v hv h
  have plain : (if rf 4 x then some x else none : Option (AV Ty El)) = some y → RepA C Nc w v y:=by
   intro h
   split at h
   ·rename_i hr
    simp only [Option.some.injEq] at h
    subst h
    exact hv.rfm hC hro (fun _ _=>rfl) 4 hr
   ·cases h
  have kids : ∀ (cs ds : List (AV Ty El)) (vs : Array Value),omap (renC hp f n) cs = some ds → (∀ (j : Nat) v c,vs[j]? = some v → cs[j]? = some c → RepA C N w v c) → ∀ (j : Nat) v d,vs[j]? = some v → ds[j]? = some d → RepA C Nc w v d:=by
   intro cs ds vs ho hvs j v d hv hd
   obtain ⟨_,h2⟩:=Qd6l ho
   obtain ⟨c,hc,hcd⟩:=h2 j d hd
   exact ih c d _ (hvs j v c hv hc) hcd
  cases x with
  | own r p ver =>
   simp only [renC] at h
   split at h
   ·rename_i hc
    split at h
    ·rename_i k hk
     simp only [Option.some.injEq] at h
     subst h
     exact .own _ _ _ _ (hcur r p ver v k hk hc hv.inv_own)
    ·cases h
   ·simp only [Option.some.injEq] at h; subst h; exact .dead _
  | view r p ver wd lo m =>
   simp only [renC] at h
   split at h
   ·rename_i hc
    split at h
    ·rename_i k hk
     simp only [Option.some.injEq] at h
     subst h
     cases hv with
     | view _ _ _ _ lo m n cap a hG hb=>exact .view _ _ _ _ _ _ _ _ _ (hcur r p ver _ k hk hc hG) hb
    ·cases h
   ·simp only [Option.some.injEq] at h; subst h; exact .dead _
  | eptr r p ver wd i j =>
   simp only [renC] at h
   split at h
   ·rename_i hc
    split at h
    ·rename_i k hk
     simp only [Option.some.injEq] at h
     subst h
     cases hv with
     | eptr _ _ _ _ i j b n cap hG hi=>exact .eptr _ _ _ _ _ _ _ _ _ (hcur r p ver _ k hk hc hG) hi
    ·cases h
   ·simp only [Option.some.injEq] at h; subst h; exact .dead _
  | ptr r off =>
   simp only [renC] at h
   split at h
   ·rename_i cs hb
    split at h
    ·rename_i k hk
     simp only [Option.some.injEq] at h
     subst h
     cases hv with
     | ptr _ b off hG=>exact .ptr _ _ _ (hptr r k _ (.inl ⟨cs,hb⟩) hk hG)
    ·cases h
   ·simp only [Option.some.injEq] at h; subst h; exact .dead _
  | mapr r =>
   simp only [renC] at h
   split at h
   ·rename_i K V es hb
    split at h
    ·rename_i k hk
     simp only [Option.some.injEq] at h
     subst h
     cases hv with
     | mapr _ b hG=>exact .mapr _ _ (hptr r k _ (.inr ⟨K,V,es,hb⟩) hk hG)
    ·cases h
   ·simp only [Option.some.injEq] at h; subst h; exact .dead _
  | agg cs =>
   simp only [renC] at h
   split at h
   ·rename_i ds hds
    simp only [Option.some.injEq] at h
    subst h
    cases hv with
    | agg vs cs hl hh=>exact .agg vs ds (by rw [hl,(Qd6l hds).1]) (kids cs ds vs hds hh)
   ·cases h
  | tup cs =>
   simp only [renC] at h
   split at h
   ·rename_i ds hds
    simp only [Option.some.injEq] at h
    subst h
    cases hv with
    | tup vs cs hl hh=>exact .tup vs ds (by rw [hl,(Qd6l hds).1]) (kids cs ds vs hds hh)
   ·cases h
  | fn g cs =>
   simp only [renC] at h
   split at h
   ·rename_i ds hds
    simp only [Option.some.injEq] at h
    subst h
    cases hv with
    | fn g vs cs hl hh=>exact .fn g vs ds (by rw [hl,(Qd6l hds).1]) (kids cs ds vs hds hh)
   ·cases h
  | _=>exact plain h

theorem Q897 (hC : CodOK P C) {N : Nm} {hp : Nat → AObj Ty El} {w : World} (hH : HR C N hp w) {tab : List (Option Nat)} (hinj : Qe1t tab) {os : List (AObj Ty El)} (hlen : os.length = tab.length)
  (hobj : ∀ (k r : Nat),tab[k]? = some (some r) → ∃ o,os[k]? = some o ∧ Q049 hp (fun r=>idxO r tab 0) r = some o) (hout : ∀ (k : Nat),tab[k]? = some none → os[k]? = some AObj.out) :
  HR C (Qme7 N hp w C tab os) (hpOf os) w ∧ (∀ r p v u k,idxO r tab 0 = some k → cur hp r p v = true → N.G r p v u → (Qme7 N hp w C tab os).G k p 0 u) ∧ (∀ r k q,(∃ cs,hp r = .box cs) ∨ (∃ K V es,hp r = .mp K V es) → idxO r tab 0 = some k → N.G r [] 0 q → (Qme7 N hp w C tab os).G k [] 0 q):=by
 have hrow : ∀ (k r : Nat),tab[k]? = some (some r) → ∀ T xs d vr vn,hp r = .row T xs d vr vn .no → hpOf os k = .row T xs d 0 0 .no:=by
  intro k r ht T xs d vr vn hr
  obtain ⟨o,ho,hc⟩:=hobj k r ht
  rw [Qirx ho]
  simp only [Q049,hr,Option.some.injEq] at hc
  exact hc.symm
 have hbox : ∀ (k r : Nat),tab[k]? = some (some r) → ∀ cs,hp r = .box cs → ∃ ds,hpOf os k = .box ds ∧ omap (renC hp (fun r=>idxO r tab 0) 4) cs = some ds:=by
  intro k r ht cs hr
  obtain ⟨o,ho,hc⟩:=hobj k r ht
  rw [Qirx ho]
  simp only [Q049,hr] at hc
  split at hc
  ·rename_i ds hds
   simp only [Option.some.injEq] at hc
   exact ⟨ds,hc.symm,hds⟩
  ·cases hc
 have hat : ∀ (r k : Nat),idxO r tab 0 = some k → tab[k]? = some (some r):=fun r k h=>by have:=(Qriu h).2; simpa using this
 have hcur : ∀ r p v u k,idxO r tab 0 = some k → cur hp r p v = true → N.G r p v u → (Qme7 N hp w C tab os).G k p 0 u:=fun r p v u k hk hc hG=>Qy44 (f:=fun r=>idxO r tab 0) hH (hat r k hk) (hrow k r (hat r k hk)) hc hG
 have hmap : ∀ (k r : Nat),tab[k]? = some (some r) → ∀ K V es,hp r = .mp K V es → hpOf os k = .mp K V es:=by
  intro k r ht K V es hr
  obtain ⟨o,ho,hc⟩:=hobj k r ht
  rw [Qirx ho]
  simp only [Q049,hr,Option.some.injEq] at hc
  exact hc.symm
 have hptr : ∀ r k q,(∃ cs,hp r = .box cs) ∨ (∃ K V es,hp r = .mp K V es) → idxO r tab 0 = some k → N.G r [] 0 q → (Qme7 N hp w C tab os).G k [] 0 q:=by
  intro r k q hr hk hG
  have ht:=hat r k hk
  have hreg:=hH.reg r [] 0 _ hG
  simp only [Qme7,ht]
  rcases hr with ⟨cs,hr⟩ | ⟨K,V,es,hr⟩
  ·rw [hr] at hreg
   obtain ⟨ds,e,_⟩:=hbox k r ht cs hr
   rw [e]
   exact ⟨rfl,rfl,hreg rfl rfl⟩
  ·rw [hr] at hreg
   rw [hmap k r ht K V es hr]
   exact ⟨rfl,rfl,hreg rfl rfl⟩
 have cν : ∀ (k r : Nat),tab[k]? = some (some r) → (Qme7 N hp w C tab os).ν k = N.ν r:=fun k r ht=>by simp [Qme7,ht]
 have cF : ∀ (k r : Nat),tab[k]? = some (some r) → ∀ b,(Qme7 N hp w C tab os).F k b ↔ N.F r b:=fun k r ht b=>by simp [Qme7,ht]
 have cFi : ∀ (k b : Nat),(Qme7 N hp w C tab os).F k b → ∃ r,tab[k]? = some (some r) ∧ N.F r b:=fun k b hb=>by
  simp only [Qme7] at hb
  split at hb
  ·rename_i r ht; exact ⟨r,ht,hb⟩
  ·exact hb.elim
 have cGi : ∀ (k : Nat) p v u,(Qme7 N hp w C tab os).G k p v u → ∃ r,tab[k]? = some (some r) ∧ objG C w (N.ν r) (hpOf os k) p v u:=fun k p v u hg=>by
  simp only [Qme7] at hg
  split at hg
  ·rename_i r ht; exact ⟨r,ht,hg⟩
  ·exact hg.elim
 have obj : ∀ k,ObjOK C (Qme7 N hp w C tab os) w k (hpOf os k):=by
  intro k
  cases ht : tab[k]? with
  | none =>
   have : hpOf os k = .gone:=by
    have : os.length ≤ k:=by rw [hlen]; exact List.getElem?_eq_none_iff.1 ht
    simp [hpOf,List.getD,List.getElem?_eq_none this]
   rw [this]
   intro b hb
   obtain ⟨r,h1,_⟩:=cFi k b hb
   rw [ht] at h1; cases h1
  | some t =>
   cases t with
   | none =>
    rw [Qirx (hout k ht)]
    intro b hb
    obtain ⟨r,h1,_⟩:=cFi k b hb
    rw [ht] at h1; cases h1
   | some r =>
    obtain ⟨o,ho,hc⟩:=hobj k r ht
    have hor:=hH.obj r
    unfold Q049 at hc
    split at hc
    ·rename_i cs hr
     obtain ⟨ds,e,hds⟩:=hbox k r ht cs hr
     rw [e]
     rw [hr] at hor
     obtain ⟨b,arr,t,hv,hh,hs,hone,hcc,hF⟩:=hor
     obtain ⟨hdl,hdg⟩:=Qd6l hds
     refine ⟨b,arr,t,(cν k r ht).trans hv,hh,by rw [hdl]; exact hs,hone,fun j v d hj hd=>?_,fun b'=>(cF k r ht b').trans (hF b')⟩
     obtain ⟨c,hc',hcd⟩:=hdg j d hd
     exact Qgpm (N:=N) (Nc:=Qme7 N hp w C tab os) hC (fun _ h=>h) hcur hptr 4 c d v (hcc j v c hj hc') hcd
    ·rename_i T xs d vr vn m hr
     split at hc
     ·rw [hrow k r ht T xs d vr vn hr]
      rw [hr] at hor
      refine ⟨by rw [cν k r ht]; exact hor.1, ?_⟩
      rw [cν k r ht]
      exact (Deep.cast (N:=N) (N':=Qme7 N hp w C tab os) hC (fun _ h=>h) (fun _ _=>rfl) _ _ _ _ _ _ hor.2 (fun _ _=>rfl)).blkEq (cF k r ht)
     ·cases hc
    ·rename_i K V es hr
     rw [hmap k r ht K V es hr]
     rw [hr] at hor
     obtain ⟨b,arr,clk,hv,hh,hs,hcc,hF⟩:=hor
     have hpk : ∀ (T : Ty) (x : El T),rf 2 (packA C T (C.row T x)) = true:=fun T x=>by
      unfold packA
      have hall : ∀ c ∈ C.row T x,rf 1 c = true:=fun c hc=>Qo9s (hC.cell T x c hc) 0
      split
      ·simp only [rf,List.all_eq_true]; exact hall
      ·cases hrow : C.row T x with
       | nil=>rfl
       | cons c cs=>exact Qo9s (hC.cell T x c (by rw [hrow]; simp)) 1
     exact ⟨b,arr,clk,(cν k r ht).trans hv,hh,hs,fun j e p he hpp=>⟨RepA.rfm (N:=N) (N':=Qme7 N hp w C tab os) (w':=w) hC (fun _ h=>h) (fun _ _=>rfl) (hcc j e p he hpp).1 2 (hpk _ _),RepA.rfm (N:=N) (N':=Qme7 N hp w C tab os) (w':=w) hC (fun _ h=>h) (fun _ _=>rfl) (hcc j e p he hpp).2 2 (hpk _ _)⟩,fun b'=>(cF k r ht b').trans (hF b')⟩
    ·cases hc
 refine ⟨⟨obj,fun k p v u hg=>?_,fun k=>?_,fun k p v u hg=>?_,fun k k' b hb hb'=>?_,fun k b hb hr=>?_,fun b hb=>hH.roLt b hb⟩,hcur,hptr⟩
 ·obtain ⟨r,ht,h1⟩:=cGi k p v u hg
  rw [cν k r ht]; exact Qr5d h1
 ·cases ht : tab[k]? with
  | none =>
   have : hpOf os k = .gone:=by
    have : os.length ≤ k:=by rw [hlen]; exact List.getElem?_eq_none_iff.1 ht
    simp [hpOf,List.getD,List.getElem?_eq_none this]
   rw [this]; trivial
  | some t =>
   cases t with
   | none=>rw [Qirx (hout k ht)]; trivial
   | some r=>exact Q6y7 (fun p v u h=>by rw [cν k r ht] at h; simp only [Qme7,ht]; exact h)
 ·obtain ⟨r,ht,h1⟩:=cGi k p v u hg
  refine Qtc3 (obj k) (p:=p) (v:=v) ?_
  rw [cν k r ht]; exact h1
 ·obtain ⟨r,ht,h1⟩:=cFi k b hb
  obtain ⟨r',ht',h1'⟩:=cFi k' b hb'
  have:=hH.dist r r' b h1 h1'
  subst this
  exact hinj k k' r ht ht'
 ·obtain ⟨r,ht,h1⟩:=cFi k b hb
  exact hH.roNot r b h1 hr
end
end Lx
namespace Lx
open Go
section
variable {Ty : Type} {El : Ty → Type} {C : Cod Ty El} {P : Program}

def hpS (hp : Nat → AObj Ty El) (base : Nat) (c : Shd Ty El) : Nat → AObj Ty El:=fun r=>if r ∈ c.fz then .out else laid hp base c r

structure ShI (C : Cod Ty El) (N : Nm) (hp : Nat → AObj Ty El) (base : Nat) (w : World) (c : Shd Ty El) (N1 : Nm) : Prop where
 hr : HR C N1 (hpS hp base c) w
 le : Le N N1 w w
 ν : ∀ r,r < base → N1.ν r = N.ν r
 F : ∀ r b,N1.F r b → r < base ∧ N.F r b
 Fk : ∀ r b,r ∉ c.fz → N.F r b → N1.F r b
 roO : ∀ b,N1.ro b → N.ro b ∨ ∃ r,N.F r b
 bx : ∀ r o,look c.bx r = some o → ∃ ds cs,o = .box ds ∧ hp r = .box cs ∧ ds.length = cs.length
 fz : ∀ r ∈ c.fz,(∀ b,N.F r b → N1.ro b) ∧ ∃ T xs d vr vn m,hp r = .row T xs d vr vn m

theorem HR.reBox {N : Nm} {hp : Nat → AObj Ty El} {w : World} (h : HR C N hp w) {r : Nat} {cs ds : List (AV Ty El)} (hb : hp r = .box cs) (hl : ds.length = cs.length) (hc : ∀ (b : Nat) (arr : Array Value) (t : TypeId),N.ν r = .pointer (some ⟨b,0,none⟩) → w.heap[b]? = some (.cells arr t (0,0)) → arr.size = cs.length → ∀ (j : Nat) v d,arr[j]? = some v → ds[j]? = some d → RepA C N w v d) :
  HR C N (setH hp r (.box ds)) w:=by
 refine ⟨fun k=>?_,fun k p v u hg=>?_,fun k=>?_,h.one,h.dist,h.roNot,h.roLt⟩
 ·by_cases e : k = r
  ·subst e
   rw [Q3el]
   have:=h.obj k
   rw [hb] at this
   obtain ⟨b,arr,t,hv,hh,hs,h1,_,hF⟩:=this
   exact ⟨b,arr,t,hv,hh,by rw [hl]; exact hs,h1,hc b arr t hv hh hs,hF⟩
  ·rw [Qte0 _ _ e]; exact h.obj k
 ·have:=h.reg k p v u hg
  by_cases e : k = r
  ·subst e; rw [Q3el]; rw [hb] at this; exact this
  ·rw [Qte0 _ _ e]; exact this
 ·have:=h.full k
  by_cases e : k = r
  ·subst e; rw [Q3el]; rw [hb] at this; exact this
  ·rw [Qte0 _ _ e]; exact this

theorem ShI.freeze (hC : CodOK P C) {N : Nm} {hp : Nat → AObj Ty El} {base : Nat} {w : World} (hgone : ∀ r,base ≤ r → hp r = .gone) {c : Shd Ty El} {N1 : Nm} (h : ShI C N hp base w c N1) {r : Nat} {T : Ty} {xs : List (El T)} {d vr vn : Nat} {m : Msk} (hr : hp r = .row T xs d vr vn m) :
  ∃ N2,ShI C N hp base w { c with fz:=r :: c.fz } N2 ∧ Le N1 N2 w w ∧ ∀ b,N.F r b → N2.ro b:=by
 by_cases hin : r ∈ c.fz
 ·refine ⟨N1,⟨?_,h.le,h.ν,h.F,fun k b hk hb=>h.Fk k b (fun hk'=>hk (List.mem_cons_of_mem _ hk')) hb,h.roO,h.bx,fun k hk=>?_⟩,Le.rfl',(h.fz r hin).1⟩
  ·have : hpS hp base { c with fz:=r :: c.fz } = hpS hp base c:=by
    funext k
    unfold hpS
    by_cases e : k = r
    ·subst e; simp [hin]
    ·simp only [List.mem_cons,e,false_or]; rfl
   rw [this]; exact h.hr
  ·simp only [List.mem_cons] at hk
   exact hk.elim (fun e=>e ▸ h.fz r hin) (h.fz k)
 ·have hlt : r < base:=Classical.byContradiction fun hn=>by rw [hgone r (by omega)] at hr; cases hr
  have hlk : look c.bx r = none:=by
   cases hl : look c.bx r with
   | none=>rfl
   | some o=>obtain ⟨_,cs,_,hb,_⟩:=h.bx r o hl; rw [hr] at hb; cases hb
  have hat : hpS hp base c r = .row T xs d vr vn m:=by simp [hpS,hin,laid,hlk,hlt,hr]
  have hs:=Step.out hC h.hr (r:=r) (by rw [hat]; simp) (fun b=>N1.F r b) (fun b hb=>hb)
  have he : hpS hp base { c with fz:=r :: c.fz } = setH (hpS hp base c) r .out:=by
   funext k
   by_cases e : k = r
   ·subst e; simp [hpS,setH]
   ·rw [Qte0 _ _ e]
    unfold hpS
    simp only [List.mem_cons,e,false_or]; rfl
  have hro : ∀ b,N.F r b → (N1.upd r (N1.ν r) (fun _=>False) (fun _ _ _=>False) (fun b=>N1.F r b)).ro b:=fun b hb=>.inr (h.Fk r b hin hb)
  refine ⟨_,⟨by rw [he]; exact h.hr.step hC hs,h.le.trans' (hs.le h.hr),fun k hk=>?_,fun k b hb=>?_,fun k b hk hb=>?_,fun b hb=>?_,h.bx,fun k hk=>?_⟩,hs.le h.hr,hro⟩
  ·rw [← h.ν k hk]
   by_cases e : k = r
   ·subst e; simp
   ·simp [Nm.upd,e]
  ·by_cases e : k = r
   ·subst e; simp at hb
   ·exact h.F k b (by simpa [Nm.upd,e] using hb)
  ·have e : k ≠ r:=fun e=>hk (by simp [e])
   have:=h.Fk k b (fun hk'=>hk (List.mem_cons_of_mem _ hk')) hb
   simpa [Nm.upd,e] using this
  ·rcases hb with hb | hb
   ·exact h.roO b hb
   ·exact .inr ⟨r,(h.F r b hb).2⟩
  ·simp only [List.mem_cons] at hk
   rcases hk with e | hk
   ·subst e; exact ⟨hro,T,xs,d,vr,vn,m,hr⟩
   ·exact ⟨fun b hb=>.inl ((h.fz k hk).1 b hb),(h.fz k hk).2⟩

theorem ShI.newRow (hC : CodOK P C) {N : Nm} {hp : Nat → AObj Ty El} {base : Nat} {w : World} (hgone : ∀ r,base ≤ r → hp r = .gone) {c : Shd Ty El} {N1 : Nm} (h : ShI C N hp base w c N1) (T : Ty) :
  ∃ N2,ShI C N hp base w { c with new:=c.new ++ [.row T [] (C.hgt T) 0 0 .no] } N2 ∧ Le N1 N2 w w ∧ RepA C N2 w (.slice none 0 0) (.own (base + c.new.length) [] 0):=by
 have hnf : base + c.new.length ∉ c.fz:=fun hm=>by
  obtain ⟨_,_,_,_,_,_,hr⟩:=(h.fz _ hm).2
  rw [hgone _ (by omega)] at hr; cases hr
 have hlk : look c.bx (base + c.new.length) = none:=by
  cases hl : look c.bx (base + c.new.length) with
  | none=>rfl
  | some o=>obtain ⟨_,cs,_,hb,_⟩:=h.bx _ o hl; rw [hgone _ (by omega)] at hb; cases hb
 have hg : hpS hp base c (base + c.new.length) = .gone:=by
  have hx : ¬ base + c.new.length < base:=by omega
  simp [hpS,hnf,laid,hlk,List.getD,hx]
 have hs:=Step.row (r:=base + c.new.length) (T:=T) (xs:=[]) (d:=C.hgt T) (vr:=0) (vn:=0) (m:=.no) (ν:=.slice none 0 0) (F:=fun _=>False) (ro:=fun _=>False) hC h.hr (fun _ _ _=>rfl) (Nat.le_refl _) rfl (fun _=>Deep.nil hC _ _ T)
  (fun p v' u hg'=>by have:=h.hr.reg _ p v' u hg'; rw [hg] at this; exact this.elim) (fun b hb=>hb.elim) (fun b hb=>hb.elim) (fun b hb=>hb.elim) rfl rfl rfl
 have he : hpS hp base { c with new:=c.new ++ [.row T [] (C.hgt T) 0 0 .no] } = setH (hpS hp base c) (base + c.new.length) (.row T [] (C.hgt T) 0 0 .no):=by
  funext k
  by_cases e : k = base + c.new.length
  ·subst e
   rw [Q3el]
   have hx : ¬ base + c.new.length < base:=by omega
   simp [hpS,hnf,laid,hlk,List.getD,hx]
  ·rw [Qte0 _ _ e]
   unfold hpS laid
   by_cases hk : k < base
   ·simp [hk]
   ·have : k - base ≠ c.new.length:=by omega
    simp only [hk,if_false,List.getD]
    by_cases hlt : k - base < c.new.length
    ·rw [List.getElem?_append_left hlt]
    ·rw [List.getElem?_eq_none (by simp; omega),List.getElem?_eq_none (by omega)]
 refine ⟨_,⟨by rw [he]; exact h.hr.step hC hs,h.le.trans' (hs.le h.hr),fun k hk=>?_,fun k b hb=>?_,fun k b hk hb=>?_,fun b hb=>?_,h.bx,fun k hk=>⟨fun b hb=>(hs.le h.hr).ro b ((h.fz k hk).1 b hb),(h.fz k hk).2⟩⟩,hs.le h.hr,.own _ _ _ _ (.inr ⟨rfl,.inl ⟨rfl,rfl,rfl⟩⟩)⟩
 ·have e : k ≠ base + c.new.length:=by omega
  rw [← h.ν k hk]; simp [Nm.upd,e]
 ·by_cases e : k = base + c.new.length
  ·subst e; simp at hb
  ·exact h.F k b (by simpa [Nm.upd,e] using hb)
 ·have hb':=h.Fk k b hk hb
  have e : k ≠ base + c.new.length:=fun e=>by have:=(h.F k b hb').1; omega
  simpa [Nm.upd,e] using hb'
 ·exact h.roO b (hb.resolve_right id)

theorem ShI.reBox (hC : CodOK P C) {N : Nm} {hp : Nat → AObj Ty El} {base : Nat} {w : World} (hH : HR C N hp w) (hgone : ∀ r,base ≤ r → hp r = .gone) {c : Shd Ty El} {N1 : Nm} (h : ShI C N hp base w c N1) {r : Nat} {cs ds : List (AV Ty El)} (hb : hp r = .box cs) (hl : ds.length = cs.length)
  (hc : ∀ (j : Nat) u c d,cs[j]? = some c → ds[j]? = some d → RepA C N w u c → RepA C N1 w u d) : ShI C N hp base w { c with bx:=(r,.box ds) :: c.bx } N1:=by
 have hlt : r < base:=Classical.byContradiction fun hn=>by rw [hgone r (by omega)] at hb; cases hb
 have hnf : r ∉ c.fz:=fun hm=>by
  obtain ⟨_,_,_,_,_,_,hr⟩:=(h.fz _ hm).2
  rw [hb] at hr; cases hr
 have hat : ∃ es,hpS hp base c r = .box es ∧ es.length = cs.length:=by
  simp only [hpS,hnf,if_false,laid,hlt,if_true]
  cases hl' : look c.bx r with
  | none=>exact ⟨cs,hb,rfl⟩
  | some o =>
   obtain ⟨es,cs',e,hb',h1⟩:=h.bx r o hl'
   rw [hb] at hb'
   cases hb'
   exact ⟨es,e,h1⟩
 obtain ⟨es,hes,hel⟩:=hat
 have he : hpS hp base { c with bx:=(r,.box ds) :: c.bx } = setH (hpS hp base c) r (.box ds):=by
  funext k
  by_cases e : k = r
  ·subst e
   rw [Q3el]
   simp [hpS,hnf,laid,look]
  ·rw [Qte0 _ _ e]
   have e' : ¬ r = k:=fun h=>e h.symm
   simp [hpS,laid,look,e']
 refine ⟨?_,h.le,h.ν,h.F,h.Fk,h.roO,fun k o hk=>?_,h.fz⟩
 ·rw [he]
  refine h.hr.reBox hes (hl.trans hel.symm) (fun b arr t hν hh hs j v d hv hd=>?_)
  have ho:=hH.obj r
  rw [hb] at ho
  obtain ⟨b',arr',t',hν',hh',hs',_,hc',_⟩:=ho
  rw [h.ν r hlt,hν'] at hν
  simp only [Value.pointer.injEq,Option.some.injEq,Addr.mk.injEq,and_true] at hν
  subst hν
  rw [hh'] at hh
  simp only [Option.some.injEq,Obj.cells.injEq] at hh
  obtain ⟨rfl,_⟩:=hh
  have hj : j < cs.length:=by rw [← hl]; exact (List.getElem?_eq_some_iff.1 hd).1
  exact hc j v _ d (List.getElem?_eq_getElem hj) hd (hc' j v _ hv (List.getElem?_eq_getElem hj))
 ·simp only [look] at hk
  split at hk
  ·rename_i e
   simp only [Option.some.injEq] at hk
   subst hk; subst e
   exact ⟨ds,cs,rfl,hb,hl⟩
  ·exact h.bx k o hk

theorem Qpjs (hC : CodOK P C) {N N2 : Nm} {hp : Nat → AObj Ty El} {w : World} (hH : HR C N hp w) (hro : ∀ b,N.ro b → N2.ro b) {r : Nat} {p : Path} {ver : Nat} {R : Row Ty El} {u : Value} (hF : ∀ b,N.F r b → N2.ro b) (hR : rowAt C hp r p ver = some R) (hG : N.G r p ver u) : RepA C N2 w u (.sl R.T R.xs):=by
 obtain ⟨_,_,_,_,_,_,_,_,_,_,_,B',hB',hd⟩:=Q2c6 hC hH hR hG
 exact Deep.slR hC hro hd (fun b hb=>hF b (hB' b hb))
theorem Q7o2 (hC : CodOK P C) {N N2 : Nm} {hp : Nat → AObj Ty El} {w : World} (hH : HR C N hp w) (hro : ∀ b,N.ro b → N2.ro b) {r : Nat} {p : Path} {ver lo m : Nat} {R : Row Ty El} {u : Value} (hF : ∀ b,N.F r b → N2.ro b) (hR : rowAt C hp r p ver = some R) (hv : RepA C N w u (.view r p ver (C.sz R.T) lo m)) : RepA C N2 w u (.sl R.T ((R.xs.drop lo).take m)):=by
 cases hv with
 | view _ _ _ _ lo m nn cp aa hG hb =>
  have hsl:=Qpjs hC hH hro hF hR hG
  have hs:=Qnx4 hC (SlR.of_sl hC hsl) hb
  refine RepA.of_SlR hC hs fun b o k cap' hv' hk=>?_
  simp only [Value.slice.injEq] at hv'
  obtain ⟨h1,rfl,_⟩:=hv'
  obtain ⟨A,cap2,he,hle,hz,hat⟩:=Qtys hC hH hR hG
  simp only [Value.slice.injEq] at he
  obtain ⟨rfl,rfl,rfl⟩:=he
  rw [if_neg (by omega)] at h1
  cases aa with
  | none=>cases h1
  | some ad =>
   obtain ⟨b2,rfl,hFb⟩:=hat ad rfl
   simp only [Option.map_some,Qimv,Option.some.injEq,Addr.mk.injEq,and_true] at h1
   rw [← h1.1]
   exact hF b2 hFb

theorem Qtwy {N : Nm} {w : World} {S T : Ty} {xs : List (El S)} {ys : List (El T)} (h : castL C S T xs = some ys) {u : Value} (hu : RepA C N w u (.sl S xs)) : RepA C N w u (.sl T ys):=by
 obtain ⟨e,he⟩:=Q9z4 h
 subst e
 subst he
 exact hu

mutual
theorem Qq2a (hC : CodOK P C) {N : Nm} {hp : Nat → AObj Ty El} {base : Nat} {w : World} (hH : HR C N hp w) (hgone : ∀ r,base ≤ r → hp r = .gone) : ∀ (n : Nat) (sh : Sh Ty) (v x : AV Ty El) (c c' : Shd Ty El) (N1 : Nm),Qbh0 C hp base n sh v c = some (x,c') → ShI C N hp base w c N1 →
  ∃ N2,ShI C N hp base w c' N2 ∧ Le N1 N2 w w ∧ ∀ u,RepA C N w u v → RepA C N2 w u x
 | 0,_,_,_,_,_,_,h,_=>by simp [Qbh0] at h
 | n + 1,sh,v,x,c,c',N1,h,hI=>by
  have stay : some (v,c) = some (x,c') → ∃ N2,ShI C N hp base w c' N2 ∧ Le N1 N2 w w ∧ ∀ u,RepA C N w u v → RepA C N2 w u x:=by
   intro h
   simp only [Option.some.injEq,Prod.mk.injEq] at h
   obtain ⟨rfl,rfl⟩:=h
   exact ⟨N1,hI,Le.rfl',fun u hu=>hu.mono hI.le⟩
  cases v with
  | own r p ver =>
   simp only [Qbh0] at h
   split at h
   ·split at h
    ·rename_i R hR
     split at h
     ·rename_i ys hy
      simp only [Option.some.injEq,Prod.mk.injEq] at h
      obtain ⟨rfl,rfl⟩:=h
      obtain ⟨T0,xs0,d0,vr0,hrow,_⟩:=Qy3i hR
      obtain ⟨N2,h2,hL,hF⟩:=hI.freeze hC hgone hrow
      exact ⟨N2,h2,hL,fun u hu=>Qtwy hy (Qpjs hC hH h2.le.ro hF hR hu.inv_own)⟩
     ·cases h
    ·cases h
   ·exact stay h
  | view r p ver wd lo m =>
   simp only [Qbh0] at h
   split at h
   ·split at h
    ·rename_i R hR
     split at h
     ·rename_i hwd
      split at h
      ·rename_i ys hy
       simp only [Option.some.injEq,Prod.mk.injEq] at h
       obtain ⟨rfl,rfl⟩:=h
       have hwd : wd = C.sz R.T:=hwd
       subst hwd
       obtain ⟨T0,xs0,d0,vr0,hrow,_⟩:=Qy3i hR
       obtain ⟨N2,h2,hL,hF⟩:=hI.freeze hC hgone hrow
       exact ⟨N2,h2,hL,fun u hu=>Qtwy hy (Q7o2 hC hH h2.le.ro hF hR hu)⟩
      ·cases h
     ·cases h
    ·cases h
   ·exact stay h
  | nils =>
   simp only [Qbh0] at h
   split at h
   ·simp only [Option.some.injEq,Prod.mk.injEq] at h
    obtain ⟨rfl,rfl⟩:=h
    exact ⟨N1,hI,Le.rfl',fun u hu=>by cases hu; exact .sl0 _ _ _⟩
   ·rename_i T
    simp only [Option.some.injEq,Prod.mk.injEq] at h
    obtain ⟨rfl,rfl⟩:=h
    obtain ⟨N2,h2,hL,hr⟩:=hI.newRow hC hgone T
    exact ⟨N2,h2,hL,fun u hu=>by cases hu; exact hr⟩
   ·exact stay h
  | ptr r off =>
   simp only [Qbh0] at h
   split at h
   ·rename_i l
    split at h
    ·rename_i cs hb
     split at h
     ·exact stay h
     ·split at h
      ·rename_i ds c1 hd
       simp only [Option.some.injEq,Prod.mk.injEq] at h
       obtain ⟨rfl,rfl⟩:=h
       obtain ⟨N2,h2,hL,hl,hr⟩:=Qgzs hC hH hgone n l cs ds c c1 N1 hd hI
       exact ⟨N2,h2.reBox hC hH hgone hb hl hr,hL,fun u hu=>hu.mono h2.le⟩
      ·cases h
    ·cases h
   ·exact stay h
  | agg cs =>
   simp only [Qbh0] at h
   split at h
   ·rename_i ds c1 hd
    simp only [Option.some.injEq,Prod.mk.injEq] at h
    obtain ⟨rfl,rfl⟩:=h
    obtain ⟨N2,h2,hL,hl,hr⟩:=Qgzs hC hH hgone n _ cs ds c c1 N1 hd hI
    refine ⟨N2,h2,hL,fun u hu=>?_⟩
    obtain ⟨vs,rfl,hl',hcs⟩:=hu.inv_agg
    refine .agg vs ds (hl'.trans hl.symm) fun j v d hv hd=>?_
    have hj : j < cs.length:=by rw [← hl]; exact (List.getElem?_eq_some_iff.1 hd).1
    exact hr j v _ d (List.getElem?_eq_getElem hj) hd (hcs j v _ hv (List.getElem?_eq_getElem hj))
   ·cases h
  | tup cs =>
   simp only [Qbh0] at h
   split at h
   ·rename_i ds c1 hd
    simp only [Option.some.injEq,Prod.mk.injEq] at h
    obtain ⟨rfl,rfl⟩:=h
    obtain ⟨N2,h2,hL,hl,hr⟩:=Qgzs hC hH hgone n _ cs ds c c1 N1 hd hI
    refine ⟨N2,h2,hL,fun u hu=>?_⟩
    obtain ⟨vs,rfl,hl',hcs⟩:=hu.inv_tup
    refine .tup vs ds (hl'.trans hl.symm) fun j v d hv hd=>?_
    have hj : j < cs.length:=by rw [← hl]; exact (List.getElem?_eq_some_iff.1 hd).1
    exact hr j v _ d (List.getElem?_eq_getElem hj) hd (hcs j v _ hv (List.getElem?_eq_getElem hj))
   ·cases h
  | _=>exact stay h
theorem Qgzs (hC : CodOK P C) {N : Nm} {hp : Nat → AObj Ty El} {base : Nat} {w : World} (hH : HR C N hp w) (hgone : ∀ r,base ≤ r → hp r = .gone) : ∀ (n : Nat) (shs : List (Sh Ty)) (vs xs : List (AV Ty El)) (c c' : Shd Ty El) (N1 : Nm),Q5nn C hp base n shs vs c = some (xs,c') → ShI C N hp base w c N1 →
  ∃ N2,ShI C N hp base w c' N2 ∧ Le N1 N2 w w ∧ xs.length = vs.length ∧ ∀ (j : Nat) u v x,vs[j]? = some v → xs[j]? = some x → RepA C N w u v → RepA C N2 w u x
 | 0,_,_,_,_,_,_,h,_=>by simp [Q5nn] at h
 | n + 1,shs,[],xs,c,c',N1,h,hI=>by
  simp only [Q5nn,Option.some.injEq,Prod.mk.injEq] at h
  obtain ⟨rfl,rfl⟩:=h
  exact ⟨N1,hI,Le.rfl',rfl,fun j u v x hv=>by simp at hv⟩
 | n + 1,shs,v :: vs,xs,c,c',N1,h,hI=>by
  simp only [Q5nn] at h
  split at h
  ·rename_i x c1 hx
   split at h
   ·rename_i xs1 c2 hxs
    simp only [Option.some.injEq,Prod.mk.injEq] at h
    obtain ⟨rfl,rfl⟩:=h
    obtain ⟨N2,h2,hL,hr⟩:=Qq2a hC hH hgone n _ v x c c1 N1 hx hI
    obtain ⟨N3,h3,hL3,hl,hr3⟩:=Qgzs hC hH hgone n _ vs xs1 c1 c2 N2 hxs h2
    refine ⟨N3,h3,hL.trans' hL3,by simp [hl],fun j u v' x' hv hx' hu=>?_⟩
    cases j with
    | zero =>
     simp only [List.getElem?_cons_zero,Option.some.injEq] at hv hx'
     subst hv; subst hx'
     exact (hr u hu).mono hL3
    | succ j=>exact hr3 j u v' x' (by simpa using hv) (by simpa using hx') hu
   ·cases h
  ·cases h
end
end
end Lx
namespace Lx
open Go
section
variable {Ty : Type} {El : Ty → Type} {C : Cod Ty El} {P : Program}

theorem Qo92 {hp : Nat → AObj Ty El} : ∀ (n : Nat) (l : List (AV Ty El)) (ns ns' : List Nat),visit hp n l ns = some ns' → ∃ suf,ns' = ns ++ suf ∧ suf.Nodup ∧ ∀ r ∈ suf,r ∉ ns
 | 0,_,_,_,h=>by simp [visit] at h
 | n + 1,l,ns,ns',h=>by
  have same : some ns = some ns' → ∃ suf,ns' = ns ++ suf ∧ suf.Nodup ∧ ∀ r ∈ suf,r ∉ ns:=fun h=>by
   simp only [Option.some.injEq] at h
   exact ⟨[],by simp [h],List.nodup_nil,fun r hr=>by simp at hr⟩
  have add : ∀ (l : List (AV Ty El)) (r : Nat),ns.contains r = false → visit hp n l (ns ++ [r]) = some ns' → ∃ suf,ns' = ns ++ suf ∧ suf.Nodup ∧ ∀ r ∈ suf,r ∉ ns:=fun l r hr h=>by
   obtain ⟨suf,h1,h2,h3⟩:=Qo92 n l (ns ++ [r]) ns' h
   refine ⟨r :: suf,by simp [h1],List.nodup_cons.2 ⟨fun hm=>h3 r hm (by simp),h2⟩,fun k hk=>?_⟩
   simp only [List.mem_cons] at hk
   rcases hk with rfl | hk
   ·intro hm
    have : ns.contains k = true:=by simpa using hm
    rw [this] at hr; cases hr
   ·exact fun hm=>h3 k hk (by simp [hm])
  cases l with
  | nil=>exact same (by simpa only [visit] using h)
  | cons v vs =>
   cases v with
   | own r p ver =>
    simp only [visit] at h
    split at h
    ·rename_i hc; exact add _ r hc.2 h
    ·exact Qo92 n _ _ _ h
   | view r p ver w lo m =>
    simp only [visit] at h
    split at h
    ·rename_i hc; exact add _ r hc.2 h
    ·exact Qo92 n _ _ _ h
   | eptr r p ver w i j =>
    simp only [visit] at h
    split at h
    ·rename_i hc; exact add _ r hc.2 h
    ·exact Qo92 n _ _ _ h
   | ptr r off =>
    simp only [visit] at h
    split at h
    ·exact Qo92 n _ _ _ h
    ·rename_i hc
     split at h
     ·exact add _ r (by simpa using hc) h
     ·cases h
   | mapr r =>
    simp only [visit] at h
    split at h
    ·exact Qo92 n _ _ _ h
    ·rename_i hc
     exact add _ r (by simpa using hc) h
   | agg cs=>exact Qo92 n _ _ _ (by simpa only [visit] using h)
   | tup cs=>exact Qo92 n _ _ _ (by simpa only [visit] using h)
   | fn g cs=>exact Qo92 n _ _ _ (by simpa only [visit] using h)
   | _=>exact Qo92 n _ _ _ (by simpa only [visit] using h)

theorem Qrl6 {hp hp2 : Nat → AObj Ty El} {f : Nat → Option Nat} (hag : ∀ r,hp2 r = hp r ∨ (f r = none ∧ hp2 r = .out)) : ∀ (n : Nat) (x y : AV Ty El),renC hp f n x = some y → renC hp2 f n x = some y:=by
 have hcur : ∀ r p ver,f r ≠ none → cur hp2 r p ver = cur hp r p ver:=fun r p ver hr=>by
  rcases hag r with h | ⟨h,_⟩
  ·unfold cur; rw [h]
  ·exact absurd h hr
 have hcurF : ∀ r p ver,cur hp r p ver ≠ true → cur hp2 r p ver ≠ true:=fun r p ver hr=>by
  rcases hag r with h | ⟨_,h⟩
  ·unfold cur at hr ⊢; rw [h]; exact hr
  ·unfold cur; rw [h]; simp
 intro n
 induction n with
 | zero=>intro x y h; simp [renC] at h
 | succ n ih =>
  intro x y h
  have kids : ∀ (cs ds : List (AV Ty El)),omap (renC hp f n) cs = some ds → omap (renC hp2 f n) cs = some ds:=by
   intro cs
   induction cs with
   | nil=>intro ds h; exact h
   | cons c cs ihc =>
    intro ds h
    simp only [omap] at h ⊢
    split at h
    ·rename_i d hd
     rw [ih c d hd]
     split at h
     ·rename_i ds' hds
      rw [ihc ds' hds]; exact h
     ·cases h
    ·cases h
  cases x with
  | own r p ver =>
   simp only [renC] at h ⊢
   split at h
   ·rename_i hc
    split at h
    ·rename_i k hk
     rw [if_pos (by rw [hcur r p ver (by simp [hk])]; exact hc)]
     simpa only [hk] using h
    ·cases h
   ·rename_i hc
    rw [if_neg (hcurF r p ver hc)]; exact h
  | view r p ver w lo m =>
   simp only [renC] at h ⊢
   split at h
   ·rename_i hc
    split at h
    ·rename_i k hk
     rw [if_pos (by rw [hcur r p ver (by simp [hk])]; exact hc)]
     simpa only [hk] using h
    ·cases h
   ·rename_i hc
    rw [if_neg (hcurF r p ver hc)]; exact h
  | eptr r p ver w i j =>
   simp only [renC] at h ⊢
   split at h
   ·rename_i hc
    split at h
    ·rename_i k hk
     rw [if_pos (by rw [hcur r p ver (by simp [hk])]; exact hc)]
     simpa only [hk] using h
    ·cases h
   ·rename_i hc
    rw [if_neg (hcurF r p ver hc)]; exact h
  | ptr r off =>
   simp only [renC] at h ⊢
   rcases hag r with e | ⟨e1,e2⟩
   ·rw [e]; exact h
   ·rw [e2]
    rw [e1] at h
    split at h
    ·cases h
    ·exact h
  | mapr r =>
   simp only [renC] at h ⊢
   rcases hag r with e | ⟨e1,e2⟩
   ·rw [e]; exact h
   ·rw [e2]
    rw [e1] at h
    split at h
    ·cases h
    ·exact h
  | agg cs =>
   simp only [renC] at h ⊢
   split at h
   ·rename_i ds hds; rw [kids cs ds hds]; exact h
   ·cases h
  | tup cs =>
   simp only [renC] at h ⊢
   split at h
   ·rename_i ds hds; rw [kids cs ds hds]; exact h
   ·cases h
  | fn g cs =>
   simp only [renC] at h ⊢
   split at h
   ·rename_i ds hds; rw [kids cs ds hds]; exact h
   ·cases h
  | _=>exact h

theorem Q5t0 {α β : Type} {f g : α → Option β} (h : ∀ x y,f x = some y → g x = some y) : ∀ (l : List α) (m : List β),omap f l = some m → omap g l = some m
 | [],m,e=>e
 | a :: l,m,e=>by
  simp only [omap] at e ⊢
  split at e
  ·rename_i b hb
   rw [h a b hb]
   split at e
   ·rename_i m' hm
    rw [Q5t0 h l m' hm]; exact e
   ·cases e
  ·cases e

theorem Qij3 {hp hp2 : Nat → AObj Ty El} {f : Nat → Option Nat} (hag : ∀ r,hp2 r = hp r ∨ (f r = none ∧ hp2 r = .out)) {r : Nat} (hr : hp2 r = hp r) {o : AObj Ty El} (h : Q049 hp f r = some o) : Q049 hp2 f r = some o:=by
 unfold Q049 at h ⊢
 rw [hr]
 split at h
 ·split at h
  ·rename_i ds hds
   rw [Q5t0 (Qrl6 hag 4) _ _ hds]; exact h
  ·cases h
 ·exact h
 ·exact h
 ·cases h

structure CanonRes (C : Cod Ty El) (N N' : Nm) (hp : Nat → AObj Ty El) (w : World) (m : Nat) (vs xs : List (AV Ty El)) (h : List (AObj Ty El)) : Prop where
 hr : HR C N' (hpOf h) w
 len : xs.length = vs.length
 val : ∀ (j : Nat) v x,vs[j]? = some v → xs[j]? = some x → ∀ u,RepA C N w u v → RepA C N' w u x
 io : ∀ k,k < m → stays (hpOf h) k = true → stays hp k = true ∧ N'.ν k = N.ν k
 nog : ∀ k,k < m → hpOf h k ≠ .gone
 roI : ∀ b,N.ro b → N'.ro b
 roO : ∀ b,N'.ro b → N.ro b ∨ ∃ r,N.F r b
 blk : ∀ k b,N'.F k b → ∃ r,N.F r b

theorem Qsxd {m : Nat} {q : Nat → Bool} {suf : List Nat} (hnd : suf.Nodup) (hni : ∀ r ∈ suf,r ∉ (List.range m).filter q) : Qe1t ((List.range m).map (fun r=>if q r then some r else none) ++ suf.map some):=by
 have left : ∀ k,k < m → ∀ r,((List.range m).map (fun r=>if q r then some r else none) ++ suf.map some)[k]? = some (some r) → r = k ∧ q r = true:=fun k hk r h=>by
  rw [List.getElem?_append_left (by simpa using hk)] at h
  simp only [List.getElem?_map,List.getElem?_range hk,Option.map_some,Option.some.injEq] at h
  split at h
  ·rename_i hq
   simp only [Option.some.injEq] at h
   subst h; exact ⟨rfl,hq⟩
  ·cases h
 have right : ∀ k,¬ k < m → ∀ r,((List.range m).map (fun r=>if q r then some r else none) ++ suf.map some)[k]? = some (some r) → suf[k - m]? = some r:=fun k hk r h=>by
  rw [List.getElem?_append_right (by simp; omega)] at h
  simpa [List.getElem?_map] using h
 intro k k' r h h'
 by_cases hk : k < m
 ·obtain ⟨e1,hq⟩:=left k hk r h
  by_cases hk' : k' < m
  ·exact e1.symm.trans (left k' hk' r h').1
  ·have:=right k' hk' r h'
   exact absurd (List.mem_filter.2 ⟨List.mem_range.2 (e1 ▸ hk),hq⟩) (hni r (List.mem_of_getElem? this))
 ·have e1:=right k hk r h
  by_cases hk' : k' < m
  ·obtain ⟨e2,hq⟩:=left k' hk' r h'
   exact absurd (List.mem_filter.2 ⟨List.mem_range.2 (e2 ▸ hk'),hq⟩) (hni r (List.mem_of_getElem? e1))
  ·have e2:=right k' hk' r h'
   have:=Qeqi hnd e1 e2
   omega

theorem Q2yc (hC : CodOK P C) {N : Nm} {hp : Nat → AObj Ty El} {w : World} (hH : HR C N hp w) {base m : Nat} (hgone : ∀ r,base ≤ r → hp r = .gone) (hnog : ∀ k,k < m → hp k ≠ .gone) {shs : List (Sh Ty)} {vs xs : List (AV Ty El)} {h : List (AObj Ty El)} (hc : Qn4s C hp base m shs vs = some (xs,h)) :
  ∃ N',CanonRes C N N' hp w m vs xs h:=by
 unfold Qn4s at hc
 split at hc
 ·cases hc
 ·rename_i vs1 c hsh
  simp only at hc
  split at hc
  ·cases hc
  ·rename_i ns hvis
   split at hc
   ·rename_i xs' os hx hos
    split at hc
    ·rename_i hfz
     simp only [Option.some.injEq,Prod.mk.injEq] at hc
     obtain ⟨rfl,rfl⟩:=hc
     have h00 : hpS hp base (⟨[],[],[]⟩ : Shd Ty El) = hp:=by
      funext k
      simp only [hpS,laid,look,List.not_mem_nil,if_false]
      split
      ·rfl
      ·rename_i hk; rw [hgone k (by omega)]; rfl
     have hI0 : ShI C N hp base w (⟨[],[],[]⟩ : Shd Ty El) N:=by
      refine ⟨by rw [h00]; exact hH,Le.rfl',fun r _=>rfl,fun r b hb=>⟨?_,hb⟩,fun r b _ hb=>hb,fun b hb=>.inl hb,fun r o ho=>by simp [look] at ho,fun r hr=>by simp at hr⟩
      refine Classical.byContradiction fun hn=>?_
      have ho:=hH.obj r
      rw [hgone r (by omega)] at ho
      exact ho b hb
     obtain ⟨N2,hI,hL,hl1,hval⟩:=Qgzs hC hH hgone 40 shs vs vs1 _ c N hsh hI0
     obtain ⟨suf,hns,hnd,hni⟩:=Qo92 _ _ _ _ hvis
     have hdrop : ns.drop ((List.range m).filter (fun r=>stays (laid hp base c) r && !c.fz.contains r)).length = suf:=by rw [hns]; simp
     rw [hdrop] at hx hos hfz
     generalize htab : (List.range m).map (fun r=>if (stays (laid hp base c) r && !c.fz.contains r) then some r else none) ++ suf.map some = tab at hx hos hfz
     have hinj : Qe1t tab:=by rw [← htab]; exact Qsxd hnd hni
     have hnfz : ∀ (k r : Nat),tab[k]? = some (some r) → r ∉ c.fz:=fun k r hk hm=>by
      have:=List.all_eq_true.1 hfz r hm
      simp only [Option.isNone_iff_eq_none] at this
      exact Qom6 this (List.mem_of_getElem? hk)
     have hag : ∀ r,hpS hp base c r = laid hp base c r ∨ ((fun r=>idxO r tab 0) r = none ∧ hpS hp base c r = .out):=fun r=>by
      by_cases hr : r ∈ c.fz
      ·refine .inr ⟨by simpa using List.all_eq_true.1 hfz r hr,by simp [hpS,hr]⟩
      ·exact .inl (by simp [hpS,hr])
     obtain ⟨hlen,hat⟩:=Qd6l hos
     have hget : ∀ (k : Nat) t,tab[k]? = some t → ∃ o,os[k]? = some o ∧ (match t with | some r=>Q049 (laid hp base c) (fun r=>idxO r tab 0) r | none=>some .out) = some o:=fun k t hk=>by
      have hlt : k < os.length:=by rw [hlen]; exact (List.getElem?_eq_some_iff.1 hk).1
      obtain ⟨a,ha,hb⟩:=hat k os[k] (List.getElem?_eq_getElem hlt)
      rw [hk] at ha
      cases ha
      exact ⟨os[k],List.getElem?_eq_getElem hlt,hb⟩
     obtain ⟨hr,hcur,hptr⟩:=Q897 hC hI.hr hinj (os:=os) hlen
      (fun k r hk=>by
       obtain ⟨o,h1,h2⟩:=hget k _ hk
       exact ⟨o,h1,Qij3 hag (by have:=hnfz k r hk; simp [hpS,this]) h2⟩)
      (fun k hk=>by
       obtain ⟨o,h1,h2⟩:=hget k _ hk
       simp only [Option.some.injEq] at h2
       rw [h1,h2])
     have htl : m ≤ tab.length:=by rw [← htab]; simp
     have htk : ∀ k,k < m → tab[k]? = some (if (stays (laid hp base c) k && !c.fz.contains k) then some k else none):=fun k hk=>by
      rw [← htab,List.getElem?_append_left (by simpa using hk)]
      simp [List.getElem?_map,List.getElem?_range hk]
     refine ⟨_,hr, ?_,fun j v x hv hx' u hu=>?_,fun k hk hst=>?_,fun k hk=>?_,fun b hb=>hL.ro b hb,fun b hb=>hI.roO b hb,fun k b hb=>?_⟩
     ·rw [(Qd6l hx).1,hl1]
     ·obtain ⟨v1,hv1,hr1⟩:=(Qd6l hx).2 j x hx'
      have h1:=hval j u v v1 hv hv1 hu
      exact Qgpm (N:=N2) (Nc:=Qme7 N2 (hpS hp base c) w C tab os) hC (fun _ h=>h) hcur hptr 6 v1 x u h1 (Qrl6 hag 6 _ _ hr1)
     ·have hkb : k < base:=Classical.byContradiction fun hn=>hnog k hk (hgone k (by omega))
      have ht:=htk k hk
      split at ht
      ·rename_i hs
       replace hs:=(Bool.and_eq_true _ _ ▸ hs : stays (laid hp base c) k = true ∧ (!c.fz.contains k) = true).1
       refine ⟨?_,by rw [← hI.ν k hkb]; simp [Qme7,ht]⟩
       unfold stays laid at hs
       cases hl : look c.bx k with
       | none=>rw [hl] at hs; simp only [hkb,if_true] at hs; exact hs
       | some o =>
        obtain ⟨ds,cs,e,hb,_⟩:=hI.bx k o hl
        simp [stays,hb]
      ·obtain ⟨o,h1,h2⟩:=hget k _ ht
       simp only [Option.some.injEq] at h2
       subst h2
       unfold stays at hst
       rw [Qirx h1] at hst
       cases hst
     ·obtain ⟨o,h1,h2⟩:=hget k _ (htk k hk)
      rw [Qirx h1]
      split at h2
      ·unfold Q049 at h2
       split at h2
       ·split at h2
        ·cases h2; simp
        ·cases h2
       ·split at h2
        ·cases h2; simp
        ·cases h2
       ·cases h2; simp
       ·cases h2
      ·cases h2; simp
     ·simp only [Qme7] at hb
      split at hb
      ·rename_i r ht; exact ⟨r,(hI.F r b hb).2⟩
      ·exact hb.elim
    ·cases hc
   ·cases hc
end
end Lx
namespace Lx
open Go
section
variable {Ty : Type} {El : Ty → Type} {C : Cod Ty El} {P : Program}

def Run (P : Program) (f : FuncId) (todo : List Item) (a : Act) (w : World) (R : Value → World → Prop) : Prop :=
 ∀ (b : Frame) (cs : List Frame),b.fn = f → b.kind = .normal → ∃ v w' fr,R v w' ∧ Steps P (lone (b.at a todo) cs w) (lone fr cs w') ∧ fr.fn = f ∧ fr.leaving P w' (.returned v)

theorem Run.step {f : FuncId} {todo todo' : List Item} {a : Act} {w : World} {R : Value → World → Prop} (hs : ∀ (b : Frame) cs,step P (lone (b.at a todo) cs w) = .next (lone (b.at a todo') cs w)) (h : Run P f todo' a w R) : Run P f todo a w R:=by
 intro b cs hb hk
 obtain ⟨v,w',fr,hR,hst,hrest⟩:=h b cs hb hk
 exact ⟨v,w',fr,hR,.head (hs b cs) hst,hrest⟩

theorem Run.leave {f : FuncId} {fn : Func} (hf : P.funcs[f]? = some fn) {todo : List Item} {a : Act} {w : World} {R : Value → World → Prop} {v : Value} (ht : todo = [] ∨ ∃ k,todo = .code .ret :: k) (hd : a.defers = [])
  (hr : (results fn a.tmps).run P w = .ok v w) (hR : R v w) : Run P f todo a w R:=by
 intro b cs hb hk
 refine ⟨v,w, { b.at a todo with mode:=.returning },hR, ?_,hb,rfl,hd,hk,fn, ?_,hr⟩
 ·rcases ht with rfl | ⟨k,rfl⟩
  ·exact .one step_end
  ·exact .one step_ret
 ·show P.funcs[b.fn]? = some fn
  rw [hb]; exact hf

theorem Run.code {f : FuncId} {c : Code} {k : List Item} {a : Act} {w : World} {R : Value → World → Prop} (h : c.wp P (fun e a' w'=>e = .normal ∧ Run P f k a' w' R) a w) : Run P f (.code c :: k) a w R:=by
 intro b cs hb hk
 obtain ⟨e,a',w',⟨he,hq⟩,harr⟩:=h b k cs
 subst he
 obtain ⟨v,w2,fr,hR,hst,hrest⟩:=hq b cs hb hk
 exact ⟨v,w2,fr,hR,Steps.trans harr hst,hrest⟩

theorem Run.calls {f : FuncId} {fn : Func} {c : Code} {args : Array Value} {w : World} {R : Value → World → Prop} (hf : P.funcs[f]? = some fn) (hb : fn.body = some c)
  (h : Run P f [.code c] { tmps:=args ++ Array.replicate (fn.ntmps - args.size) undef,defers:=[] } w R) : Calls P f args w fun en w'=>∃ v,en = .returned v ∧ R v w':=by
 intro cs
 let b : Frame:={ (default : Frame) with fn:=f,kind:=.normal }
 have henter : Frame.enter P f args .normal = b.at { tmps:=args ++ Array.replicate (fn.ntmps - args.size) undef,defers:=[] } [.code c]:=by
  simp [Frame.enter,Frame.at,hf,hb,b]
 obtain ⟨v,w',fr,hR,hst,hfn,hl⟩:=h b cs rfl rfl
 rw [← henter] at hst
 exact ⟨.returned v,w',fr,⟨v,rfl,hR⟩,hst,hfn,hl⟩

def Post (C : Cod Ty El) (X : Cx) (res : AV Ty El) (H' : List (AObj Ty El)) (v : Value) (w' : World) : Prop :=
 ∃ N',HR C N' (hpOf H') w' ∧ RepA C N' w' v res ∧ (∀ k,k < X.m → stays (hpOf H') k = true → N'.ν k = X.ν0 k) ∧ (∀ b,X.ro0 b → N'.ro b) ∧ (∀ b,N'.ro b → X.ro0 b ∨ X.w0.heap.size ≤ b ∨ X.mine b) ∧ Fr X.w0 w' X.mine ∧
  (∀ k b,N'.F k b → X.w0.heap.size ≤ b ∨ X.mine b)

def Goes (R : RE Ty El) (f : FuncId) (todo : List Item) (tm : Nat → AV Ty El) (hp : Nat → AObj Ty El) (res : AV Ty El) (H' : List (AObj Ty El)) : Prop :=
 ∀ (X : Cx) (N : Nm) (a : Act) (w : World),X.n = R.fn.ntmps → X.m = R.m → SimN R.C X N tm hp a w → Run R.P f todo a w (Post R.C X res H')

def Q1m4 (R : RE Ty El) : List Item → List (Nat × Sh Ty)
 | .code (.region id _ _) :: _=>(cutAt R.cuts id).getD []
 | _=>[]
def Q8dz (R : RE Ty El) (f : FuncId) (res : AV Ty El) (H' : List (AObj Ty El)) : Leaf Ty El → Prop
 | .ret v h=>v = res ∧ h = H'
 | .go todo vals h=>Goes R f todo (cutSt R.fn (Q1m4 R todo) vals h).tmF (cutSt R.fn (Q1m4 R todo) vals h).hpF res H'

structure REOK (R : RE Ty El) (f : FuncId) : Prop where
 hC : CodOK R.P R.C
 hE : TabOK R.P R.C R.E
 mix : R.P.follows .mixedOrders = true
 fn : R.P.funcs[f]? = some R.fn

theorem Q21v {fn : Func} {tmps : Array Value} {w : World} {vs : List Value} : ∀ {l : List ResultVar},fn.results.toList = l →
  (l.mapM (fun (r : ResultVar)=>match r with | .tmp t=>(pure (tmps.getD t undef) : Sem Value) | .cell a t=>do loadVar t (← asAddr (tmps.getD a undef)))).run P w = .ok vs w →
  (results fn tmps).run P w = .ok (if h : vs.length = 1 then vs[0] else .tuple vs.toArray) w:=by
 intro l hl h
 unfold results
 have e : fn.results = l.toArray:=by rw [← hl]
 rw [e,List.mapM_toArray]
 simp only [Sem.run_bind,Sem.run_map]
 have h':=h
 refine (congrArg (fun r=>Result.andThen (Result.andThen r _) _) h').trans ?_
 simp only [Result.andThen_ok,Sem.run_pure]
 congr 1

theorem Qo8n {R : RE Ty El} (hC : CodOK R.P R.C) {X : Cx} {N : Nm} {s : St Ty El} {a : Act} {w : World} (hS : SimN R.C X N s.tmF s.hpF a w) (hn : s.tm.length = X.n) : ∀ (l : List ResultVar) (vs : List (AV Ty El)),Qhxb R s l = some vs →
  ∃ us : List Value,(l.mapM (fun (r : ResultVar)=>match r with | .tmp t=>(pure (a.tmps.getD t undef) : Sem Value) | .cell p t=>do loadVar t (← asAddr (a.tmps.getD p undef)))).run R.P w = .ok us w ∧ us.length = vs.length ∧
   ∀ (j : Nat) u v,us[j]? = some u → vs[j]? = some v → RepA R.C N w u v
 | [],vs,h=>by
  simp only [Qhxb,Option.some.injEq] at h
  subst h
  exact ⟨[],by simp,rfl,fun j u v hu=>by simp at hu⟩
 | r :: l,vs,h=>by
  have hout : ∀ t,X.n ≤ t → s.tmF t = .dead:=fun t ht=>by
   have : s.tm.length ≤ t:=hn ▸ ht
   simp [St.tmF,this]
  have glue : ∀ (u : Value) (v : AV Ty El) (vs' : List (AV Ty El)),RepA R.C N w u v → Qhxb R s l = some vs' → vs = v :: vs' →
    (match r with | .tmp t=>(pure (a.tmps.getD t undef) : Sem Value) | .cell p t=>do loadVar t (← asAddr (a.tmps.getD p undef))).run R.P w = .ok u w →
    ∃ us : List Value,((r :: l).mapM (fun (r : ResultVar)=>match r with | .tmp t=>(pure (a.tmps.getD t undef) : Sem Value) | .cell p t=>do loadVar t (← asAddr (a.tmps.getD p undef)))).run R.P w = .ok us w ∧ us.length = vs.length ∧
     ∀ (j : Nat) u v,us[j]? = some u → vs[j]? = some v → RepA R.C N w u v:=by
   intro u v vs' hu hr hvs hrun
   subst hvs
   obtain ⟨us,h1,h2,h3⟩:=Qo8n hC hS hn l vs' hr
   refine ⟨u :: us, ?_,by simp [h2],fun j u' v' hu' hv'=>?_⟩
   ·rw [List.mapM_cons]
    simp only [Sem.run_bind]
    rw [hrun]
    simp only [Result.andThen_ok,Sem.run_bind]
    rw [h1]
    simp only [Result.andThen_ok,Sem.run_pure]
   ·cases j with
    | zero=>simp only [List.getElem?_cons_zero,Option.some.injEq] at hu' hv'; subst hu'; subst hv'; exact hu
    | succ j=>exact h3 j u' v' (by simpa using hu') (by simpa using hv')
  cases r with
  | tmp t =>
   simp only [Qhxb] at h
   split at h
   ·rename_i vs' hr
    simp only [Option.some.injEq] at h
    exact glue (a.tmps.getD t undef) (s.tmF t) vs' (hS.evalO hout (.tmp t)) hr h.symm (by simp)
   ·cases h
  | cell p t =>
   simp only [Qhxb] at h
   split at h
   ·rename_i v rd hl
    split at h
    ·rename_i vs' hr
     simp only [Option.some.injEq] at h
     obtain ⟨u,hu1,hu2⟩:=Qtgg hC hS.hr (hS.evalO hout (.tmp p)) hl
     refine glue u v vs' hu2 hr h.symm ?_
     have hu1' : (Instr.loadAt t (a.tmps.getD p undef)).run R.P w = .ok u w:=hu1
     show (do loadVar t (← asAddr (a.tmps.getD p undef)) : Sem Value).run R.P w = .ok u w
     generalize a.tmps.getD p undef = q at hu1' ⊢
     cases q with
     | pointer o=>cases o with
      | some ad=>exact hu1'
      | none=>simp [Instr.loadAt,Instr.sureAddr] at hu1'
     | _=>simp [Instr.loadAt,Instr.sureAddr] at hu1'
    ·cases h
   ·cases h

theorem Q9wt : ∀ (ls : List (Nat × Sh Ty)) (vs : List (AV Ty El)) (tm : List (AV Ty El)) (t : Nat),(Qd6c tm ls vs).getD t .dead = tm.getD t .dead ∨
  ∃ (j : Nat) (p : Nat × Sh Ty) (x : AV Ty El),ls[j]? = some p ∧ p.1 = t ∧ vs[j]? = some x ∧ (Qd6c tm ls vs).getD t .dead = x
 | [],vs,tm,t=>.inl (by cases vs <;> rfl)
 | p :: ls,[],tm,t=>.inl rfl
 | (t0,sh) :: ls,v :: vs,tm,t=>by
  simp only [Qd6c]
  rcases Q9wt ls vs (setL tm t0 v) t with h | ⟨j,p,x,h1,h2,h3,h4⟩
  ·rw [Ql0j] at h
   by_cases hc : t = t0 ∧ t0 < tm.length
   ·rw [if_pos hc] at h
    exact .inr ⟨0,(t0,sh),v,rfl,hc.1.symm,rfl,h⟩
   ·rw [if_neg hc] at h
    exact .inl h
  ·exact .inr ⟨j + 1,p,x,by simpa using h1,h2,by simpa using h3,h4⟩
theorem Qouf : ∀ (ls : List (Nat × Sh Ty)) (vs : List (AV Ty El)) (tm : List (AV Ty El)),(Qd6c tm ls vs).length = tm.length
 | [],vs,tm=>by cases vs <;> rfl
 | p :: ls,[],tm=>rfl
 | (t0,sh) :: ls,v :: vs,tm=>by simp only [Qd6c]; rw [Qouf ls vs,Qcdj]

theorem Q8wx {R : RE Ty El} {f : FuncId} (hR : REOK R f) {s : St Ty El} {lf : Leaf Ty El} {res : AV Ty El} {H' : List (AObj Ty El)} (h : Q2hy R s = some lf) (hlf : Q8dz R f res H' lf) (hn : s.tm.length = R.fn.ntmps)
  {todo : List Item} (ht : todo = [] ∨ ∃ k,todo = .code .ret :: k) : Goes R f todo s.tmF s.hpF res H':=by
 intro X N a w hXn hXm hS
 unfold Q2hy at h
 split at h
 ·cases h
 ·rename_i vs hv
  split at h
  ·rename_i xs hh hc
   simp only [Option.some.injEq] at h
   subst h
   obtain ⟨rfl,rfl⟩:=hlf
   obtain ⟨us,h1,h2,h3⟩:=Qo8n hR.hC hS (hn.trans hXn.symm) _ vs hv
   obtain ⟨N',hcr⟩:=Q2yc hR.hC hS.hr (fun r hr=>by simp [St.hpF,hr]) (fun k hk=>hS.nog k (hXm ▸ hk)) hc
   refine Run.leave hR.fn ht hS.defers (Q21v rfl h1) ⟨N',hcr.hr, ?_,fun k hk hst=>?_,fun b hb=>hcr.roI b (hS.roI b hb),fun b hb=>?_,hS.fr,fun k b hb=>?_⟩
   ·have hval : ∀ (j : Nat) u x,us[j]? = some u → xs[j]? = some x → RepA R.C N' w u x:=fun j u x hu hx=>by
     have hj : j < vs.length:=by rw [← h2]; exact (List.getElem?_eq_some_iff.1 hu).1
     have hvj : vs[j]? = some vs[j]:=List.getElem?_eq_getElem hj
     exact hcr.val j vs[j] x hvj hx u (h3 j u vs[j] hu hvj)
    have hlen : us.length = xs.length:=h2.trans hcr.len.symm
    by_cases h1' : us.length = 1
    ·rw [dif_pos h1']
     have hx1 : xs.length = 1:=hlen ▸ h1'
     match xs,hx1,hval with
     | [x],_,hval=>exact hval 0 us[0] x (List.getElem?_eq_getElem (by omega)) rfl
    ·rw [dif_neg h1']
     have hone : one xs = .tup xs:=by
      match xs,hlen with
      | [],_=>rfl
      | [x],hl=>exact absurd hl h1'
      | x :: y :: l,_=>rfl
     rw [hone]
     exact .tup us.toArray xs (by simpa using hlen) fun j u x hu hx=>hval j u x (by simpa using hu) hx
   ·rw [hXm] at hk
    obtain ⟨h1',h2'⟩:=hcr.io k hk hst
    exact h2'.trans (hS.io k (hXm ▸ hk) h1')
   ·rcases hcr.roO b hb with h | ⟨r,h⟩
    ·exact hS.roO b h
    ·exact .inr (hS.live r b h)
   ·obtain ⟨r,h⟩:=hcr.blk k b hb
    exact hS.live r b h
  ·cases h

theorem Qurc {R : RE Ty El} {f : FuncId} (hR : REOK R f) {s : St Ty El} {lf : Leaf Ty El} {res : AV Ty El} {H' : List (AObj Ty El)} {todo : List Item} (h : Qzwk R (Q1m4 R todo) todo s = some lf) (hlf : Q8dz R f res H' lf)
  (hn : s.tm.length = R.fn.ntmps) : Goes R f todo s.tmF s.hpF res H':=by
 intro X N a w hXn hXm hS
 unfold Qzwk at h
 split at h
 ·rename_i xs hh hc
  simp only [Option.some.injEq] at h
  subst h
  obtain ⟨N',hcr⟩:=Q2yc hR.hC hS.hr (fun r hr=>by simp [St.hpF,hr]) (fun k hk=>hS.nog k (hXm ▸ hk)) hc
  refine hlf X N' a w hXn hXm ⟨hcr.hr,fun t ht=>?_,hS.size,hS.defers,hS.fr,fun r b hb=>?_,fun k hk hst=>?_,fun k hk=>hcr.nog k (hXm ▸ hk),fun b hb=>hcr.roI b (hS.roI b hb),fun b hb=>?_⟩
  ·rcases Q9wt (Q1m4 R todo) xs (List.replicate R.fn.ntmps .dead) t with h1 | ⟨j,p,x,h1,h2,h3,h4⟩
   ·have e : (cutSt R.fn (Q1m4 R todo) xs hh).tmF t = .dead:=by
     show (Qd6c _ _ _).getD t .dead = _
     rw [h1,List.getD_eq_getElem?_getD,List.getElem?_replicate]
     split <;> rfl
    rw [e]; exact .dead _
   ·have e : (cutSt R.fn (Q1m4 R todo) xs hh).tmF t = x:=h4
    rw [e]
    refine hcr.val j (s.tmF t) x ?_ h3 _ (hS.tmps t ht)
    rw [List.getElem?_map,h1]
    simp [h2]
  ·obtain ⟨r',h⟩:=hcr.blk r b hb
   exact hS.live r' b h
  ·obtain ⟨h1',h2'⟩:=hcr.io k (hXm ▸ hk) hst
   exact h2'.trans (hS.io k hk h1')
  ·rcases hcr.roO b hb with h | ⟨r,h⟩
   ·exact hS.roO b h
   ·exact .inr (hS.live r b h)
 ·cases h

theorem Qyxv {R : RE Ty El} {f : FuncId} (hR : REOK R f) {res : AV Ty El} {H' : List (AObj Ty El)} : ∀ (n : Nat) (first : Bool) (todo : List Item) (s : St Ty El) (lf : Leaf Ty El),aRun R n first todo s = some lf → Q8dz R f res H' lf →
  s.tm.length = R.fn.ntmps → Goes R f todo s.tmF s.hpF res H':=by
 intro n
 induction n with
 | zero=>intro first todo s lf h; simp [aRun] at h
 | succ n ih =>
  intro first todo s lf h hlf hn
  have hop : ∀ {todo todo' : List Item} {s : St Ty El},(∀ a w,∀ (b : Frame) cs,step R.P (lone (b.at a todo) cs w) = .next (lone (b.at a todo') cs w)) → Goes R f todo' s.tmF s.hpF res H' → Goes R f todo s.tmF s.hpF res H' :=
   fun hs hg X N a w hXn hXm hS=>Run.step (hs a w) (hg X N a w hXn hXm hS)
  cases todo with
  | nil=>exact Q8wx hR h hlf hn (.inl rfl)
  | cons it k =>
   cases it with
   | code c =>
    cases c with
    | skip=>exact hop (fun _ _ _ _=>step_skip) (ih _ _ _ _ h hlf hn)
    | label l=>exact hop (fun _ _ _ _=>step_label) (ih _ _ _ _ h hlf hn)
    | seq x y=>exact hop (fun _ _ _ _=>step_seq) (ih _ _ _ _ h hlf hn)
    | block id c=>exact hop (fun _ _ _ _=>step_block) (ih _ _ _ _ h hlf hn)
    | loop c=>exact hop (fun _ _ _ _=>step_loop) (ih _ _ _ _ h hlf hn)
    | exit id =>
     simp only [aRun] at h
     split at h
     ·rename_i k' hk'
      exact hop (fun _ _ _ _=>step_exit hk') (ih _ _ _ _ h hlf hn)
     ·cases h
    | ret=>exact Q8wx hR h hlf hn (.inr ⟨k,rfl⟩)
    | cond c x y =>
     simp only [aRun] at h
     split at h
     ·rename_i t hc
      have hout : ∀ {X : Cx},X.n = R.fn.ntmps → ∀ t,X.n ≤ t → s.tmF t = .dead:=fun hXn t ht=>by
       have : s.tm.length ≤ t:=by rw [hn,← hXn]; exact ht
       simp [St.tmF,this]
      intro X N a w hXn hXm hS
      have hv:=hS.evalO (hout hXn) c
      rw [hc] at hv
      have hb:=hv.inv_bool
      refine Run.step (fun b cs=>step_cond hb) ?_
      cases t with
      | true=>exact ih _ _ _ _ h hlf hn X N a w hXn hXm hS
      | false=>exact ih _ _ _ _ h hlf hn X N a w hXn hXm hS
     ·cases h
    | region id ops draw =>
     simp only [aRun] at h
     split at h
     ·rename_i live hlive
      have hl : live = Q1m4 R (.code (.region id ops draw) :: k):=by
       cases first with
       | true=>simp at hlive
       | false=>simp only [Bool.false_eq_true,if_false] at hlive; simp [Q1m4,hlive]
      rw [hl] at h
      exact Qurc hR h hlf hn
     ·intro X N a w hXn hXm hS
      refine Run.code (Qwn3 hR.hC hR.mix hR.hE (K:=fun s _=>aRun R n false k s) hS (hn.trans hXn.symm) h fun a' w' N' s' lg hn' hS' hk=>⟨rfl, ?_⟩)
      exact ih _ _ _ _ hk hlf (hn'.trans hXn) X N' a' w' hXn hXm hS'
    | _=>simp [aRun] at h
   | inBlock id=>exact hop (fun _ _ _ _=>step_inBlock) (ih _ _ _ _ h hlf hn)
   | inLoop c=>exact hop (fun _ _ _ _=>step_inLoop) (ih _ _ _ _ h hlf hn)
   | _=>simp [aRun] at h

theorem Qsx5 {R : RE Ty El} {f : FuncId} (hR : REOK R f) {c : Code} (hb : R.fn.body = some c) {args : List (AV Ty El)} {H : List (AObj Ty El)} {res : AV Ty El} {H' : List (AObj Ty El)} (hm : R.m = H.length) (hH : H.all (fun o=>match o with | .gone=>false | _=>true) = true)
  (hargs : args.length ≤ R.fn.ntmps) (h : Goes R f [.code c] (Q4gm R.fn args H).tmF (Q4gm R.fn args H).hpF res H') : Qewq R.P R.C f args H res H':=by
 intro w N vs hHR hsz hrep
 let X : Cx:=⟨w,fun b=>∃ k,N.F k b,H.length,N.ν,N.ro,R.fn.ntmps⟩
 have hS : SimN R.C X N (Q4gm R.fn args H).tmF (Q4gm R.fn args H).hpF { tmps:=vs ++ Array.replicate (R.fn.ntmps - vs.size) undef,defers:=[] } w:=by
  refine ⟨hHR,fun t ht=>?_, ?_,rfl,⟨rfl,rfl,rfl,Nat.le_refl _,fun b _ _=>rfl⟩,fun r b hb=>.inr ⟨r,hb⟩,fun k hk _=>rfl,fun k hk=>?_,fun b hb=>hb,fun b hb=>.inl hb⟩
  ·show RepA _ _ _ _ ((args ++ List.replicate (R.fn.ntmps - args.length) Qp2e).getD t .dead)
   by_cases hta : t < args.length
   ·have h1 : vs[t]? = some vs[t]:=Array.getElem?_eq_getElem (by omega)
    have h2 : args[t]? = some args[t]:=List.getElem?_eq_getElem hta
    have e1 : (vs ++ Array.replicate (R.fn.ntmps - vs.size) undef).getD t undef = vs[t]:=by
     rw [Array.getD_eq_getD_getElem?,Array.getElem?_append_left (by omega),h1]; rfl
    have e2 : (args ++ List.replicate (R.fn.ntmps - args.length) Qp2e).getD t .dead = args[t]:=by
     rw [List.getD_eq_getElem?_getD,List.getElem?_append_left hta,h2]; rfl
    show RepA _ _ _ ((vs ++ Array.replicate (R.fn.ntmps - vs.size) undef).getD t undef) _
    rw [e1,e2]
    exact hrep t _ _ h1 h2
   ·have ht' : t < R.fn.ntmps:=by
     have : t < (vs ++ Array.replicate (R.fn.ntmps - vs.size) undef).size:=ht
     simp at this; omega
    have e1 : (vs ++ Array.replicate (R.fn.ntmps - vs.size) undef).getD t undef = undef:=by
     rw [Array.getD_eq_getD_getElem?,Array.getElem?_append_right (by omega),Array.getElem?_replicate]
     split <;> rfl
    have e2 : (args ++ List.replicate (R.fn.ntmps - args.length) Qp2e).getD t .dead = Qp2e:=by
     rw [List.getD_eq_getElem?_getD,List.getElem?_append_right (by omega),List.getElem?_replicate,if_pos (by omega)]; rfl
    show RepA _ _ _ ((vs ++ Array.replicate (R.fn.ntmps - vs.size) undef).getD t undef) _
    rw [e1,e2]
    exact .tup #[] [] rfl (fun j v c h=>by simp at h)
  ·show (vs ++ Array.replicate (R.fn.ntmps - vs.size) undef).size = R.fn.ntmps
   simp; omega
  ·have hk' : k < H.length:=hk
   show hpOf H k ≠ _
   have hg : hpOf H k = H[k]:=by simp [hpOf,hk']
   rw [hg]
   have:=List.all_eq_true.1 hH H[k] (List.getElem_mem hk')
   intro e
   rw [e] at this; simp at this
 have hrun:=h X N _ w rfl hm.symm hS
 refine (Run.calls hR.fn hb hrun).mono ?_
 rintro en w' ⟨v,rfl,N',h1,h2,h3,h4,h5,h6,h7⟩
 exact ⟨v,N',rfl,h1,h2,h3,h4,h5,h6,h7⟩
end
end Lx
namespace Lx
open Go
section
variable {Ty : Type} {El : Ty → Type}

def Sat (R : RE Ty El) (f : FuncId) (res : AV Ty El) (H' : List (AObj Ty El)) (T : Option (Leaf Ty El)) : Prop:=∃ lf,T = some lf ∧ Q8dz R f res H' lf
variable {R : RE Ty El} {f : FuncId} {res : AV Ty El} {H' : List (AObj Ty El)}
theorem Sat.ifb {c : Bool} {A B : Option (Leaf Ty El)} (h1 : c = true → Sat R f res H' A) (h2 : c = false → Sat R f res H' B) : Sat R f res H' (ifb c A B):=by
 cases c with
 | true=>exact h1 rfl
 | false=>exact h2 rfl
theorem Sat.ret {v : AV Ty El} {h : List (AObj Ty El)} (hv : v = res) (hh : h = H') : Sat R f res H' (some (.ret v h)):=⟨_,rfl,hv,hh⟩
theorem Sat.go {todo : List Item} {vals : List (AV Ty El)} {h : List (AObj Ty El)} (hg : Goes R f todo (cutSt R.fn (Q1m4 R todo) vals h).tmF (cutSt R.fn (Q1m4 R todo) vals h).hpF res H') : Sat R f res H' (some (.go todo vals h)):=⟨_,rfl,hg⟩
theorem Sat.retB {a b : Bool} {h : List (AObj Ty El)} (hv : a = b) (hh : h = H') : Sat R f (.bool b) H' (some (.ret (.bool a) h)):=⟨_,rfl,by rw [hv],hh⟩
theorem Sat.retI {a b : Int} {h : List (AObj Ty El)} (hv : a = b) (hh : h = H') : Sat R f (.int .i64 b) H' (some (.ret (.int .i64 a) h)):=⟨_,rfl,by rw [hv],hh⟩
theorem Sat.no {T : Option (Leaf Ty El)} (h : False) : Sat R f res H' T:=h.elim

def Cut (R : RE Ty El) (f : FuncId) (id : Nat) (vals : List (AV Ty El)) (h : List (AObj Ty El)) (res : AV Ty El) (H' : List (AObj Ty El)) : Prop :=
 Goes R f (Qu6t R.fn id) (cutSt R.fn (Q1m4 R (Qu6t R.fn id)) vals h).tmF (cutSt R.fn (Q1m4 R (Qu6t R.fn id)) vals h).hpF res H'
theorem Sat.cut {id : Nat} {vals : List (AV Ty El)} {h : List (AObj Ty El)} (hg : Cut R f id vals h res H') : Sat R f res H' (some (.go (Qu6t R.fn id) vals h)):=⟨_,rfl,hg⟩
theorem Cut.of (hR : REOK R f) {id : Nat} {vals : List (AV Ty El)} {h : List (AObj Ty El)} {live : List (Nat × Sh Ty)} {fuel : Nat} {T : Option (Leaf Ty El)} (hl : Q1m4 R (Qu6t R.fn id) = live) (ht : aRun R fuel true (Qu6t R.fn id) (cutSt R.fn live vals h) = T) (hs : Sat R f res H' T) : Cut R f id vals h res H':=by
 obtain ⟨lf,h1,h2⟩:=hs
 subst h1
 subst hl
 exact Qyxv hR _ _ _ _ _ ht h2 (by simp [cutSt,Qouf])
def fitsB (R : RE Ty El) (args : List (AV Ty El)) (H : List (AObj Ty El)) : Bool :=
 R.fn.body.isSome && (decide (R.m = H.length) && (decide (args.length ≤ R.fn.ntmps) && H.all (fun o=>match o with | .gone=>false | _=>true)))
theorem Qewq.of (hR : REOK R f) {args : List (AV Ty El)} {H : List (AObj Ty El)} {fuel : Nat} {T : Option (Leaf Ty El)} (hfit : fitsB R args H = true) (ht : aRun R fuel false (body0 R.fn) (Q4gm R.fn args H) = T) (hs : Sat R f res H' T) : Qewq R.P R.C f args H res H':=by
 obtain ⟨lf,h1,h2⟩:=hs
 subst h1
 simp only [fitsB,Bool.and_eq_true,decide_eq_true_eq] at hfit
 obtain ⟨hb,hm,hargs,hH⟩:=hfit
 obtain ⟨c,hb⟩:=Option.isSome_iff_exists.1 hb
 have hb0 : body0 R.fn = [.code c]:=by simp [body0,hb]
 rw [hb0] at ht
 refine Qsx5 hR hb hm hH hargs (Qyxv hR _ _ _ _ _ ht h2 ?_)
 simp [Q4gm]; omega
theorem Qbrg {n : Int} (h1 : -9223372036854775808 ≤ n) (h2 : n < 9223372036854775808) : IntKind.wrap .i64 n = n:=by
 unfold IntKind.wrap
 first | (simp [IntKind.bits,IntKind.signed]; omega) | (simp; omega) | trace_state
end
end Lx
namespace Lx
open Go
section
variable {Ty : Type} {El : Ty → Type} {C : Cod Ty El} {P : Program}

def nmAll (w : World) : Nm:=⟨fun _=>undef,fun _ _=>False,fun _ _ _ _=>False,fun b=>b < w.heap.size⟩
theorem Q7yg (w : World) : HR C (nmAll w) (hpOf ([] : List (AObj Ty El))) w where
 obj:=fun r=>by simp only [hpOf,List.getD_nil]; exact fun b h=>h
 reg:=fun r p v u h=>h.elim
 full:=fun r=>by simp only [hpOf,List.getD_nil]; trivial
 one:=fun r p v u h=>h.elim
 dist:=fun r r' b h=>h.elim
 roNot:=fun r b h=>h.elim
 roLt:=fun b h=>h

def Rd (P : Program) (C : Cod Ty El) (t : TypeId) (n : Nat) (Φ : List (AV Ty El) → Prop) : Prop :=
 ∀ (H : Type) (enc : TypeId × Value → H) (w : World) (fuel : Nat) (cs : List Value) (x : DataW H × List MemPlace),DataW.trod enc P w 0 (fun _=>true) true fuel t cs = some x →
  cs.length = n ∧ ∃ L : List (AV Ty El),L.length = n ∧ Φ L ∧ ∀ (j : Nat) v c,cs[j]? = some v → L[j]? = some c → RepA C (nmAll w) w v c

theorem Qazh {w : World} {v : Value} {c : AV Ty El} (h : RepA C (nmAll w) w v c) : ∀ (j : Nat) v' c',[v][j]? = some v' → [c][j]? = some c' → RepA C (nmAll w) w v' c':=fun j v' c' h1 h2=>by
 match j with
 | 0=>simp only [List.getElem?_cons_zero,Option.some.injEq] at h1 h2; subst h1; subst h2; exact h
 | j + 1=>simp at h1
theorem Rd.int {t : TypeId} {k : IntKind} (ht : P.underlying t = some (.int k)) : Rd P C t 1 (fun L=>∃ n,L = [.int k n] ∧ (Lit.int k n).wf = true):=fun H enc w fuel cs x h=>by
 obtain ⟨n,rfl,_,hw⟩:=DataW.trod_int ht h
 exact ⟨rfl,[.int k n],rfl,⟨n,rfl,hw⟩,Qazh (.int k n)⟩
theorem Rd.str {t : TypeId} (ht : P.underlying t = some .string) : Rd P C t 1 (fun L=>∃ s : List UInt8,L = [.str s] ∧ s.length ≤ maxLen):=fun H enc w fuel cs x h=>by
 obtain ⟨s,rfl,_,hs⟩:=DataW.trod_string ht h
 exact ⟨rfl,[.str s.data.toList],rfl,⟨_,rfl,by simpa using hs⟩,Qazh (.str s _ rfl)⟩
theorem Rd.bool {t : TypeId} (ht : P.underlying t = some .bool) : Rd P C t 1 (fun L=>∃ b,L = [.bool b]):=fun H enc w fuel cs x h=>by
 obtain ⟨b,rfl,_⟩:=DataW.trod_bool ht h
 exact ⟨rfl,[.bool b],rfl,⟨b,rfl⟩,Qazh (.bool b)⟩

inductive RdL (P : Program) (C : Cod Ty El) : List Field → Nat → Nat → (List (AV Ty El) → Prop) → Prop
 | nil (off : Nat) : RdL P C [] off 0 (fun L=>L = [])
 | cons (f : Field) (fs : List Field) (off n m : Nat) (Φ Ψ : List (AV Ty El) → Prop) (ho : f.offset = off) (h : Rd P C f.type n Φ) (hs : RdL P C fs (off + n) m Ψ) :
   RdL P C (f :: fs) off (n + m) (fun L=>∃ A B,L = A ++ B ∧ Φ A ∧ Ψ B)
theorem RdL.read {H : Type} {enc : TypeId × Value → H} {w : World} {fuel : Nat} {cs : List Value} : ∀ {fs : List Field} {off n : Nat} {Φ : List (AV Ty El) → Prop},RdL P C fs off n Φ →
  (∀ f ∈ fs,∃ y,DataW.trod enc P w 0 (fun _=>true) true fuel f.type ((cs.drop f.offset).take (P.cellsOf f.type)) = some y) →
  ∃ L : List (AV Ty El),L.length = n ∧ Φ L ∧ ∀ (j : Nat) v c,cs[off + j]? = some v → L[j]? = some c → RepA C (nmAll w) w v c:=by
 intro fs off n Φ h
 induction h with
 | nil off=>exact fun _=>⟨[],rfl,rfl,fun j v c _ h=>by simp at h⟩
 | cons f fs off n m Φ Ψ ho h hs ih =>
  intro hf
  obtain ⟨y,hy⟩:=hf f (List.mem_cons.2 (.inl rfl))
  obtain ⟨hl,A,hA,hΦ,hr⟩:=h H enc w fuel _ _ hy
  obtain ⟨B,hB,hΨ,hr'⟩:=ih (fun g hg=>hf g (List.mem_cons.2 (.inr hg)))
  refine ⟨A ++ B,by simp [hA,hB],⟨A,B,rfl,hΦ,hΨ⟩,fun j v c hv hc=>?_⟩
  by_cases hj : j < n
  ·rw [List.getElem?_append_left (by omega)] at hc
   refine hr j v c ?_ hc
   have : n ≤ P.cellsOf f.type:=by
    rw [← hl,List.length_take]; omega
   rw [List.getElem?_take_of_lt (by omega),List.getElem?_drop,ho]
   exact hv
  ·rw [List.getElem?_append_right (by omega),hA] at hc
   refine hr' (j - n) v c ?_ hc
   rw [show off + n + (j - n) = off + j by omega]
   exact hv
theorem Rd.struct {t : TypeId} {fs : Array Field} {n : Nat} {Φ : List (AV Ty El) → Prop} (ht : P.underlying t = some (.struct fs)) (hn : P.cellsOf t = n) (h : RdL P C fs.toList 0 n Φ) : Rd P C t n Φ:=fun H enc w fuel cs x hx=>by
 obtain ⟨xs,m,rfl,_,hl,hlen,hf⟩:=DataW.trod_struct ht hx
 obtain ⟨L,h1,h2,h3⟩:=h.read (enc:=enc) (w:=w) (fuel:=m) (cs:=cs) (fun f hm=>by
  obtain ⟨i,hi⟩:=List.getElem?_of_mem hm
  have hi' : fs[i]? = some f:=by simpa using hi
  have hlt : i < fs.size:=(Array.getElem?_eq_some_iff.1 hi').1
  rw [hf i f hi']
  exact ⟨xs[i]'(by omega),List.getElem?_eq_getElem (by omega)⟩)
 exact ⟨hl.trans hn,L,h1,h2,fun j v c hv hc=>h3 j v c (by rw [Nat.zero_add]; exact hv) hc⟩

theorem Rd.slice (hC : CodOK P C) {t e : TypeId} {T : Ty} {Φ : List (AV Ty El) → Prop} {Q : El T → Prop} (ht : P.underlying t = some (.slice e)) (hn : P.cellsOf e = C.sz T) (he : Rd P C e (C.sz T) Φ)
  (hq : ∀ L, Φ L → ∃ x : El T,C.row T x = L ∧ Q x) : Rd P C t 1 (fun L=>∃ xs : List (El T),L = [.sl T xs] ∧ xs.length ≤ maxLen ∧ ∀ x ∈ xs,Q x):=fun H enc w fuel cs x hx=>by
 rcases Go.Deep.open_slice ht hx with ⟨rfl,_⟩ | ⟨a,len,cap,m,n,D,Pl,rfl,_,hle,hcap,hm,_,hel⟩
 ·exact ⟨rfl,[.sl T []],rfl,⟨[],rfl,Nat.zero_le _,fun x hx=>by cases hx⟩,Qazh (.sl0 T none 0)⟩
 ·have hm' : m = cap:=by simpa using hm
  refine ⟨rfl, ?_⟩
  rcases Nat.eq_zero_or_pos len with h0 | h0
  ·subst h0
   exact ⟨[.sl T []],rfl,⟨[],rfl,Nat.zero_le _,fun x hx=>by cases hx⟩,Qazh (.sl0 T _ cap)⟩
  have hpos:=hC.pos T
  have hone : ∀ i,i < len → ∃ y : El T,Q y ∧ ∀ (j : Nat) c,(C.row T y)[j]? = some c → ∃ u,w.cell? ((a.add (i * C.sz T)).add j) = some u ∧ RepA C (nmAll w) w u c:=fun i hi=>by
   obtain ⟨cs',h1,h2⟩:=hel i (by omega)
   rw [hn] at h1
   obtain ⟨_,hl,hc⟩:=World.cells?_some h1
   obtain ⟨_,L,hL,hΦ,hr⟩:=he H enc w n cs' _ h2
   obtain ⟨y,rfl,hQ⟩:=hq L hΦ
   refine ⟨y,hQ,fun j c hjc=>?_⟩
   have hj : j < C.sz T:=RowI.sz hC hjc
   refine ⟨cs'[j]'(by omega), ?_,hr j _ c (List.getElem?_eq_getElem (by omega)) hjc⟩
   rw [hc j hj]
   exact List.getElem?_eq_getElem (by omega)
  haveI : Inhabited (El T):=⟨C.dflt T⟩
  obtain ⟨X,hX⟩:=Go.Deep.choose_lt hone
  have hsp : a.spot = none:=by
   obtain ⟨c,hc⟩:=RowI.getc hC (X 0) hpos
   obtain ⟨u,hu,_⟩:=(hX 0 h0).2 0 c hc
   have:=World.cell?_spot hu
   simp only [Nat.zero_mul] at this
   have e0 : ∀ b : Addr,b.add 0 = b:=fun b=>by unfold Addr.add; rw [if_pos rfl]
   rw [e0,e0] at this
   exact this
  obtain ⟨b,o,sp⟩:=a
  simp only at hsp
  subst hsp
  refine ⟨[.sl T ((List.range len).map X)],rfl,⟨_,rfl,by simp only [List.length_map,List.length_range]; omega,fun x hx=>?_⟩,Qazh ?_⟩
  ·obtain ⟨i,hi,rfl⟩:=List.mem_map.1 hx
   exact (hX i (List.mem_range.1 hi)).1
  ·have hb : b < w.heap.size:=by
    obtain ⟨c,hc⟩:=RowI.getc hC (X 0) hpos
    obtain ⟨u,hu,_⟩:=(hX 0 h0).2 0 c hc
    simp only [Go.WideShapes.add_plain] at hu
    unfold World.cell? at hu
    split at hu
    ·rename_i hh
     exact (Array.getElem?_eq_some_iff.1 hh).1
    ·cases hu
   refine RepA.mkSl hC (by simp) hle (fun _=>hb) (fun i j c hi hc=>?_)
   have hg : ((List.range len).map X).getD i (C.dflt T) = X i:=by simp [List.getD,hi]
   rw [hg] at hc
   obtain ⟨u,hu,hr⟩:=(hX i hi).2 j c hc
   rw [Go.WideShapes.add_plain,Go.WideShapes.add_plain,Nat.add_assoc] at hu
   exact ⟨u,hu,hr⟩

def Ar (P : Program) (C : Cod Ty El) (t : TypeId) (Φ : AV Ty El → Prop) : Prop :=
 ∀ (H : Type) (enc : TypeId × Value → H) (w : World) (base : Nat) (v : Value) (d : DataW H) (ps : List MemPlace),Value.okWide P w .any base t v → DataW.Trod enc P w 0 (fun _=>true) true t v d ps → ∃ x,RepA C (nmAll w) w v x ∧ Φ x
theorem Ar.str {t : TypeId} (ht : P.underlying t = some .string) : Ar P C t (fun x=>∃ s : List UInt8,x = .str s ∧ s.length ≤ maxLen):=fun H enc w base v d ps hv ⟨fuel,h⟩=>by
 obtain ⟨s,rfl⟩:=Go.WideShapes.okWide_string ht hv
 obtain ⟨s',hc,_,hs⟩:=DataW.trod_string ht h
 simp [Value.cells] at hc
 subst hc
 exact ⟨_,.str s _ rfl,_,rfl,by simpa using hs⟩
theorem Ar.int {t : TypeId} {k : IntKind} (ht : P.underlying t = some (.int k)) : Ar P C t (fun x=>∃ n,x = .int k n ∧ (Lit.int k n).wf = true):=fun H enc w base v d ps hv ⟨fuel,h⟩=>by
 obtain ⟨n,rfl⟩:=Go.WideShapes.okWide_int ht hv
 obtain ⟨n',hc,_,hs⟩:=DataW.trod_int ht h
 simp [Value.cells] at hc
 subst hc
 exact ⟨_,.int k n,n,rfl,hs⟩
theorem Ar.slice {t e : TypeId} {T : Ty} {Q : List (El T) → Prop} (ht : P.underlying t = some (.slice e)) (h : Rd P C t 1 (fun L=>∃ xs : List (El T),L = [.sl T xs] ∧ Q xs)) : Ar P C t (fun x=>∃ xs : List (El T),x = .sl T xs ∧ Q xs):=fun H enc w base v d ps hv ⟨fuel,hx⟩=>by
 obtain ⟨a,n,cap,rfl⟩:=Go.WideShapes.okWide_slice ht hv
 obtain ⟨_,L,_,⟨xs,rfl,hq⟩,hr⟩:=h H enc w fuel _ _ hx
 exact ⟨_,hr 0 _ _ (by simp [Value.cells]) rfl,xs,rfl,hq⟩
theorem Ar.struct {t : TypeId} {fs : Array Field} {n : Nat} {Φ : List (AV Ty El) → Prop} (ht : P.underlying t = some (.struct fs)) (h : Rd P C t n Φ) : Ar P C t (fun x=>∃ L,x = .agg L ∧ Φ L):=fun H enc w base v d ps hv ⟨fuel,hx⟩=>by
 obtain ⟨cs,rfl,_⟩:=Go.WideShapes.okWide_struct ht hv
 obtain ⟨hl,L,hL,hΦ,hr⟩:=h H enc w fuel _ _ hx
 simp only [Value.cells] at hl hr
 exact ⟨_,.agg cs L (by simpa [hL] using hl) (fun j v c hv hc=>hr j v c (by simpa using hv) hc),L,rfl,hΦ⟩

def Ars (P : Program) (C : Cod Ty El) (ts : List TypeId) (Ψ : List (AV Ty El) → Prop) : Prop :=
 ∀ (H : Type) (enc : TypeId × Value → H) (w : World) (base : Nat) (vs : List Value) (ds : List (DataW H)) (ps : List MemPlace),(∀ (j : Nat) t v,ts[j]? = some t → vs[j]? = some v → Value.okWide P w .any base t v) →
  DataW.TrodAll enc P w 0 (fun _=>true) true ts vs ds ps → ∃ xs : List (AV Ty El),xs.length = vs.length ∧ (∀ (j : Nat) v x,vs[j]? = some v → xs[j]? = some x → RepA C (nmAll w) w v x) ∧ Ψ xs
theorem Ars.nil : Ars P C [] (fun xs=>xs = []):=fun H enc w base vs ds ps hv h=>by
 obtain ⟨rfl,rfl,rfl⟩:=Go.ChangeShapes.trodAll_nil h
 exact ⟨[],rfl,fun j v x h=>by simp at h,rfl⟩
theorem Ars.cons {t : TypeId} {ts : List TypeId} {Φ : AV Ty El → Prop} {Ψ : List (AV Ty El) → Prop} (h : Ar P C t Φ) (hs : Ars P C ts Ψ) : Ars P C (t :: ts) (fun xs=>∃ x ys,xs = x :: ys ∧ Φ x ∧ Ψ ys):=fun H enc w base vs ds ps hv ht=>by
 obtain ⟨v,vs',d,ds',p,q,rfl,rfl,rfl,h1,h2⟩:=Go.ChangeShapes.trodAll_cons ht
 obtain ⟨x,hr,hΦ⟩:=h H enc w base v d p (hv 0 t v rfl rfl) h1
 obtain ⟨xs,hl,hr',hΨ⟩:=hs H enc w base vs' ds' q (fun j t v h1 h2=>hv (j + 1) t v h1 h2) h2
 refine ⟨x :: xs,by simp [hl],fun j v' x' hv' hx'=>?_,x,xs,rfl,hΦ,hΨ⟩
 match j with
 | 0=>simp only [List.getElem?_cons_zero,Option.some.injEq] at hv' hx'; subst hv'; subst hx'; exact hr
 | j + 1=>exact hr' j v' x' (by simpa using hv') (by simpa using hx')

theorem Qewv {w w' : World} (h : Fr w w' (fun _=>False)) (may : MemPlace → Prop) : w.keptBut w' may:=by
 refine ⟨h.os,h.output,fun i hi=>?_⟩
 rw [h.block i hi (fun h=>h)]
 cases w.heap[i]? with
 | none=>trivial
 | some o=>cases o with
  | cells c t fr=>exact ⟨rfl,rfl,rfl,fun _ _=>rfl⟩
  | map es clk=>exact .inr ⟨rfl,rfl⟩
  | _=>rfl
theorem Qmhe {w w' : World} (h : Fr w w' (fun _=>False)) {p : MemPlace} (hp : p.block < w.heap.size) : w.sameAt w' p:=by
 cases p with
 | cell b off=>exact Q9r2 (h.block b hp (fun h=>h))
 | map b=>exact h.block b hp (fun h=>h)
theorem Qvjm {H : Type} {enc : TypeId × Value → H} (hl : laidOutB P = true) {W W' : World} {sp' : Nat → Bool} : ∀ {ts : List TypeId} {vs : List Value} {ds : List (DataW H)} {ps : List MemPlace},(∀ t ∈ ts,P.readableRec t = true ∧ t < P.types.size) →
  DataW.TrodAll enc P W 0 (fun _=>true) true ts vs ds ps → (∀ p ∈ ps,W.sameAt W' p) → (∀ p ∈ ps,sp' p.block = true) → DataW.TrodAll enc P W' 0 sp' true ts vs ds ps
 | [],[],[],_,_,h,_,_=>h
 | t :: ts,v :: vs,d :: ds,_,ht,⟨p,q,h1,h2,e⟩,hw,hs=>by
  subst e
  refine ⟨p,q,Go.WideElems.Trod_stays hl (ht t (List.mem_cons.2 (.inl rfl))).1 (ht t (List.mem_cons.2 (.inl rfl))).2 h1 (fun x hx=>hw x (List.mem_append_left _ hx)) (fun x hx=>hs x (List.mem_append_left _ hx)), ?_,rfl⟩
  exact Qvjm hl (fun t h=>ht t (List.mem_cons.2 (.inr h))) h2 (fun x hx=>hw x (List.mem_append_right _ hx)) (fun x hx=>hs x (List.mem_append_right _ hx))

theorem Q8io {H : Type} {enc : TypeId × Value → H} {W : World} {base : Nat} {sp : Nat → Bool} {hd : Bool} : ∀ {ts : List TypeId} {vs : List Value} {ds : List (DataW H)} {ps : List MemPlace},DataW.TrodAll enc P W base sp hd ts vs ds ps → ds.length = ts.length
 | [],[],[],_,_=>rfl
 | _ :: _,_ :: _,_ :: _,_,⟨_,_,_,h,_⟩=>by simp [Q8io h]

theorem Qovi {s : ChangeSpec} {fn : Func} {g : FuncId} {Ψ : List (AV Ty El) → Prop} (hA : Ars P C fn.params.toList Ψ) (hcall : ∀ xs, Ψ xs → Qewq P C g xs [] (.bool true) [])
  (hl : laidOutB P = true) (hr : ∀ t ∈ fn.params.toList,P.readableRec t = true ∧ t < P.types.size) (hv0 : s.vars = [])
  {H : Type} (enc : TypeId × Value → H) (hargs : ∀ ds : List (DataW H),ds.length = fn.params.toList.length → (s.fn H (ds ++ [])).args = ds) (hvars : ∀ ds : List (DataW H),ds.length = fn.params.toList.length → (s.fn H (ds ++ [])).vars = [])
  (hres : ∀ (ds : List (DataW H)),ds.length = fn.params.toList.length → ∀ (W : World) (b : Nat) (sp : Nat → Bool) (hd : Bool),DataW.TrodAll enc P W b sp hd fn.resultTypes.toList ((Value.bool true).resultList fn.resultTypes.size) (s.fn H (ds ++ [])).results [])
  (W : World) (base : Nat) (args : Array Value) (ds gs : List (DataW H)) (before : List MemPlace)
  (hval : ∀ (j : Nat) t v,fn.params[j]? = some t → args[j]? = some v → Value.okWide P W .any base t v)
  (hW : DataW.Whole enc P fn.params.toList s.vars false W args.toList ds gs before) :
  Calls P g args W fun e W'=>∃ v,e = .returned v ∧ s.post enc P fn false true false false W args v W':=by
 have hW':=hW
 obtain ⟨p,q,hT,hV,hb,hfz,hnd⟩:=hW
 rw [hv0] at hV
 obtain ⟨rfl,rfl⟩:=Go.ChangeShapes.trodVars_none hV
 rw [List.append_nil] at hb
 subst hb
 obtain ⟨xs,hlen,hrep,hΨ⟩:=hA H enc W base args.toList ds before (fun j t v h1 h2=>hval j t v (by simpa using h1) (by simpa using h2)) hT
 refine (hcall xs hΨ W (nmAll W) args (Q7yg W) (by simpa using hlen.symm) (fun j v x h1 h2=>hrep j v x (by simpa using h1) h2)).mono fun e W' h=>?_
 obtain ⟨v,N',rfl,_,hv,_,_,_,hfr,_⟩:=h
 cases hv
 have hfr : Fr W W' (fun _=>False):=⟨hfr.os,hfr.tape,hfr.output,hfr.size,fun b hb _=>hfr.block b hb (fun h=>h.elim fun _ h=>h)⟩
 have hlt : ∀ p ∈ before,p.block < W.heap.size:=fun p hp=>hW'.lt p hp
 refine ⟨_,rfl,ds,[],before,[],before,[],hW',hres ds (Q8io hT) _ _ _ _, ?_, ?_,Qewv hfr _,fun h=>by cases h⟩
 ·rw [hargs ds (Q8io hT)]
  exact Qvjm hl hr hT (fun p hp=>Qmhe hfr (hlt p hp)) (fun p hp=>by simpa using hlt p hp)
 ·rw [hv0,hvars ds (Q8io hT)]; rfl
end
end Lx
namespace Lx
open Go
section
variable {Ty : Type} {El : Ty → Type} {C : Cod Ty El} {P : Program}

theorem Qzcz (z : Value) (h : isB z = false) : z.cells = #[z]:=by
 cases z <;> first | rfl | (simp [isB] at h)

theorem Qb1n {s t : ByteArray} : (s == t) = (s.data.toList == t.data.toList):=by
 apply Bool.eq_iff_iff.2
 rw [MapKept.bytes_beq,beq_iff_eq]
 constructor
 ·intro h; subst h; rfl
 ·intro h
  obtain ⟨⟨l⟩⟩:=s
  obtain ⟨⟨m⟩⟩:=t
  simp at h
  subst h; rfl

theorem KeyOK.str {e : TypeId} {K : Ty} {f : El K → List UInt8} (hu : P.underlying e = some .string) (hrow : ∀ x,C.row K x = [.str (f x)]) (hag : C.agg K = false) (hq : ∀ x y,C.keq K x y = (f x == f y)) : KeyOK P C e K:=by
 have hpk : ∀ x,packA C K (C.row K x) = .str (f x):=fun x=>by simp [packA,hag,hrow]
 refine ⟨fun x=>by simp [hq],fun w N em x v hv=>?_,fun w N x v hv es ys hl hes=>?_,fun w N x y u v hu' hv hxy=>?_⟩
 ·rw [hpk] at hv
  obtain ⟨s,rfl,hs⟩:=hv.inv_str
  exact MapKept.run_checkKey hu (by simp [MapKept.IsKey]) em 9999
 ·rw [hpk] at hv
  obtain ⟨s,rfl,hs⟩:=hv.inv_str
  have : ∀ (es : List MapEntry) (ys : List (El K)) (i : Nat),es.length = ys.length → (∀ (j : Nat) (a : MapEntry) y,es[j]? = some a → ys[j]? = some y → RepA C N w a.key (packA C K (C.row K y))) →
    Instr.findNow .string (.string s) es i = some ((ys.findIdx? (C.keq K x)).bind fun j=>(es[j]?).map fun a=>(i + j,a.val)):=by
   intro es
   induction es with
   | nil =>
    intro ys i hl _
    have : ys = []:=List.eq_nil_of_length_eq_zero hl.symm
    subst this; rfl
   | cons a es ih =>
    intro ys i hl hes
    cases ys with
    | nil=>simp at hl
    | cons y ys =>
     have h0:=hes 0 a y rfl rfl
     rw [hpk] at h0
     obtain ⟨t,ht,hty⟩:=h0.inv_str
     have hsame : Instr.sameNow .string (.string s) a.key = some (f x == f y):=by rw [ht]; simp only [Instr.sameNow]; rw [Qb1n,hs,hty]
     have ih':=ih ys (i + 1) (by simpa using hl) (fun j b z hb hz=>hes (j + 1) b z (by simpa using hb) (by simpa using hz))
     unfold Instr.findNow
     rw [hsame,List.findIdx?_cons,hq]
     cases hxy : (f x == f y) with
     | true=>simp
     | false =>
      simp only [Bool.false_eq_true,if_false]
      rw [ih']
      cases ys.findIdx? (C.keq K x) with
      | none=>rfl
      | some j=>simp [Nat.add_assoc,Nat.add_comm 1 j]
  have h:=this es ys 0 hl hes
  simp only [Nat.zero_add] at h
  exact MapKept.run_findKey hu h
 ·rw [hpk] at hu' hv
  obtain ⟨s,rfl,hs⟩:=hu'.inv_str
  obtain ⟨t,rfl,ht⟩:=hv.inv_str
  rw [hq] at hxy
  have : s = t:=by
   have:=eq_of_beq hxy
   have e : (s == t) = true:=by rw [Qb1n,hs,ht,this]; simp
   exact (MapKept.bytes_beq _ _).1 e
  subst this
  have hb : (s == s) = true:=(MapKept.bytes_beq _ _).2 rfl
  unfold Instr.keyThatStays
  simp [Instr.sameBits,hb]

theorem Qzqw (d : Nat) {e : TypeId} {k : IntKind} (he : P.underlying e = some (.int k)) (hc : P.cellsOf e = 1) (w : World) (a b a' b' : Int) : (Op.eqItems (d + 1) e (P.cellsOf e) #[.int k a,.int k b] #[.int k a',.int k b'] [0,1]).run P w = .ok (a == a' && b == b') w:=by
 have hp : P.plainKey e = true:=by simp [Program.plainKey,he]
 have p0:=run_part_plain (P:=P) (w:=w) hp (xs:=#[.int k a,.int k b]) (off:=0) (v:=.int k a) rfl
 have p1:=run_part_plain (P:=P) (w:=w) hp (xs:=#[.int k a,.int k b]) (off:=1) (v:=.int k b) rfl
 have q0:=run_part_plain (P:=P) (w:=w) hp (xs:=#[.int k a',.int k b']) (off:=0) (v:=.int k a') rfl
 have q1:=run_part_plain (P:=P) (w:=w) hp (xs:=#[.int k a',.int k b']) (off:=1) (v:=.int k b') rfl
 have e0:=run_equalIn_int (P:=P) w d e k k a a' he
 have e1:=run_equalIn_int (P:=P) w d e k k b b' he
 simp only [Op.eqItems,hc,Nat.mul_one,Sem.run_bind,p0,q0,e0,Result.andThen_ok]
 cases h : (a == a') with
 | false=>simp
 | true =>
  simp [p1,q1,e1]
  by_cases hb : b = b' <;> simp [hb]

theorem KeyOK.pair {e el : TypeId} {i : TypeInfo} {K : Ty} {f g : El K → Int} (hu : P.underlying e = some (.array 2 el)) (he : P.underlying el = some (.int .i64)) (hi : P.info? el = some i) (hc : P.cellsOf el = 1) (hrow : ∀ x,C.row K x = [.int .i64 (f x),.int .i64 (g x)]) (hag : C.agg K = true) (hq : ∀ x y,C.keq K x y = (f x == f y && g x == g y)) : KeyOK P C e K:=by
 have hpk : ∀ x,packA C K (C.row K x) = .agg [.int .i64 (f x),.int .i64 (g x)]:=fun x=>by simp [packA,hag,hrow]
 have inv : ∀ {N : Nm} {w : World} {v : Value} {x : El K},RepA C N w v (packA C K (C.row K x)) → v = .agg #[.int .i64 (f x),.int .i64 (g x)]:=by
  intro N w v x hv
  rw [hpk] at hv
  obtain ⟨vs,rfl,hl,hvs⟩:=hv.inv_agg
  have h2 : vs.size = 2:=hl
  have e0:=(hvs 0 _ _ (Array.getElem?_eq_getElem (by omega)) rfl).inv_int
  have e1:=(hvs 1 _ _ (Array.getElem?_eq_getElem (by omega)) rfl).inv_int
  congr 1
  apply Array.ext_getElem?
  intro j
  match j with
  | 0=>rw [Array.getElem?_eq_getElem (by omega),e0]; rfl
  | 1=>rw [Array.getElem?_eq_getElem (by omega),e1]; rfl
  | j + 2=>rw [Array.getElem?_eq_none (by omega),Array.getElem?_eq_none (by simp)]
 have hp : P.plainKey el = true:=by simp [Program.plainKey,he]
 have heq : ∀ (w : World) (a b a' b' : Int),(Op.equal e (.agg #[.int .i64 a,.int .i64 b]) (.agg #[.int .i64 a',.int .i64 b'])).run P w = .ok (a == a' && b == b') w:=fun w a b a' b'=>by
  show (Op.equalIn (9999 + 1) e _ _).run P w = _
  rw [run_equalIn_array (P:=P) (w:=w) 9999 _ _ hu hi]
  exact Qzqw 9998 he hc w a b a' b'
 refine ⟨fun x=>by simp [hq],fun w N em x v hv=>?_,fun w N x v hv es ys hl hes=>?_,fun w N x y u v hu' hv hxy=>?_⟩
 ·rw [inv hv]
  unfold Instr.checkKey
  have p0:=run_part_plain (P:=P) (w:=w) hp (xs:=#[.int .i64 (f x),.int .i64 (g x)]) (off:=0) (v:=.int .i64 (f x)) rfl
  have p1:=run_part_plain (P:=P) (w:=w) hp (xs:=#[.int .i64 (f x),.int .i64 (g x)]) (off:=1) (v:=.int .i64 (g x)) rfl
  have c0 : ∀ n : Int,(Instr.checkKey em 9999 el (.int .i64 n)).run P w = .ok () w:=fun n=>MapKept.run_checkKey he (by simp [MapKept.IsKey]) em 9998
  simp only [Sem.run_bind,run_underlying hu,Result.andThen_ok]
  simp only [Std.Legacy.Range.forIn_eq_forIn_range',Std.Legacy.Range.size,Nat.sub_zero,Nat.add_one_sub_one,Nat.div_one,List.range',List.forIn_cons,List.forIn_nil,Sem.run_bind,run_sizeOf w hi,Result.andThen_ok,hc,Nat.zero_mul,Nat.mul_one,p0,p1,c0,Sem.run_pure]
 ·rw [inv hv]
  have hfa : ∀ (es : List MapEntry) (ys : List (El K)) (i : Nat),es.length = ys.length → (∀ (j : Nat) (a : MapEntry) y,es[j]? = some a → ys[j]? = some y → RepA C N w a.key (packA C K (C.row K y))) →
    (Instr.findAsking e (.agg #[.int .i64 (f x),.int .i64 (g x)]) es i).run P w = .ok ((ys.findIdx? (C.keq K x)).bind fun j=>(es[j]?).map fun a=>(i + j,a.val)) w:=by
   intro es
   induction es with
   | nil =>
    intro ys i hl _
    have : ys = []:=List.eq_nil_of_length_eq_zero hl.symm
    subst this; simp [Instr.findAsking]
   | cons a es ih =>
    intro ys i hl hes
    cases ys with
    | nil=>simp at hl
    | cons y ys =>
     have h0:=inv (hes 0 a y rfl rfl)
     have ih':=ih ys (i + 1) (by simpa using hl) (fun j b z hb hz=>hes (j + 1) b z (by simpa using hb) (by simpa using hz))
     unfold Instr.findAsking
     simp only [Sem.run_bind,h0,heq,Result.andThen_ok]
     rw [List.findIdx?_cons,hq]
     cases hxy : (f x == f y && g x == g y) with
     | true=>simp
     | false =>
      simp only [Bool.false_eq_true,if_false]
      rw [ih']
      cases ys.findIdx? (C.keq K x) with
      | none=>rfl
      | some j=>simp [Nat.add_assoc,Nat.add_comm 1 j]
  have h:=hfa es ys 0 hl hes
  simp only [Nat.zero_add] at h
  unfold Instr.findKey
  simp only [Sem.run_bind,run_underlying hu,Result.andThen_ok]
  cases es with
  | nil =>
   have : ys = []:=List.eq_nil_of_length_eq_zero hl.symm
   subst this
   simp [Instr.findNow]
  | cons a es =>
   have hn : Instr.findNow (.array 2 el) (.agg #[.int .i64 (f x),.int .i64 (g x)]) (a :: es) 0 = none:=by
    unfold Instr.findNow
    simp [Instr.sameNow]
   simp only [hn]
   exact h
 ·rw [inv hu',inv hv]
  rw [hq,Bool.and_eq_true] at hxy
  have e1:=eq_of_beq hxy.1
  have e2:=eq_of_beq hxy.2
  rw [e1,e2]
  unfold Instr.keyThatStays
  simp [Instr.sameBits]
end
end Lx
namespace Lx
open Go
abbrev Str:=List UInt8
structure Kind where
 name : Str
 quick : Int
 slow : Int
 deriving DecidableEq,Inhabited
structure Point where
 name : Str
 x : Int
 y : Int
 deriving DecidableEq,Inhabited
structure Fld where
 what : Int
 number : Int
 value : Str
 deriving DecidableEq,Inhabited
structure Entry where
 name : Str
 fields : List Fld
 deriving DecidableEq,Inhabited
structure Chg where
 flight : Str
 what : Int
 number : Int
 value : Str
 deriving DecidableEq,Inhabited
structure Stp where
 x : Int
 y : Int
 low : Int
 high : Int
 frm : Int
 by_ : Int
 deriving DecidableEq,Inhabited
structure Cell where
 x : Int
 y : Int
 deriving DecidableEq,Inhabited
structure Flight where
 name : Str
 kind : Kind
 frm : Int
 by_ : Int
 level : Int
 route : List Str
 deriving DecidableEq,Inhabited
inductive Ty | u8 | bool | int | str | kind | point | fld | entry | chg | step | cell | pair | flight | lkind | lpoint | lfld | lentry | lchg
 deriving DecidableEq
abbrev El : Ty → Type
 | .u8=>Int
 | .bool=>Bool
 | .int=>Int
 | .str=>Str
 | .kind=>Kind
 | .point=>Point
 | .fld=>Fld
 | .entry=>Entry
 | .chg=>Chg
 | .step=>Stp
 | .cell=>Cell
 | .pair=>Cell
 | .flight=>Flight
 | .lkind=>Kind
 | .lpoint=>Point
 | .lfld=>Fld
 | .lentry=>Entry
 | .lchg=>Chg
abbrev V:=AV Ty El
def rowP : (T : Ty) → El T → List V
 | .u8,z=>[.int .u8 z]
 | .bool,z=>[.bool z]
 | .int,z=>[.int .i64 z]
 | .str,z=>[.str z]
 | .kind,z=>[.str z.name,.int .i64 z.quick,.int .i64 z.slow]
 | .point,z=>[.str z.name,.int .i64 z.x,.int .i64 z.y]
 | .fld,z=>[.int .i64 z.what,.int .i64 z.number,.str z.value]
 | .entry,z=>[.str z.name,.sl .fld z.fields]
 | .chg,z=>[.str z.flight,.int .i64 z.what,.int .i64 z.number,.str z.value]
 | .step,z=>[.int .i64 z.x,.int .i64 z.y,.int .i64 z.low,.int .i64 z.high,.int .i64 z.frm,.int .i64 z.by_]
 | .cell,z=>[.int .i64 z.x,.int .i64 z.y]
 | .pair,z=>[.int .i64 z.x,.int .i64 z.y]
 | .flight,z=>[.str z.name,.str z.kind.name,.int .i64 z.kind.quick,.int .i64 z.kind.slow,.int .i64 z.frm,.int .i64 z.by_,.int .i64 z.level,.sl .str z.route]
 | .lkind,z=>[.str z.name,.int .i64 z.quick,.int .i64 z.slow]
 | .lpoint,z=>[.str z.name,.int .i64 z.x,.int .i64 z.y]
 | .lfld,z=>[.int .i64 z.what,.int .i64 z.number,.str z.value]
 | .lentry,z=>[.str z.name,.sl .lfld z.fields]
 | .lchg,z=>[.str z.flight,.int .i64 z.what,.int .i64 z.number,.str z.value]
def un_u8 : List V → Option (Int) | [.int .u8 a]=>some a | _=>none
def Qbnc : List V → Option (Bool) | [.bool a]=>some a | _=>none
def Qmtu : List V → Option (Int) | [.int .i64 a]=>some a | _=>none
def Q2me : List V → Option (Str) | [.str a]=>some a | _=>none
def Q7c7 : List V → Option (Kind) | [.str a,.int .i64 b,.int .i64 c]=>some ⟨a,b,c⟩ | _=>none
def Qjfu : List V → Option (Point) | [.str a,.int .i64 b,.int .i64 c]=>some ⟨a,b,c⟩ | _=>none
def Q3x7 : List V → Option (Fld) | [.int .i64 a,.int .i64 b,.str c]=>some ⟨a,b,c⟩ | _=>none
def Qyla : List V → Option (Entry) | [.str a,.sl .fld b]=>some ⟨a,b⟩ | _=>none
def Qmdp : List V → Option (Chg) | [.str a,.int .i64 b,.int .i64 c,.str d]=>some ⟨a,b,c,d⟩ | _=>none
def Q7yn : List V → Option (Stp) | [.int .i64 a,.int .i64 b,.int .i64 c,.int .i64 d,.int .i64 e,.int .i64 f]=>some ⟨a,b,c,d,e,f⟩ | _=>none
def Qciy : List V → Option (Cell) | [.int .i64 a,.int .i64 b]=>some ⟨a,b⟩ | _=>none
def Qry0 : List V → Option (Cell) | [.int .i64 a,.int .i64 b]=>some ⟨a,b⟩ | _=>none
def Q94z : List V → Option (Flight) | [.str a,.str b,.int .i64 c,.int .i64 d,.int .i64 e,.int .i64 f,.int .i64 g,.sl .str h]=>some ⟨a,⟨b,c,d⟩,e,f,g,h⟩ | _=>none
def Q3bb : List V → Option (Kind) | [.str a,.int .i64 b,.int .i64 c]=>some ⟨a,b,c⟩ | _=>none
def Qi3m : List V → Option (Point) | [.str a,.int .i64 b,.int .i64 c]=>some ⟨a,b,c⟩ | _=>none
def Q062 : List V → Option (Fld) | [.int .i64 a,.int .i64 b,.str c]=>some ⟨a,b,c⟩ | _=>none
def Q2nq : List V → Option (Entry) | [.str a,.sl .lfld b]=>some ⟨a,b⟩ | _=>none
def Qz9h : List V → Option (Chg) | [.str a,.int .i64 b,.int .i64 c,.str d]=>some ⟨a,b,c,d⟩ | _=>none
def Qv06 : (T : Ty) → List V → Option (El T)
 | .u8=>un_u8
 | .bool=>Qbnc
 | .int=>Qmtu
 | .str=>Q2me
 | .kind=>Q7c7
 | .point=>Qjfu
 | .fld=>Q3x7
 | .entry=>Qyla
 | .chg=>Qmdp
 | .step=>Q7yn
 | .cell=>Qciy
 | .pair=>Qry0
 | .flight=>Q94z
 | .lkind=>Q3bb
 | .lpoint=>Qi3m
 | .lfld=>Q062
 | .lentry=>Q2nq
 | .lchg=>Qz9h
def dfltP : (T : Ty) → El T
 | .u8=>(0 : Int)
 | .bool=>false
 | .int=>(0 : Int)
 | .str=>([] : Str)
 | .kind=>(default : Kind)
 | .point=>(default : Point)
 | .fld=>(default : Fld)
 | .entry=>(default : Entry)
 | .chg=>(default : Chg)
 | .step=>(default : Stp)
 | .cell=>(default : Cell)
 | .pair=>(default : Cell)
 | .flight=>(default : Flight)
 | .lkind=>(default : Kind)
 | .lpoint=>(default : Point)
 | .lfld=>(default : Fld)
 | .lentry=>(default : Entry)
 | .lchg=>(default : Chg)
def hgtP : Ty → Nat
 | .entry=>1
 | .flight=>1
 | .lentry=>1
 | _=>0
def litP : Ty → Bool
 | .str | .int=>true
 | _=>false
def u8P : (T : Ty) → Option (El T → Int)
 | .u8=>some (fun n=>n)
 | _=>none
def aggP : Ty → Bool
 | .u8=>false
 | .bool=>false
 | .int=>false
 | .str=>false
 | .kind=>true
 | .point=>true
 | .fld=>true
 | .entry=>true
 | .chg=>true
 | .step=>true
 | .cell=>true
 | .pair=>true
 | .flight=>true
 | .lkind=>true
 | .lpoint=>true
 | .lfld=>true
 | .lentry=>true
 | .lchg=>true
def keyP : Ty → Bool
 | .str | .pair=>true
 | _=>false
def keqP : (T : Ty) → El T → El T → Bool
 | .str,a,b=>a == b
 | .pair,a,b=>a.x == b.x && a.y == b.y
 | _,_,_=>false
end Lx
namespace Lx
open Go Go.Proofs
def tyP : TypeId → Option Ty
 | 5=>some .u8 | 4=>some .bool | 3=>some .int | 9=>some .str | 40=>some .kind | 160=>some .point | 94=>some .fld | 92=>some .entry | 51=>some .chg | 47=>some .step | 72=>some .cell | 170=>some .pair | 43=>some .flight | 274=>some .lkind | 276=>some .lpoint | 320=>some .lfld | 240=>some .lentry | 118=>some .lchg | _=>none
def CP : Cod Ty El:={ deq:=inferInstance,ty:=tyP,row:=rowP,unrow:=Qv06,dflt:=dfltP,hgt:=hgtP,u8:=u8P,lit:=litP,agg:=aggP,key:=keyP,keq:=keqP }
def Q0cw (P : Program) (C : Cod Ty El) (e : TypeId) (T : Ty) : Bool:=match P.info? e with
 | some i=>decide (i.size = (C.row T (C.dflt T)).length) && (decide (0 < i.bytes) && match i.zero with
  | some z=>decide (z.cells.size = (C.row T (C.dflt T)).length)
  | none=>false)
 | none=>false
theorem Qp9f {P : Program} {C : Cod Ty El} {e : TypeId} {T : Ty} (h : Q0cw P C e T = true) : ∃ i z,P.info? e = some i ∧ i.size = C.sz T ∧ i.zero = some z ∧ z.cells.size = C.sz T ∧ 0 < i.bytes:=by
 unfold Q0cw at h
 split at h
 ·rename_i i hi
  simp only [Bool.and_eq_true,decide_eq_true_eq] at h
  obtain ⟨h1,h2,h3⟩:=h
  split at h3
  ·rename_i z hz
   exact ⟨i,z,hi,h1,hz,of_decide_eq_true h3,h2⟩
  ·cases h3
 ·cases h
def Q84a (P : Program) (C : Cod Ty El) (e : TypeId) (T : Ty) : Bool:=match P.info? e with
 | some i=>match i.zero with
  | some z=>zOk z.cells.toList (C.row T (C.dflt T)) && (isB z == C.agg T)
  | none=>false
 | none=>false
theorem Qpcl {P : Program} {C : Cod Ty El} {e : TypeId} {T : Ty} (h : Q84a P C e T = true) : ∃ i z,P.info? e = some i ∧ i.zero = some z ∧ zOk z.cells.toList (C.row T (C.dflt T)) = true ∧ isB z = C.agg T ∧ (isB z = false → z.cells = #[z]):=by
 unfold Q84a at h
 split at h
 ·rename_i i hi
  split at h
  ·rename_i z hz
   simp only [Bool.and_eq_true] at h
   exact ⟨i,z,hi,hz,h.1,eq_of_beq h.2,Qzcz z⟩
  ·cases h
 ·cases h
def hgtOk (n : Nat) : V → Bool
 | .sl U _=>decide (hgtP U < n)
 | _=>true
theorem CP_ok : CodOK Tryz.prog CP where
 len:=fun T x=>by cases T <;> rfl
 pos:=fun T=>by cases T <;> decide
 cell:=fun T x c h=>by
  have : (rowP T x).all Qvgi = true:=by cases T <;> rfl
  exact List.all_eq_true.1 this c h
 unrow:=fun T L x h=>by
  cases T <;> simp only [CP,Qv06] at h ⊢
  case u8=>unfold un_u8 at h; split at h <;> first | (simp only [Option.some.injEq] at h; subst h; rfl) | cases h
  case bool=>unfold Qbnc at h; split at h <;> first | (simp only [Option.some.injEq] at h; subst h; rfl) | cases h
  case int=>unfold Qmtu at h; split at h <;> first | (simp only [Option.some.injEq] at h; subst h; rfl) | cases h
  case str=>unfold Q2me at h; split at h <;> first | (simp only [Option.some.injEq] at h; subst h; rfl) | cases h
  case kind=>unfold Q7c7 at h; split at h <;> first | (simp only [Option.some.injEq] at h; subst h; rfl) | cases h
  case point=>unfold Qjfu at h; split at h <;> first | (simp only [Option.some.injEq] at h; subst h; rfl) | cases h
  case fld=>unfold Q3x7 at h; split at h <;> first | (simp only [Option.some.injEq] at h; subst h; rfl) | cases h
  case entry=>unfold Qyla at h; split at h <;> first | (simp only [Option.some.injEq] at h; subst h; rfl) | cases h
  case chg=>unfold Qmdp at h; split at h <;> first | (simp only [Option.some.injEq] at h; subst h; rfl) | cases h
  case step=>unfold Q7yn at h; split at h <;> first | (simp only [Option.some.injEq] at h; subst h; rfl) | cases h
  case cell=>unfold Qciy at h; split at h <;> first | (simp only [Option.some.injEq] at h; subst h; rfl) | cases h
  case pair=>unfold Qry0 at h; split at h <;> first | (simp only [Option.some.injEq] at h; subst h; rfl) | cases h
  case flight=>unfold Q94z at h; split at h <;> first | (simp only [Option.some.injEq] at h; subst h; rfl) | cases h
  case lkind=>unfold Q3bb at h; split at h <;> first | (simp only [Option.some.injEq] at h; subst h; rfl) | cases h
  case lpoint=>unfold Qi3m at h; split at h <;> first | (simp only [Option.some.injEq] at h; subst h; rfl) | cases h
  case lfld=>unfold Q062 at h; split at h <;> first | (simp only [Option.some.injEq] at h; subst h; rfl) | cases h
  case lentry=>unfold Q2nq at h; split at h <;> first | (simp only [Option.some.injEq] at h; subst h; rfl) | cases h
  case lchg=>unfold Qz9h at h; split at h <;> first | (simp only [Option.some.injEq] at h; subst h; rfl) | cases h
 hgt:=fun T x U zs h=>by
  have : (rowP T x).all (hgtOk (hgtP T)) = true:=by cases T <;> rfl
  exact of_decide_eq_true (List.all_eq_true.1 this (.sl U zs) h)
 info:=fun e T h=>by
  refine Qp9f ?_
  simp only [CP] at h
  unfold tyP at h
  split at h <;> first | (simp only [Option.some.injEq] at h; subst h; kernel_rfl) | cases h
 inj:=fun e e' T h h'=>by
  simp only [CP] at h h'
  unfold tyP at h h'
  split at h <;> first | (cases h; done) | (simp only [Option.some.injEq] at h; subst h; split at h' <;> first | rfl | (cases h'; done))
 u8:=fun T f h x=>by cases T <;> simp [CP,u8P] at h; subst h; rfl
 typ:=fun T=>by cases T <;> first | exact ⟨5,rfl⟩ | exact ⟨4,rfl⟩ | exact ⟨3,rfl⟩ | exact ⟨9,rfl⟩ | exact ⟨40,rfl⟩ | exact ⟨160,rfl⟩ | exact ⟨94,rfl⟩ | exact ⟨92,rfl⟩ | exact ⟨51,rfl⟩ | exact ⟨47,rfl⟩ | exact ⟨72,rfl⟩ | exact ⟨170,rfl⟩ | exact ⟨43,rfl⟩ | exact ⟨274,rfl⟩ | exact ⟨276,rfl⟩ | exact ⟨320,rfl⟩ | exact ⟨240,rfl⟩ | exact ⟨118,rfl⟩
 zero:=fun e T h=>by
  refine Qpcl ?_
  simp only [CP] at h
  unfold tyP at h
  split at h <;> first | (simp only [Option.some.injEq] at h; subst h; kernel_rfl) | cases h
 agg:=fun T h=>by cases T <;> first | rfl | (simp [CP,aggP] at h)
 keyd:=fun e K h hk=>by
  have hn : ∀ T,keyP T = true → T = .str ∨ T = .pair:=fun T=>by cases T <;> simp [keyP]
  simp only [CP] at h hk
  rcases hn K hk with rfl | rfl
  ·have he : e = 9:=by
    unfold tyP at h
    split at h <;> first | rfl | (simp at h)
   subst he
   exact KeyOK.str (f:=fun x=>x) (by kernel_rfl) (fun _=>rfl) rfl (fun _ _=>rfl)
  ·have he : e = 170:=by
    unfold tyP at h
    split at h <;> first | rfl | (simp at h)
   subst he
   obtain ⟨i,_,hi,_⟩:=Qp9f (C:=⟨inferInstance,tyP,rowP,Qv06,dfltP,hgtP,u8P,aggP,keyP,keqP,litP⟩) (e:=3) (T:=.int) (P:=Tryz.prog) (by kernel_rfl)
   exact KeyOK.pair (el:=3) (f:=fun x : Cell=>x.x) (g:=fun x : Cell=>x.y) (i:=i) (by kernel_rfl) (by kernel_rfl) hi (by kernel_rfl) (fun _=>rfl) rfl (fun _ _=>rfl)
 u80:=fun T f h=>by cases T <;> simp [CP,u8P] at h; rfl
theorem Qye1 : TabOK Tryz.prog CP ([] : Tab Ty El):=TabOK.nil
end Lx
namespace Lx
open Go
abbrev Qsxz : FuncId:=11
abbrev Qwuz : FuncId:=17
abbrev Q4t8 : FuncId:=20
abbrev Qvuj : FuncId:=24
abbrev Q64l : FuncId:=25
abbrev Qlm4 : FuncId:=36
abbrev Qbeb : FuncId:=46
abbrev Q5ho : FuncId:=47
abbrev Qaev : FuncId:=48
abbrev Qdfk : FuncId:=49
abbrev Qt0f : FuncId:=57
abbrev Qr6y : FuncId:=58
abbrev Qlb4 : FuncId:=63
abbrev Qscj : FuncId:=64
abbrev Qfp7 : FuncId:=65
abbrev Qtik : FuncId:=66
abbrev Qsoo : FuncId:=67
abbrev Qajm : FuncId:=80
abbrev Qpxs : FuncId:=83
abbrev Qcq6 : FuncId:=84
abbrev Qqwa : FuncId:=85
abbrev Qwua : FuncId:=89
abbrev Qhy2 : FuncId:=90
abbrev Qpj2 : FuncId:=91
abbrev Qdaf : FuncId:=92
abbrev Q4bs : FuncId:=93
abbrev Qnn1 : FuncId:=94
abbrev Qyp5 : FuncId:=95
abbrev Q37p : FuncId:=96
abbrev Qlpu : FuncId:=97
abbrev Qg00 : FuncId:=98
abbrev Q9ho : FuncId:=99
abbrev Qn2h : FuncId:=100
abbrev Q8l1 : FuncId:=104
abbrev Qstj : FuncId:=109
abbrev Q001 : FuncId:=111
abbrev Qqw4 : FuncId:=112
abbrev Qchm : FuncId:=113
abbrev Q8ie : FuncId:=114
abbrev Qne3 : FuncId:=115
abbrev Q4v9 : FuncId:=116
abbrev Qwqy : FuncId:=118
abbrev Q963 : FuncId:=119
abbrev Q0nv : FuncId:=120
abbrev Qwtz : FuncId:=121
abbrev Qdu7 : FuncId:=122
abbrev Qxas : FuncId:=123
abbrev Qyzi : FuncId:=124
abbrev Qfx9 : FuncId:=138
abbrev Q7kf : FuncId:=139
abbrev Qq3w : FuncId:=140
abbrev Qyl6 : FuncId:=141
abbrev Q604 : FuncId:=142
abbrev Qvef : FuncId:=143
abbrev Qbgv : FuncId:=147
abbrev Qcg7 : FuncId:=148
abbrev Q43w : FuncId:=150
abbrev Q1eg : FuncId:=161
abbrev Qncv : FuncId:=166
abbrev Q0gt : FuncId:=167
abbrev Qryc : FuncId:=168
abbrev Q5ff : FuncId:=169
abbrev Qi5t : FuncId:=170
abbrev Q3pj : FuncId:=171
abbrev Qvlr : FuncId:=172
abbrev Q780 : FuncId:=173
abbrev Q8pq : FuncId:=174
abbrev Qr5h : FuncId:=175
abbrev Q659 : FuncId:=176
abbrev Qq3g : FuncId:=177
abbrev Qs8v : FuncId:=178
abbrev Qbq3 : FuncId:=180
abbrev Qy91 : FuncId:=181
abbrev Qs0p : FuncId:=184
abbrev Q409 : FuncId:=185
abbrev Q6ji : FuncId:=186
abbrev Q5fl : FuncId:=188
abbrev Qz6m : FuncId:=189
abbrev Q373 : FuncId:=191
abbrev Qsnv : FuncId:=192
abbrev Quuj : FuncId:=193
abbrev Q7g8 : FuncId:=194
abbrev Qycj : FuncId:=195
abbrev Qwjz : FuncId:=196
abbrev Qfs9 : FuncId:=212
abbrev Qnlm : FuncId:=213
abbrev Q99l : FuncId:=227
abbrev Qgz8 : FuncId:=228
abbrev Qvc8 : FuncId:=229
abbrev Qzot : FuncId:=230
end Lx
namespace Lx
open Go Go.Proofs
def Q6lz (l : List Kind) : Bool:=decide (l.length ≤ 1000000000) && true
def Qjyp (l : List Point) : Bool:=decide (l.length ≤ 1000000000) && true
def Qzta (ks : List Kind) (ps : List Point) : Bool:=Q6lz ks && (Qjyp ps && (true))
def Qckx (l : List Fld) : Bool:=decide (l.length ≤ 1000000000) && true
def Qytc (name : Str) (fields : List Fld) : Bool:=Qckx fields && (true)
def Qnwa (l : List Entry) : Bool:=decide (l.length ≤ 1000000000) && l.all (fun z : Entry=>Qytc z.name z.fields)
def Q8cx (ks : List Kind) (ps : List Point) (es : List Entry) : Bool:=Q6lz ks && (Qjyp ps && (Qnwa es && (true)))
end Lx
set_option maxRecDepth 4000
namespace Lx
open Go Go.Proofs
end Lx
namespace Lx
open Go Go.Proofs
theorem Rd.mono {P : Program} {Ty : Type} {El : Ty → Type} {C : Cod Ty El} {t : TypeId} {n : Nat} {Φ Ψ : List (AV Ty El) → Prop} (h : Rd P C t n Φ) (hm : ∀ L, Φ L → Ψ L) : Rd P C t n Ψ:=fun H enc w fuel cs x hx=>by
 obtain ⟨h1,L,h2,h3,h4⟩:=h H enc w fuel cs x hx
 exact ⟨h1,L,h2,hm L h3,h4⟩
end Lx
namespace Lx
open Go Go.Proofs
def nameB (b : UInt8) : Bool:=(decide ((b.toNat : Int) ≥ 97) && decide ((b.toNat : Int) ≤ 122)) || (decide ((b.toNat : Int) ≥ 48) && decide ((b.toNat : Int) ≤ 57)) || (b.toNat : Int) == 45
def Q2rq (s : Str) : Bool:=decide (1 ≤ s.length) && (decide (s.length ≤ 8) && s.all nameB)
def inR (x y z : Int) : Bool:=decide (y ≤ x) && decide (x ≤ z)
def idxF {α : Type} (p : α → Bool) (l : List α) : Int:=match l.findIdx? p with
 | some i=>(i : Int)
 | none=>-1
def Kind.ok (k : Kind) : Bool:=Q2rq k.name && (decide (1 ≤ k.quick) && (decide (k.quick ≤ k.slow) && decide (k.slow ≤ 50)))
def Point.ok (p : Point) : Bool:=Q2rq p.name && (inR p.x 0 15 && inR p.y 0 15)
def Fld.later (f g : Fld) : Bool:=if f.number = g.number then Q7zj g.value f.value else decide (f.number > g.number)

theorem Q1uv {α : Type} {p : α → Bool} {l : List α} (h : ∀ (k : Nat) x,l[k]? = some x → p x = false) : idxF p l = -1:=by
 unfold idxF
 rw [List.findIdx?_eq_none_iff.2 (fun x hx=>by obtain ⟨k,hk⟩:=List.getElem?_of_mem hx; simpa using h k x hk)]
theorem Qjgx {α : Type} {p : α → Bool} {l : List α} {i : Nat} {x : α} (hx : l[i]? = some x) (hp : p x = true) (h : ∀ k,k < i → ∀ y,l[k]? = some y → p y = false) : idxF p l = (i : Int):=by
 unfold idxF
 obtain ⟨hlt,hxe⟩:=List.getElem?_eq_some_iff.1 hx
 rw [List.findIdx?_eq_some_iff_getElem.2 ⟨hlt,by rw [hxe]; exact hp,fun k hk=>by
  have hkl : k < l.length:=by omega
  simpa using h k hk l[k] (List.getElem?_eq_getElem hkl)⟩]

theorem Q1mf {α : Type} {p : α → Bool} {l : List α} : idxF p l < (l.length : Int):=by
 unfold idxF
 cases h : l.findIdx? p with
 | none=>simp; omega
 | some i =>
  have:=(List.findIdx?_eq_some_iff_getElem.1 h).1
  simp; omega
def Qcc2 : Ent Ty El:=⟨[.ro],0,fun a h=>match a,h with
 | [.str s],[]=>some (true,.bool (Q2rq s),[])
 | _,_=>none⟩
def Q4bc : Ent Ty El:=Qcc2
def Q0vx : Ent Ty El:=⟨[.ro,.ro,.ro],0,fun a h=>match a,h with
 | [.int .i64 x,.int .i64 y,.int .i64 z],[]=>some (true,.bool (inR x y z),[])
 | _,_=>none⟩
def Qc4s : Ent Ty El:=Q0vx
def Qofd : Ent Ty El:=⟨[.ro,.ro],0,fun a h=>match a,h with
 | [.agg [.str s,.int .i64 x,.int .i64 y],.rop [.str n] 0],[]=>some (true,.bool (s == n),[])
 | _,_=>none⟩
def Qnmw : Ent Ty El:=Qofd
def Qf0f : Ent Ty El:=⟨[.ro,.ro],0,fun a h=>match a,h with
 | [.agg [.str s,.sl .fld fs],.rop [.str n] 0],[]=>some (true,.bool (s == n),[])
 | _,_=>none⟩
def Qqor : Ent Ty El:=⟨[.ro,.ro],0,fun a h=>match a,h with
 | [.sl .point ps,.fn (.func g) [.rop [.str n] 0]],[]=>some (decide (g = Qz6m) && decide (ps.length < 1000000000),.int .i64 (idxF (fun p=>p.name == n) ps),[])
 | _,_=>none⟩
def Q2on : Ent Ty El:=⟨[.ro,.ro],0,fun a h=>match a,h with
 | [.sl .kind ps,.fn (.func g) [.rop [.str n] 0]],[]=>some (decide (g = Qgz8) && decide (ps.length < 1000000000),.int .i64 (idxF (fun p=>p.name == n) ps),[])
 | _,_=>none⟩
def Q0i2 : Ent Ty El:=⟨[.ro,.ro],0,fun a h=>match a,h with
 | [.sl .entry ps,.fn (.func g) [.rop [.str n] 0]],[]=>some (decide (g = Qzot) && decide (ps.length < 1000000000),.int .i64 (idxF (fun p=>p.name == n) ps),[])
 | _,_=>none⟩
def Q4q8 : Ent Ty El:=⟨[.ro,.ro],0,fun a h=>match a,h with
 | [.agg [.sl .kind ks,.sl .point ps],.str n],[]=>some (decide (ps.length < 1000000000),.int .i64 (idxF (fun p=>p.name == n) ps),[])
 | _,_=>none⟩
def Qo07 : Ent Ty El:=⟨[.ro,.ro],0,fun a h=>match a,h with
 | [.agg [.sl .kind ks,.sl .point ps],.str n],[]=>some (decide (ks.length < 1000000000),.int .i64 (idxF (fun p=>p.name == n) ks),[])
 | _,_=>none⟩
def Qb5f : Ent Ty El:=⟨[.ro,.ro],0,fun a h=>match a,h with
 | [.agg [.sl .kind ks,.sl .point ps,.sl .entry es],.str n],[]=>some (decide (es.length < 1000000000),.int .i64 (idxF (fun p=>p.name == n) es),[])
 | _,_=>none⟩
def Q41f : Ent Ty El:=Q4q8
def Qqer : Ent Ty El:=Qo07
def Qf4o : Ent Ty El:=Qb5f
def Qcb4 : Ent Ty El:=⟨[.ro],0,fun a h=>match a,h with
 | [.agg [.str s,.int .i64 x,.int .i64 y]],[]=>some (true,.bool (Kind.ok ⟨s,x,y⟩),[])
 | _,_=>none⟩
def Qj6w : Ent Ty El:=⟨[.ro],0,fun a h=>match a,h with
 | [.agg [.str s,.int .i64 x,.int .i64 y]],[]=>some (true,.bool (Point.ok ⟨s,x,y⟩),[])
 | _,_=>none⟩
def Qaw0 : Ent Ty El:=Qcb4
def Q2zc : Ent Ty El:=Qj6w
def Q7bn : Ent Ty El:=⟨[.ro,.ro],0,fun a h=>match a,h with
 | [.agg [.int .i64 a,.int .i64 b,.str s],.agg [.int .i64 c,.int .i64 d,.str t]],[]=>some (true,.bool (Fld.later ⟨a,b,s⟩ ⟨c,d,t⟩),[])
 | _,_=>none⟩
def Qdx1 : Ent Ty El:=Q7bn
end Lx
namespace Lx
open Go Go.Proofs
noncomputable def Qm4u : RE Ty El:=⟨Tryz.prog,CP,[],Tryz.f99,0,[],[(4,[(0,.any),(3,.any)])]⟩
theorem Qumb : REOK Qm4u Q9ho:=⟨CP_ok,Qye1,by kernel_rfl,by kernel_rfl⟩
theorem Qkmz (s : Str) : aRun Qm4u 600 false (body0 Qm4u.fn) (Q4gm Qm4u.fn [.str s] []) =
 ifb (decide ((↑(List.length s) : Int) < (1 : Int))) (some (.ret (.bool false) [])) (ifb (decide ((↑(List.length s) : Int) > (8 : Int))) (some (.ret (.bool false) [])) (some (.go (Qu6t Qm4u.fn 4) [.str s,.int .i64 (0 : Int)] []))):=by kernel_rfl
theorem Q1bs (x0 : Str) (x1 : Int) : aRun Qm4u 600 true (Qu6t Qm4u.fn 4) (cutSt Qm4u.fn (Q1m4 Qm4u (Qu6t Qm4u.fn 4)) [.str x0,.int .i64 x1] []) =
 ifb (decide (x1 < (↑(List.length x0) : Int))) (ifb (inb x1 (List.length x0)) (ifb (decide ((↑(List.getD x0 x1.toNat (0 : UInt8)).toNat : Int) ≥ (97 : Int))) (ifb (decide ((↑(List.getD x0 x1.toNat (0 : UInt8)).toNat : Int) ≤ (122 : Int))) (some (.go (Qu6t Qm4u.fn 4) [.str x0,.int .i64 (IntKind.i64.wrap (x1 + (1 : Int)))] [])) (ifb (decide ((↑(List.getD x0 x1.toNat (0 : UInt8)).toNat : Int) ≥ (48 : Int))) (ifb (decide ((↑(List.getD x0 x1.toNat (0 : UInt8)).toNat : Int) ≤ (57 : Int))) (some (.go (Qu6t Qm4u.fn 4) [.str x0,.int .i64 (IntKind.i64.wrap (x1 + (1 : Int)))] [])) (ifb (!(↑(List.getD x0 x1.toNat (0 : UInt8)).toNat : Int) == (45 : Int)) (some (.ret (.bool false) [])) (some (.go (Qu6t Qm4u.fn 4) [.str x0,.int .i64 (IntKind.i64.wrap (x1 + (1 : Int)))] [])))) (ifb (!(↑(List.getD x0 x1.toNat (0 : UInt8)).toNat : Int) == (45 : Int)) (some (.ret (.bool false) [])) (some (.go (Qu6t Qm4u.fn 4) [.str x0,.int .i64 (IntKind.i64.wrap (x1 + (1 : Int)))] []))))) (ifb (decide ((↑(List.getD x0 x1.toNat (0 : UInt8)).toNat : Int) ≥ (48 : Int))) (ifb (decide ((↑(List.getD x0 x1.toNat (0 : UInt8)).toNat : Int) ≤ (57 : Int))) (some (.go (Qu6t Qm4u.fn 4) [.str x0,.int .i64 (IntKind.i64.wrap (x1 + (1 : Int)))] [])) (ifb (!(↑(List.getD x0 x1.toNat (0 : UInt8)).toNat : Int) == (45 : Int)) (some (.ret (.bool false) [])) (some (.go (Qu6t Qm4u.fn 4) [.str x0,.int .i64 (IntKind.i64.wrap (x1 + (1 : Int)))] [])))) (ifb (!(↑(List.getD x0 x1.toNat (0 : UInt8)).toNat : Int) == (45 : Int)) (some (.ret (.bool false) [])) (some (.go (Qu6t Qm4u.fn 4) [.str x0,.int .i64 (IntKind.i64.wrap (x1 + (1 : Int)))] []))))) (none)) (some (.ret (.bool true) [])):=by kernel_rfl
theorem Qv0o (s : Str) (hs : s.length ≤ 8) : ∀ (d i : Nat),i + d = s.length → Cut Qm4u Q9ho 4 [.str s,.int .i64 (i : Int)] [] (.bool ((s.drop i).all nameB)) []:=by
 intro d
 induction d with
 | zero =>
  intro i hi
  refine Cut.of Qumb rfl (Q1bs s i) ?_
  refine Sat.ifb (fun h=>?_) (fun h=>?_)
  ·simp at h; omega
  ·refine Sat.ret ?_ rfl
   rw [List.drop_of_length_le (by omega)]; rfl
 | succ d ih =>
  intro i hi
  refine Cut.of Qumb rfl (Q1bs s i) ?_
  have hlt : i < s.length:=by omega
  have hw : IntKind.wrap .i64 ((i : Int) + 1) = ((i + 1 : Nat) : Int):=by rw [Qbrg] <;> omega
  rw [hw]
  have hd : s.drop i = s.getD i 0 :: s.drop (i + 1):=by rw [List.drop_eq_getElem_cons hlt]; simp [hlt]
  have hgo : nameB (s.getD i 0) = true → Sat Qm4u Q9ho (.bool ((s.drop i).all nameB)) [] (some (.go (Qu6t Qm4u.fn 4) [.str s,.int .i64 ((i + 1 : Nat) : Int)] [])):=fun h=>by
   refine Sat.cut ?_
   rw [hd,List.all_cons,h,Bool.true_and]
   exact ih (i + 1) (by omega)
  have hno : nameB (s.getD i 0) = false → Sat Qm4u Q9ho (.bool ((s.drop i).all nameB)) [] (some (.ret (.bool false) [])):=fun h=>by
   refine Sat.ret ?_ rfl
   rw [hd,List.all_cons,h,Bool.false_and]
  rw [show ((i : Int).toNat) = i from Int.toNat_natCast i]
  generalize s.getD i 0 = b at *
  repeat' (first | (refine Sat.ifb (fun h=>?_) (fun h=>?_)) | (apply hgo; simp_all [nameB]; done) | (apply hno; simp_all [nameB]; done) | (apply hno; simp_all [nameB]; omega) | (apply hgo; simp_all [nameB]; omega))
  all_goals (simp_all [inb]; try omega)
theorem Qgu5 (s : Str) : Qewq Tryz.prog CP Q9ho [.str s] [] (.bool (Q2rq s)) []:=by
 refine Qewq.of Qumb (by kernel_rfl) (Qkmz s) ?_
 refine Sat.ifb (fun h=>?_) (fun h=>?_)
 ·refine Sat.retB ?_ rfl
  have : ¬ 1 ≤ s.length:=by simp at h; omega
  simp [Q2rq,this]
 ·refine Sat.ifb (fun h2=>?_) (fun h2=>?_)
  ·refine Sat.retB ?_ rfl
   have : ¬ s.length ≤ 8:=by simp at h2; omega
   simp [Q2rq,this]
  ·have h8 : s.length ≤ 8:=by simp at h2; omega
   have h1 : 1 ≤ s.length:=by simp at h; omega
   have:=Qv0o s h8 s.length 0 (by omega)
   rw [show Q2rq s = (s.drop 0).all nameB by simp [Q2rq,h8,h1]]
   exact Sat.cut this
theorem Q8k7 : EntOK Tryz.prog CP Q9ho Qcc2:=by
 refine ⟨⟨Tryz.f99,by kernel_rfl,by kernel_rfl,by kernel_rfl⟩,fun args H res H' h=>?_⟩
 simp only [Qcc2] at h
 split at h
 ·simp only [Option.some.injEq,Prod.mk.injEq] at h
  obtain ⟨hg,rfl,rfl⟩:=h
  exact Qgu5 _
 ·cases h

noncomputable def Qitp : RE Ty El:=⟨Tryz.prog,CP,[],Tryz.f100,0,[],[]⟩
theorem Qvq5 : REOK Qitp Qn2h:=⟨CP_ok,Qye1,by kernel_rfl,by kernel_rfl⟩
theorem Qur3 (x y z : Int) : aRun Qitp 600 false (body0 Qitp.fn) (Q4gm Qitp.fn [.int .i64 x,.int .i64 y,.int .i64 z] []) =
 ifb (decide (x ≥ y)) (some (.ret (.bool (decide (x ≤ z))) [])) (some (.ret (.bool false) [])):=by kernel_rfl
theorem Qwra (x y z : Int) : Qewq Tryz.prog CP Qn2h [.int .i64 x,.int .i64 y,.int .i64 z] [] (.bool (inR x y z)) []:=by
 refine Qewq.of Qvq5 (by kernel_rfl) (Qur3 x y z) ?_
 repeat' (first | (refine Sat.ifb (fun h=>?_) (fun h=>?_)) | (refine Sat.retB ?_ rfl; simp_all [inR]; done) | (refine Sat.retI ?_ rfl; simp_all [inR]; done))
 all_goals (first | (refine Sat.no ?_; simp_all; done) | (refine Sat.no ?_; simp_all; omega) | (refine Sat.retB ?_ rfl; simp_all [inR]; omega) | (refine Sat.retI ?_ rfl; simp_all [inR]; omega))
theorem Qfgu : EntOK Tryz.prog CP Qn2h Q0vx:=by
 refine ⟨⟨Tryz.f100,by kernel_rfl,by kernel_rfl,by kernel_rfl⟩,fun args H res H' h=>?_⟩
 simp only [Q0vx] at h
 split at h
 ·simp only [Option.some.injEq,Prod.mk.injEq] at h
  obtain ⟨hg,rfl,rfl⟩:=h
  exact Qwra _ _ _
 ·cases h

noncomputable def Qz3j : RE Ty El:=⟨Tryz.prog,CP,[],Tryz.f95,0,[],[]⟩
theorem Qji3 : REOK Qz3j Qyp5:=⟨CP_ok,Qye1,by kernel_rfl,by kernel_rfl⟩
theorem Qwxu (x y z : Int) : aRun Qz3j 600 false (body0 Qz3j.fn) (Q4gm Qz3j.fn [.int .i64 x,.int .i64 y,.int .i64 z] []) =
 ifb (decide (x ≥ y)) (some (.ret (.bool (decide (x ≤ z))) [])) (some (.ret (.bool false) [])):=by kernel_rfl
theorem Qiyz (x y z : Int) : Qewq Tryz.prog CP Qyp5 [.int .i64 x,.int .i64 y,.int .i64 z] [] (.bool (inR x y z)) []:=by
 refine Qewq.of Qji3 (by kernel_rfl) (Qwxu x y z) ?_
 repeat' (first | (refine Sat.ifb (fun h=>?_) (fun h=>?_)) | (refine Sat.retB ?_ rfl; simp_all [inR]; done) | (refine Sat.retI ?_ rfl; simp_all [inR]; done))
 all_goals (first | (refine Sat.no ?_; simp_all; done) | (refine Sat.no ?_; simp_all; omega) | (refine Sat.retB ?_ rfl; simp_all [inR]; omega) | (refine Sat.retI ?_ rfl; simp_all [inR]; omega))
theorem Qzgd : EntOK Tryz.prog CP Qyp5 Qc4s:=by
 refine ⟨⟨Tryz.f95,by kernel_rfl,by kernel_rfl,by kernel_rfl⟩,fun args H res H' h=>?_⟩
 simp only [Qc4s,Q0vx] at h
 split at h
 ·simp only [Option.some.injEq,Prod.mk.injEq] at h
  obtain ⟨hg,rfl,rfl⟩:=h
  exact Qiyz _ _ _
 ·cases h

noncomputable def Qns9 : RE Ty El:=⟨Tryz.prog,CP,[(Qyp5,Qc4s)],Tryz.f94,0,[],[(4,[(0,.any),(3,.any)])]⟩
theorem Qgec : REOK Qns9 Qnn1:=⟨CP_ok,(TabOK.cons Qzgd Qye1),by kernel_rfl,by kernel_rfl⟩
theorem Q05c (s : Str) : aRun Qns9 600 false (body0 Qns9.fn) (Q4gm Qns9.fn [.str s] []) =
 ifb (!inR (↑(List.length s) : Int) (1 : Int) (8 : Int)) (some (.ret (.bool false) [])) (some (.go (Qu6t Qns9.fn 4) [.str s,.int .i64 (0 : Int)] [])):=by kernel_rfl
theorem Qc6f (x0 : Str) (x1 : Int) : aRun Qns9 600 true (Qu6t Qns9.fn 4) (cutSt Qns9.fn (Q1m4 Qns9 (Qu6t Qns9.fn 4)) [.str x0,.int .i64 x1] []) =
 ifb (decide (x1 < (↑(List.length x0) : Int))) (ifb (inb x1 (List.length x0)) (ifb (decide ((↑(List.getD x0 x1.toNat (0 : UInt8)).toNat : Int) ≥ (97 : Int))) (ifb (decide ((↑(List.getD x0 x1.toNat (0 : UInt8)).toNat : Int) ≤ (122 : Int))) (some (.go (Qu6t Qns9.fn 4) [.str x0,.int .i64 (IntKind.i64.wrap (x1 + (1 : Int)))] [])) (ifb (decide ((↑(List.getD x0 x1.toNat (0 : UInt8)).toNat : Int) ≥ (48 : Int))) (ifb (decide ((↑(List.getD x0 x1.toNat (0 : UInt8)).toNat : Int) ≤ (57 : Int))) (some (.go (Qu6t Qns9.fn 4) [.str x0,.int .i64 (IntKind.i64.wrap (x1 + (1 : Int)))] [])) (ifb (!(↑(List.getD x0 x1.toNat (0 : UInt8)).toNat : Int) == (45 : Int)) (some (.ret (.bool false) [])) (some (.go (Qu6t Qns9.fn 4) [.str x0,.int .i64 (IntKind.i64.wrap (x1 + (1 : Int)))] [])))) (ifb (!(↑(List.getD x0 x1.toNat (0 : UInt8)).toNat : Int) == (45 : Int)) (some (.ret (.bool false) [])) (some (.go (Qu6t Qns9.fn 4) [.str x0,.int .i64 (IntKind.i64.wrap (x1 + (1 : Int)))] []))))) (ifb (decide ((↑(List.getD x0 x1.toNat (0 : UInt8)).toNat : Int) ≥ (48 : Int))) (ifb (decide ((↑(List.getD x0 x1.toNat (0 : UInt8)).toNat : Int) ≤ (57 : Int))) (some (.go (Qu6t Qns9.fn 4) [.str x0,.int .i64 (IntKind.i64.wrap (x1 + (1 : Int)))] [])) (ifb (!(↑(List.getD x0 x1.toNat (0 : UInt8)).toNat : Int) == (45 : Int)) (some (.ret (.bool false) [])) (some (.go (Qu6t Qns9.fn 4) [.str x0,.int .i64 (IntKind.i64.wrap (x1 + (1 : Int)))] [])))) (ifb (!(↑(List.getD x0 x1.toNat (0 : UInt8)).toNat : Int) == (45 : Int)) (some (.ret (.bool false) [])) (some (.go (Qu6t Qns9.fn 4) [.str x0,.int .i64 (IntKind.i64.wrap (x1 + (1 : Int)))] []))))) (none)) (some (.ret (.bool true) [])):=by kernel_rfl
theorem Qllp (s : Str) (hs : s.length ≤ 8) : ∀ (d i : Nat),i + d = s.length → Cut Qns9 Qnn1 4 [.str s,.int .i64 (i : Int)] [] (.bool ((s.drop i).all nameB)) []:=by
 intro d
 induction d with
 | zero =>
  intro i hi
  refine Cut.of Qgec rfl (Qc6f s i) ?_
  refine Sat.ifb (fun h=>?_) (fun h=>?_)
  ·simp at h; omega
  ·refine Sat.ret ?_ rfl
   rw [List.drop_of_length_le (by omega)]; rfl
 | succ d ih =>
  intro i hi
  refine Cut.of Qgec rfl (Qc6f s i) ?_
  have hlt : i < s.length:=by omega
  have hw : IntKind.wrap .i64 ((i : Int) + 1) = ((i + 1 : Nat) : Int):=by rw [Qbrg] <;> omega
  rw [hw]
  have hd : s.drop i = s.getD i 0 :: s.drop (i + 1):=by rw [List.drop_eq_getElem_cons hlt]; simp [hlt]
  have hgo : nameB (s.getD i 0) = true → Sat Qns9 Qnn1 (.bool ((s.drop i).all nameB)) [] (some (.go (Qu6t Qns9.fn 4) [.str s,.int .i64 ((i + 1 : Nat) : Int)] [])):=fun h=>by
   refine Sat.cut ?_
   rw [hd,List.all_cons,h,Bool.true_and]
   exact ih (i + 1) (by omega)
  have hno : nameB (s.getD i 0) = false → Sat Qns9 Qnn1 (.bool ((s.drop i).all nameB)) [] (some (.ret (.bool false) [])):=fun h=>by
   refine Sat.ret ?_ rfl
   rw [hd,List.all_cons,h,Bool.false_and]
  rw [show ((i : Int).toNat) = i from Int.toNat_natCast i]
  generalize s.getD i 0 = b at *
  repeat' (first | (refine Sat.ifb (fun h=>?_) (fun h=>?_)) | (apply hgo; simp_all [nameB]; done) | (apply hno; simp_all [nameB]; done) | (apply hno; simp_all [nameB]; omega) | (apply hgo; simp_all [nameB]; omega))
  all_goals (simp_all [inb]; try omega)
theorem Qa4a (s : Str) : Qewq Tryz.prog CP Qnn1 [.str s] [] (.bool (Q2rq s)) []:=by
 refine Qewq.of Qgec (by kernel_rfl) (Q05c s) ?_
 refine Sat.ifb (fun h=>?_) (fun h=>?_)
 ·refine Sat.retB ?_ rfl
  simp [inR] at h
  by_cases h1 : 1 ≤ s.length
  ·have : ¬ s.length ≤ 8:=by omega
   simp [Q2rq,this]
  ·simp [Q2rq,h1]
 ·simp [inR] at h
  have h8 : s.length ≤ 8:=by omega
  have h1 : 1 ≤ s.length:=by omega
  have:=Qllp s h8 s.length 0 (by omega)
  rw [show Q2rq s = (s.drop 0).all nameB by simp [Q2rq,h8,h1]]
  exact Sat.cut this
theorem Q7n8 : EntOK Tryz.prog CP Qnn1 Q4bc:=by
 refine ⟨⟨Tryz.f94,by kernel_rfl,by kernel_rfl,by kernel_rfl⟩,fun args H res H' h=>?_⟩
 simp only [Q4bc,Qcc2] at h
 split at h
 ·simp only [Option.some.injEq,Prod.mk.injEq] at h
  obtain ⟨hg,rfl,rfl⟩:=h
  exact Qa4a _
 ·cases h

noncomputable def Qloh : RE Ty El:=⟨Tryz.prog,CP,[],Tryz.f189,0,[],[]⟩
theorem Qhti : REOK Qloh Qz6m:=⟨CP_ok,Qye1,by kernel_rfl,by kernel_rfl⟩
theorem Q289 (s : Str) (x y : Int) (n : Str) : aRun Qloh 600 false (body0 Qloh.fn) (Q4gm Qloh.fn [.agg [.str s,.int .i64 x,.int .i64 y],.rop [.str n] 0] []) =
 some (.ret (.bool (s == n)) []):=by kernel_rfl
theorem Qkyi (s : Str) (x y : Int) (n : Str) : Qewq Tryz.prog CP Qz6m [.agg [.str s,.int .i64 x,.int .i64 y],.rop [.str n] 0] [] (.bool (s == n)) []:=by
 refine Qewq.of Qhti (by kernel_rfl) (Q289 s x y n) ?_
 repeat' (first | (refine Sat.ifb (fun h=>?_) (fun h=>?_)) | (refine Sat.retB ?_ rfl; simp_all []; done) | (refine Sat.retI ?_ rfl; simp_all []; done))
 all_goals (first | (refine Sat.no ?_; simp_all; done) | (refine Sat.no ?_; simp_all; omega) | (refine Sat.retB ?_ rfl; simp_all []; omega) | (refine Sat.retI ?_ rfl; simp_all []; omega))
theorem Qkhx : EntOK Tryz.prog CP Qz6m Qofd:=by
 refine ⟨⟨Tryz.f189,by kernel_rfl,by kernel_rfl,by kernel_rfl⟩,fun args H res H' h=>?_⟩
 simp only [Qofd] at h
 split at h
 ·simp only [Option.some.injEq,Prod.mk.injEq] at h
  obtain ⟨hg,rfl,rfl⟩:=h
  exact Qkyi _ _ _ _
 ·cases h

noncomputable def Qbrp : RE Ty El:=⟨Tryz.prog,CP,[],Tryz.f228,0,[],[]⟩
theorem Qe0e : REOK Qbrp Qgz8:=⟨CP_ok,Qye1,by kernel_rfl,by kernel_rfl⟩
theorem Qq2w (s : Str) (x y : Int) (n : Str) : aRun Qbrp 600 false (body0 Qbrp.fn) (Q4gm Qbrp.fn [.agg [.str s,.int .i64 x,.int .i64 y],.rop [.str n] 0] []) =
 some (.ret (.bool (s == n)) []):=by kernel_rfl
theorem Qqmh (s : Str) (x y : Int) (n : Str) : Qewq Tryz.prog CP Qgz8 [.agg [.str s,.int .i64 x,.int .i64 y],.rop [.str n] 0] [] (.bool (s == n)) []:=by
 refine Qewq.of Qe0e (by kernel_rfl) (Qq2w s x y n) ?_
 repeat' (first | (refine Sat.ifb (fun h=>?_) (fun h=>?_)) | (refine Sat.retB ?_ rfl; simp_all []; done) | (refine Sat.retI ?_ rfl; simp_all []; done))
 all_goals (first | (refine Sat.no ?_; simp_all; done) | (refine Sat.no ?_; simp_all; omega) | (refine Sat.retB ?_ rfl; simp_all []; omega) | (refine Sat.retI ?_ rfl; simp_all []; omega))
theorem Qf2l : EntOK Tryz.prog CP Qgz8 Qnmw:=by
 refine ⟨⟨Tryz.f228,by kernel_rfl,by kernel_rfl,by kernel_rfl⟩,fun args H res H' h=>?_⟩
 simp only [Qnmw,Qofd] at h
 split at h
 ·simp only [Option.some.injEq,Prod.mk.injEq] at h
  obtain ⟨hg,rfl,rfl⟩:=h
  exact Qqmh _ _ _ _
 ·cases h

noncomputable def Qly4 : RE Ty El:=⟨Tryz.prog,CP,[],Tryz.f230,0,[],[]⟩
theorem Qe7d : REOK Qly4 Qzot:=⟨CP_ok,Qye1,by kernel_rfl,by kernel_rfl⟩
theorem Q1xr (s : Str) (fs : List Fld) (n : Str) : aRun Qly4 600 false (body0 Qly4.fn) (Q4gm Qly4.fn [.agg [.str s,.sl .fld fs],.rop [.str n] 0] []) =
 some (.ret (.bool (s == n)) []):=by kernel_rfl
theorem Q33d (s : Str) (fs : List Fld) (n : Str) : Qewq Tryz.prog CP Qzot [.agg [.str s,.sl .fld fs],.rop [.str n] 0] [] (.bool (s == n)) []:=by
 refine Qewq.of Qe7d (by kernel_rfl) (Q1xr s fs n) ?_
 repeat' (first | (refine Sat.ifb (fun h=>?_) (fun h=>?_)) | (refine Sat.retB ?_ rfl; simp_all []; done) | (refine Sat.retI ?_ rfl; simp_all []; done))
 all_goals (first | (refine Sat.no ?_; simp_all; done) | (refine Sat.no ?_; simp_all; omega) | (refine Sat.retB ?_ rfl; simp_all []; omega) | (refine Sat.retI ?_ rfl; simp_all []; omega))
theorem Q2e1 : EntOK Tryz.prog CP Qzot Qf0f:=by
 refine ⟨⟨Tryz.f230,by kernel_rfl,by kernel_rfl,by kernel_rfl⟩,fun args H res H' h=>?_⟩
 simp only [Qf0f] at h
 split at h
 ·simp only [Option.some.injEq,Prod.mk.injEq] at h
  obtain ⟨hg,rfl,rfl⟩:=h
  exact Q33d _ _ _
 ·cases h

noncomputable def Qgbp : RE Ty El:=⟨Tryz.prog,CP,[(Qz6m,Qofd)],Tryz.f188,0,[],[(2,[(0,.any),(1,.any),(7,.any),(8,.any)])]⟩
theorem Q95k : REOK Qgbp Q5fl:=⟨CP_ok,(TabOK.cons Qkhx Qye1),by kernel_rfl,by kernel_rfl⟩
theorem Qelx (ps : List Point) (n : Str) : aRun Qgbp 600 false (body0 Qgbp.fn) (Q4gm Qgbp.fn [.sl .point ps,.fn (.func Qz6m) [.rop [.str n] 0]] []) =
 some (.go (Qu6t Qgbp.fn 2) [.sl .point ps,.fn (Fn.func Qz6m) [.rop [.str n] 0],.int .i64 (↑ps.length : Int),.int .i64 (0 : Int)] []):=by kernel_rfl
theorem Qq43 (x0 : List (El .point)) (x1 : Str) (x2 : Int) (x3 : Int) : aRun Qgbp 600 true (Qu6t Qgbp.fn 2) (cutSt Qgbp.fn (Q1m4 Qgbp (Qu6t Qgbp.fn 2)) [.sl .point x0,.fn (Fn.func Qz6m) [.rop [.str x1] 0],.int .i64 x2,.int .i64 x3] []) =
 ifb (decide (x3 < x2)) (ifb (inb x3 x0.length) (ifb ((x0.getD x3.toNat (Qgbp.C.dflt Ty.point)).name == x1) (some (.ret (.int .i64 x3) [])) (some (.go (Qu6t Qgbp.fn 2) [.sl .point x0,.fn (Fn.func Qz6m) [.rop [.str x1] 0],.int .i64 x2,.int .i64 (IntKind.i64.wrap (x3 + (1 : Int)))] []))) (none)) (some (.ret (.int .i64 (-1 : Int)) [])):=by kernel_rfl
theorem Q9fj (ps : List Point) (n : Str) (hl : ps.length < 1000000000) : ∀ (d i : Nat),i + d = ps.length → (∀ k,k < i → ∀ x,ps[k]? = some x → (x.name == n) = false) → Cut Qgbp Q5fl 2 [.sl .point ps,.fn (.func Qz6m) [.rop [.str n] 0],.int .i64 (ps.length : Int),.int .i64 (i : Int)] [] (.int .i64 (idxF (fun p=>p.name == n) ps)) []:=by
 intro d
 induction d with
 | zero =>
  intro i hi hno
  refine Cut.of Q95k rfl (Qq43 ps n ps.length i) ?_
  refine Sat.ifb (fun h=>?_) (fun h=>?_)
  ·simp at h; omega
  ·exact Sat.retI (Q1uv (fun k x hk=>hno k (by have:=(List.getElem?_eq_some_iff.1 hk).1; omega) x hk)).symm rfl
 | succ d ih =>
  intro i hi hno
  refine Cut.of Q95k rfl (Qq43 ps n ps.length i) ?_
  have hlt : i < ps.length:=by omega
  have hw : IntKind.wrap .i64 ((i : Int) + 1) = ((i + 1 : Nat) : Int):=by rw [Qbrg] <;> omega
  rw [hw]
  have hd : ps.getD (i : Int).toNat (Qgbp.C.dflt .point) = ps[i]:=by simp [hlt]
  rw [hd]
  refine Sat.ifb (fun h=>?_) (fun h=>?_)
  ·refine Sat.ifb (fun h2=>?_) (fun h2=>?_)
   ·refine Sat.ifb (fun h3=>?_) (fun h3=>?_)
    ·exact Sat.retI (Qjgx (List.getElem?_eq_getElem hlt) h3 hno).symm rfl
    ·refine Sat.cut (ih (i + 1) (by omega) fun k hk x hx=>?_)
     by_cases hki : k = i
     ·subst hki
      rw [List.getElem?_eq_getElem hlt] at hx
      obtain rfl:=Option.some.inj hx
      exact h3
     ·exact hno k (by omega) x hx
   ·simp [inb] at h2; omega
  ·simp at h; omega
theorem Qsc1 (ps : List Point) (n : Str) (hg : decide (ps.length < 1000000000) = true) : Qewq Tryz.prog CP Q5fl [.sl .point ps,.fn (.func Qz6m) [.rop [.str n] 0]] [] (.int .i64 (idxF (fun p=>p.name == n) ps)) []:=by
 refine Qewq.of Q95k (by kernel_rfl) (Qelx ps n) ?_
 exact Sat.cut (Q9fj ps n (of_decide_eq_true hg) ps.length 0 (by omega) (fun k hk=>by omega))
theorem Qx8o : EntOK Tryz.prog CP Q5fl Qqor:=by
 refine ⟨⟨Tryz.f188,by kernel_rfl,by kernel_rfl,by kernel_rfl⟩,fun args H res H' h=>?_⟩
 simp only [Qqor] at h
 split at h
 ·simp only [Option.some.injEq,Prod.mk.injEq] at h
  obtain ⟨hg,rfl,rfl⟩:=h
  simp only [Bool.and_eq_true,decide_eq_true_eq] at hg
  obtain ⟨rfl,hg⟩:=hg
  exact Qsc1 _ _ (decide_eq_true hg)
 ·cases h

noncomputable def Qizf : RE Ty El:=⟨Tryz.prog,CP,[(Qgz8,Qnmw)],Tryz.f227,0,[],[(2,[(0,.any),(1,.any),(7,.any),(8,.any)])]⟩
theorem Qdzq : REOK Qizf Q99l:=⟨CP_ok,(TabOK.cons Qf2l Qye1),by kernel_rfl,by kernel_rfl⟩
theorem Qyii (ps : List Kind) (n : Str) : aRun Qizf 600 false (body0 Qizf.fn) (Q4gm Qizf.fn [.sl .kind ps,.fn (.func Qgz8) [.rop [.str n] 0]] []) =
 some (.go (Qu6t Qizf.fn 2) [.sl .kind ps,.fn (Fn.func Qgz8) [.rop [.str n] 0],.int .i64 (↑ps.length : Int),.int .i64 (0 : Int)] []):=by kernel_rfl
theorem Qjf1 (x0 : List (El .kind)) (x1 : Str) (x2 : Int) (x3 : Int) : aRun Qizf 600 true (Qu6t Qizf.fn 2) (cutSt Qizf.fn (Q1m4 Qizf (Qu6t Qizf.fn 2)) [.sl .kind x0,.fn (Fn.func Qgz8) [.rop [.str x1] 0],.int .i64 x2,.int .i64 x3] []) =
 ifb (decide (x3 < x2)) (ifb (inb x3 x0.length) (ifb ((x0.getD x3.toNat (Qizf.C.dflt Ty.kind)).name == x1) (some (.ret (.int .i64 x3) [])) (some (.go (Qu6t Qizf.fn 2) [.sl .kind x0,.fn (Fn.func Qgz8) [.rop [.str x1] 0],.int .i64 x2,.int .i64 (IntKind.i64.wrap (x3 + (1 : Int)))] []))) (none)) (some (.ret (.int .i64 (-1 : Int)) [])):=by kernel_rfl
theorem Qvfx (ps : List Kind) (n : Str) (hl : ps.length < 1000000000) : ∀ (d i : Nat),i + d = ps.length → (∀ k,k < i → ∀ x,ps[k]? = some x → (x.name == n) = false) → Cut Qizf Q99l 2 [.sl .kind ps,.fn (.func Qgz8) [.rop [.str n] 0],.int .i64 (ps.length : Int),.int .i64 (i : Int)] [] (.int .i64 (idxF (fun p=>p.name == n) ps)) []:=by
 intro d
 induction d with
 | zero =>
  intro i hi hno
  refine Cut.of Qdzq rfl (Qjf1 ps n ps.length i) ?_
  refine Sat.ifb (fun h=>?_) (fun h=>?_)
  ·simp at h; omega
  ·exact Sat.retI (Q1uv (fun k x hk=>hno k (by have:=(List.getElem?_eq_some_iff.1 hk).1; omega) x hk)).symm rfl
 | succ d ih =>
  intro i hi hno
  refine Cut.of Qdzq rfl (Qjf1 ps n ps.length i) ?_
  have hlt : i < ps.length:=by omega
  have hw : IntKind.wrap .i64 ((i : Int) + 1) = ((i + 1 : Nat) : Int):=by rw [Qbrg] <;> omega
  rw [hw]
  have hd : ps.getD (i : Int).toNat (Qizf.C.dflt .kind) = ps[i]:=by simp [hlt]
  rw [hd]
  refine Sat.ifb (fun h=>?_) (fun h=>?_)
  ·refine Sat.ifb (fun h2=>?_) (fun h2=>?_)
   ·refine Sat.ifb (fun h3=>?_) (fun h3=>?_)
    ·exact Sat.retI (Qjgx (List.getElem?_eq_getElem hlt) h3 hno).symm rfl
    ·refine Sat.cut (ih (i + 1) (by omega) fun k hk x hx=>?_)
     by_cases hki : k = i
     ·subst hki
      rw [List.getElem?_eq_getElem hlt] at hx
      obtain rfl:=Option.some.inj hx
      exact h3
     ·exact hno k (by omega) x hx
   ·simp [inb] at h2; omega
  ·simp at h; omega
theorem Qfrh (ps : List Kind) (n : Str) (hg : decide (ps.length < 1000000000) = true) : Qewq Tryz.prog CP Q99l [.sl .kind ps,.fn (.func Qgz8) [.rop [.str n] 0]] [] (.int .i64 (idxF (fun p=>p.name == n) ps)) []:=by
 refine Qewq.of Qdzq (by kernel_rfl) (Qyii ps n) ?_
 exact Sat.cut (Qvfx ps n (of_decide_eq_true hg) ps.length 0 (by omega) (fun k hk=>by omega))
theorem Qjwf : EntOK Tryz.prog CP Q99l Q2on:=by
 refine ⟨⟨Tryz.f227,by kernel_rfl,by kernel_rfl,by kernel_rfl⟩,fun args H res H' h=>?_⟩
 simp only [Q2on] at h
 split at h
 ·simp only [Option.some.injEq,Prod.mk.injEq] at h
  obtain ⟨hg,rfl,rfl⟩:=h
  simp only [Bool.and_eq_true,decide_eq_true_eq] at hg
  obtain ⟨rfl,hg⟩:=hg
  exact Qfrh _ _ (decide_eq_true hg)
 ·cases h

noncomputable def Qktk : RE Ty El:=⟨Tryz.prog,CP,[(Qzot,Qf0f)],Tryz.f229,0,[],[(2,[(0,.any),(1,.any),(7,.any),(8,.any)])]⟩
theorem Qanj : REOK Qktk Qvc8:=⟨CP_ok,(TabOK.cons Q2e1 Qye1),by kernel_rfl,by kernel_rfl⟩
theorem Qid4 (ps : List Entry) (n : Str) : aRun Qktk 600 false (body0 Qktk.fn) (Q4gm Qktk.fn [.sl .entry ps,.fn (.func Qzot) [.rop [.str n] 0]] []) =
 some (.go (Qu6t Qktk.fn 2) [.sl .entry ps,.fn (Fn.func Qzot) [.rop [.str n] 0],.int .i64 (↑ps.length : Int),.int .i64 (0 : Int)] []):=by kernel_rfl
theorem Qsp2 (x0 : List (El .entry)) (x1 : Str) (x2 : Int) (x3 : Int) : aRun Qktk 600 true (Qu6t Qktk.fn 2) (cutSt Qktk.fn (Q1m4 Qktk (Qu6t Qktk.fn 2)) [.sl .entry x0,.fn (Fn.func Qzot) [.rop [.str x1] 0],.int .i64 x2,.int .i64 x3] []) =
 ifb (decide (x3 < x2)) (ifb (inb x3 x0.length) (ifb ((x0.getD x3.toNat (Qktk.C.dflt Ty.entry)).name == x1) (some (.ret (.int .i64 x3) [])) (some (.go (Qu6t Qktk.fn 2) [.sl .entry x0,.fn (Fn.func Qzot) [.rop [.str x1] 0],.int .i64 x2,.int .i64 (IntKind.i64.wrap (x3 + (1 : Int)))] []))) (none)) (some (.ret (.int .i64 (-1 : Int)) [])):=by kernel_rfl
theorem Qxzv (ps : List Entry) (n : Str) (hl : ps.length < 1000000000) : ∀ (d i : Nat),i + d = ps.length → (∀ k,k < i → ∀ x,ps[k]? = some x → (x.name == n) = false) → Cut Qktk Qvc8 2 [.sl .entry ps,.fn (.func Qzot) [.rop [.str n] 0],.int .i64 (ps.length : Int),.int .i64 (i : Int)] [] (.int .i64 (idxF (fun p=>p.name == n) ps)) []:=by
 intro d
 induction d with
 | zero =>
  intro i hi hno
  refine Cut.of Qanj rfl (Qsp2 ps n ps.length i) ?_
  refine Sat.ifb (fun h=>?_) (fun h=>?_)
  ·simp at h; omega
  ·exact Sat.retI (Q1uv (fun k x hk=>hno k (by have:=(List.getElem?_eq_some_iff.1 hk).1; omega) x hk)).symm rfl
 | succ d ih =>
  intro i hi hno
  refine Cut.of Qanj rfl (Qsp2 ps n ps.length i) ?_
  have hlt : i < ps.length:=by omega
  have hw : IntKind.wrap .i64 ((i : Int) + 1) = ((i + 1 : Nat) : Int):=by rw [Qbrg] <;> omega
  rw [hw]
  have hd : ps.getD (i : Int).toNat (Qktk.C.dflt .entry) = ps[i]:=by simp [hlt]
  rw [hd]
  refine Sat.ifb (fun h=>?_) (fun h=>?_)
  ·refine Sat.ifb (fun h2=>?_) (fun h2=>?_)
   ·refine Sat.ifb (fun h3=>?_) (fun h3=>?_)
    ·exact Sat.retI (Qjgx (List.getElem?_eq_getElem hlt) h3 hno).symm rfl
    ·refine Sat.cut (ih (i + 1) (by omega) fun k hk x hx=>?_)
     by_cases hki : k = i
     ·subst hki
      rw [List.getElem?_eq_getElem hlt] at hx
      obtain rfl:=Option.some.inj hx
      exact h3
     ·exact hno k (by omega) x hx
   ·simp [inb] at h2; omega
  ·simp at h; omega
theorem Qn63 (ps : List Entry) (n : Str) (hg : decide (ps.length < 1000000000) = true) : Qewq Tryz.prog CP Qvc8 [.sl .entry ps,.fn (.func Qzot) [.rop [.str n] 0]] [] (.int .i64 (idxF (fun p=>p.name == n) ps)) []:=by
 refine Qewq.of Qanj (by kernel_rfl) (Qid4 ps n) ?_
 exact Sat.cut (Qxzv ps n (of_decide_eq_true hg) ps.length 0 (by omega) (fun k hk=>by omega))
theorem Q2bf : EntOK Tryz.prog CP Qvc8 Q0i2:=by
 refine ⟨⟨Tryz.f229,by kernel_rfl,by kernel_rfl,by kernel_rfl⟩,fun args H res H' h=>?_⟩
 simp only [Q0i2] at h
 split at h
 ·simp only [Option.some.injEq,Prod.mk.injEq] at h
  obtain ⟨hg,rfl,rfl⟩:=h
  simp only [Bool.and_eq_true,decide_eq_true_eq] at hg
  obtain ⟨rfl,hg⟩:=hg
  exact Qn63 _ _ (decide_eq_true hg)
 ·cases h

noncomputable def Q0yb : RE Ty El:=⟨Tryz.prog,CP,[(Q5fl,Qqor)],Tryz.f114,0,[],[]⟩
theorem Qjr2 : REOK Q0yb Q8ie:=⟨CP_ok,(TabOK.cons Qx8o Qye1),by kernel_rfl,by kernel_rfl⟩
theorem Qri8 (ks : List Kind) (ps : List Point) (n : Str) : aRun Q0yb 600 false (body0 Q0yb.fn) (Q4gm Q0yb.fn [.agg [.sl .kind ks,.sl .point ps],.str n] []) =
 ifb (decide (ps.length < (1000000000 : Nat))) (some (.ret (.int .i64 (idxF (fun p=>p.name == n) ps)) [])) (none):=by kernel_rfl
theorem Qebw (ks : List Kind) (ps : List Point) (n : Str) (hg : decide (ps.length < 1000000000) = true) : Qewq Tryz.prog CP Q8ie [.agg [.sl .kind ks,.sl .point ps],.str n] [] (.int .i64 (idxF (fun p=>p.name == n) ps)) []:=by
 refine Qewq.of Qjr2 (by kernel_rfl) (Qri8 ks ps n) ?_
 repeat' (first | (refine Sat.ifb (fun h=>?_) (fun h=>?_)) | (refine Sat.retB ?_ rfl; simp_all []; done) | (refine Sat.retI ?_ rfl; simp_all []; done))
 all_goals (first | (refine Sat.no ?_; simp_all; done) | (refine Sat.no ?_; simp_all; omega) | (refine Sat.retB ?_ rfl; simp_all []; omega) | (refine Sat.retI ?_ rfl; simp_all []; omega))
theorem Q5yh : EntOK Tryz.prog CP Q8ie Q4q8:=by
 refine ⟨⟨Tryz.f114,by kernel_rfl,by kernel_rfl,by kernel_rfl⟩,fun args H res H' h=>?_⟩
 simp only [Q4q8] at h
 split at h
 ·simp only [Option.some.injEq,Prod.mk.injEq] at h
  obtain ⟨hg,rfl,rfl⟩:=h
  exact Qebw _ _ _ hg
 ·cases h

noncomputable def Q73k : RE Ty El:=⟨Tryz.prog,CP,[(Q99l,Q2on)],Tryz.f169,0,[],[]⟩
theorem Qmxg : REOK Q73k Q5ff:=⟨CP_ok,(TabOK.cons Qjwf Qye1),by kernel_rfl,by kernel_rfl⟩
theorem Qmpv (ks : List Kind) (ps : List Point) (n : Str) : aRun Q73k 600 false (body0 Q73k.fn) (Q4gm Q73k.fn [.agg [.sl .kind ks,.sl .point ps],.str n] []) =
 ifb (decide (ks.length < (1000000000 : Nat))) (some (.ret (.int .i64 (idxF (fun p=>p.name == n) ks)) [])) (none):=by kernel_rfl
theorem Qqj9 (ks : List Kind) (ps : List Point) (n : Str) (hg : decide (ks.length < 1000000000) = true) : Qewq Tryz.prog CP Q5ff [.agg [.sl .kind ks,.sl .point ps],.str n] [] (.int .i64 (idxF (fun p=>p.name == n) ks)) []:=by
 refine Qewq.of Qmxg (by kernel_rfl) (Qmpv ks ps n) ?_
 repeat' (first | (refine Sat.ifb (fun h=>?_) (fun h=>?_)) | (refine Sat.retB ?_ rfl; simp_all []; done) | (refine Sat.retI ?_ rfl; simp_all []; done))
 all_goals (first | (refine Sat.no ?_; simp_all; done) | (refine Sat.no ?_; simp_all; omega) | (refine Sat.retB ?_ rfl; simp_all []; omega) | (refine Sat.retI ?_ rfl; simp_all []; omega))
theorem Q8iz : EntOK Tryz.prog CP Q5ff Qo07:=by
 refine ⟨⟨Tryz.f169,by kernel_rfl,by kernel_rfl,by kernel_rfl⟩,fun args H res H' h=>?_⟩
 simp only [Qo07] at h
 split at h
 ·simp only [Option.some.injEq,Prod.mk.injEq] at h
  obtain ⟨hg,rfl,rfl⟩:=h
  exact Qqj9 _ _ _ hg
 ·cases h

noncomputable def Qo42 : RE Ty El:=⟨Tryz.prog,CP,[(Qvc8,Q0i2)],Tryz.f176,0,[],[]⟩
theorem Qrrn : REOK Qo42 Q659:=⟨CP_ok,(TabOK.cons Q2bf Qye1),by kernel_rfl,by kernel_rfl⟩
theorem Q9rc (ks : List Kind) (ps : List Point) (es : List Entry) (n : Str) : aRun Qo42 600 false (body0 Qo42.fn) (Q4gm Qo42.fn [.agg [.sl .kind ks,.sl .point ps,.sl .entry es],.str n] []) =
 ifb (decide (es.length < (1000000000 : Nat))) (some (.ret (.int .i64 (idxF (fun p=>p.name == n) es)) [])) (none):=by kernel_rfl
theorem Qwdv (ks : List Kind) (ps : List Point) (es : List Entry) (n : Str) (hg : decide (es.length < 1000000000) = true) : Qewq Tryz.prog CP Q659 [.agg [.sl .kind ks,.sl .point ps,.sl .entry es],.str n] [] (.int .i64 (idxF (fun p=>p.name == n) es)) []:=by
 refine Qewq.of Qrrn (by kernel_rfl) (Q9rc ks ps es n) ?_
 repeat' (first | (refine Sat.ifb (fun h=>?_) (fun h=>?_)) | (refine Sat.retB ?_ rfl; simp_all []; done) | (refine Sat.retI ?_ rfl; simp_all []; done))
 all_goals (first | (refine Sat.no ?_; simp_all; done) | (refine Sat.no ?_; simp_all; omega) | (refine Sat.retB ?_ rfl; simp_all []; omega) | (refine Sat.retI ?_ rfl; simp_all []; omega))
theorem Q4vp : EntOK Tryz.prog CP Q659 Qb5f:=by
 refine ⟨⟨Tryz.f176,by kernel_rfl,by kernel_rfl,by kernel_rfl⟩,fun args H res H' h=>?_⟩
 simp only [Qb5f] at h
 split at h
 ·simp only [Option.some.injEq,Prod.mk.injEq] at h
  obtain ⟨hg,rfl,rfl⟩:=h
  exact Qwdv _ _ _ _ hg
 ·cases h

noncomputable def Qx2q : RE Ty El:=⟨Tryz.prog,CP,[],Tryz.f115,0,[],[(2,[(1,.any),(2,.any),(5,.any)])]⟩
theorem Qyp3 : REOK Qx2q Qne3:=⟨CP_ok,Qye1,by kernel_rfl,by kernel_rfl⟩
theorem Qkua (ks : List Kind) (ps : List Point) (n : Str) : aRun Qx2q 600 false (body0 Qx2q.fn) (Q4gm Qx2q.fn [.agg [.sl .kind ks,.sl .point ps],.str n] []) =
 some (.go (Qu6t Qx2q.fn 2) [.str n,.ptr 0 0,.int .i64 (0 : Int)] [.box [.sl .kind ks,.sl .point ps]]):=by kernel_rfl
theorem Qdkv (x0 : Str) (x1 : Int) (x2 : List (El .kind)) (x3 : List (El .point)) : aRun Qx2q 600 true (Qu6t Qx2q.fn 2) (cutSt Qx2q.fn (Q1m4 Qx2q (Qu6t Qx2q.fn 2)) [.str x0,.ptr 0 0,.int .i64 x1] [.box [.sl .kind x2,.sl .point x3]]) =
 ifb (decide (x1 < (↑x3.length : Int))) (ifb (inb x1 x3.length) (ifb ((x3.getD x1.toNat (Qx2q.C.dflt Ty.point)).name == x0) (some (.ret (.int .i64 x1) [])) (some (.go (Qu6t Qx2q.fn 2) [.str x0,.ptr 0 0,.int .i64 (IntKind.i64.wrap (x1 + (1 : Int)))] [.box [.sl .kind x2,.sl .point x3]]))) (none)) (some (.ret (.int .i64 (-1 : Int)) [])):=by kernel_rfl
theorem Qbdt (ks : List Kind) (ps : List Point) (n : Str) (hl : ps.length < 1000000000) : ∀ (d i : Nat),i + d = ps.length → (∀ k,k < i → ∀ x,ps[k]? = some x → (x.name == n) = false) → Cut Qx2q Qne3 2 [.str n,.ptr 0 0,.int .i64 (i : Int)] [.box [.sl .kind ks,.sl .point ps]] (.int .i64 (idxF (fun p=>p.name == n) ps)) []:=by
 intro d
 induction d with
 | zero =>
  intro i hi hno
  refine Cut.of Qyp3 rfl (Qdkv n i ks ps) ?_
  refine Sat.ifb (fun h=>?_) (fun h=>?_)
  ·simp at h; omega
  ·exact Sat.retI (Q1uv (fun k x hk=>hno k (by have:=(List.getElem?_eq_some_iff.1 hk).1; omega) x hk)).symm rfl
 | succ d ih =>
  intro i hi hno
  refine Cut.of Qyp3 rfl (Qdkv n i ks ps) ?_
  have hlt : i < ps.length:=by omega
  have hw : IntKind.wrap .i64 ((i : Int) + 1) = ((i + 1 : Nat) : Int):=by rw [Qbrg] <;> omega
  rw [hw]
  have hd : ps.getD (i : Int).toNat (Qx2q.C.dflt .point) = ps[i]:=by simp [hlt]
  rw [hd]
  refine Sat.ifb (fun h=>?_) (fun h=>?_)
  ·refine Sat.ifb (fun h2=>?_) (fun h2=>?_)
   ·refine Sat.ifb (fun h3=>?_) (fun h3=>?_)
    ·exact Sat.retI (Qjgx (List.getElem?_eq_getElem hlt) h3 hno).symm rfl
    ·refine Sat.cut (ih (i + 1) (by omega) fun k hk x hx=>?_)
     by_cases hki : k = i
     ·subst hki
      rw [List.getElem?_eq_getElem hlt] at hx
      obtain rfl:=Option.some.inj hx
      exact h3
     ·exact hno k (by omega) x hx
   ·simp [inb] at h2; omega
  ·simp at h; omega
theorem Q78w (ks : List Kind) (ps : List Point) (n : Str) (hg : decide (ps.length < 1000000000) = true) : Qewq Tryz.prog CP Qne3 [.agg [.sl .kind ks,.sl .point ps],.str n] [] (.int .i64 (idxF (fun p=>p.name == n) ps)) []:=by
 refine Qewq.of Qyp3 (by kernel_rfl) (Qkua ks ps n) ?_
 exact Sat.cut (Qbdt ks ps n (of_decide_eq_true hg) ps.length 0 (by omega) (fun k hk=>by omega))
theorem Qcao : EntOK Tryz.prog CP Qne3 Q41f:=by
 refine ⟨⟨Tryz.f115,by kernel_rfl,by kernel_rfl,by kernel_rfl⟩,fun args H res H' h=>?_⟩
 simp only [Q41f,Q4q8] at h
 split at h
 ·simp only [Option.some.injEq,Prod.mk.injEq] at h
  obtain ⟨hg,rfl,rfl⟩:=h
  exact Q78w _ _ _ hg
 ·cases h

noncomputable def Q773 : RE Ty El:=⟨Tryz.prog,CP,[],Tryz.f173,0,[],[(2,[(1,.any),(2,.any),(5,.any)])]⟩
theorem Qyos : REOK Q773 Q780:=⟨CP_ok,Qye1,by kernel_rfl,by kernel_rfl⟩
theorem Qf0n (ks : List Kind) (ps : List Point) (n : Str) : aRun Q773 600 false (body0 Q773.fn) (Q4gm Q773.fn [.agg [.sl .kind ks,.sl .point ps],.str n] []) =
 some (.go (Qu6t Q773.fn 2) [.str n,.ptr 0 0,.int .i64 (0 : Int)] [.box [.sl .kind ks,.sl .point ps]]):=by kernel_rfl
theorem Qyu9 (x0 : Str) (x1 : Int) (x2 : List (El .kind)) (x3 : List (El .point)) : aRun Q773 600 true (Qu6t Q773.fn 2) (cutSt Q773.fn (Q1m4 Q773 (Qu6t Q773.fn 2)) [.str x0,.ptr 0 0,.int .i64 x1] [.box [.sl .kind x2,.sl .point x3]]) =
 ifb (decide (x1 < (↑x2.length : Int))) (ifb (inb x1 x2.length) (ifb ((x2.getD x1.toNat (Q773.C.dflt Ty.kind)).name == x0) (some (.ret (.int .i64 x1) [])) (some (.go (Qu6t Q773.fn 2) [.str x0,.ptr 0 0,.int .i64 (IntKind.i64.wrap (x1 + (1 : Int)))] [.box [.sl .kind x2,.sl .point x3]]))) (none)) (some (.ret (.int .i64 (-1 : Int)) [])):=by kernel_rfl
theorem Qrru (ks : List Kind) (ps : List Point) (n : Str) (hl : ks.length < 1000000000) : ∀ (d i : Nat),i + d = ks.length → (∀ k,k < i → ∀ x,ks[k]? = some x → (x.name == n) = false) → Cut Q773 Q780 2 [.str n,.ptr 0 0,.int .i64 (i : Int)] [.box [.sl .kind ks,.sl .point ps]] (.int .i64 (idxF (fun p=>p.name == n) ks)) []:=by
 intro d
 induction d with
 | zero =>
  intro i hi hno
  refine Cut.of Qyos rfl (Qyu9 n i ks ps) ?_
  refine Sat.ifb (fun h=>?_) (fun h=>?_)
  ·simp at h; omega
  ·exact Sat.retI (Q1uv (fun k x hk=>hno k (by have:=(List.getElem?_eq_some_iff.1 hk).1; omega) x hk)).symm rfl
 | succ d ih =>
  intro i hi hno
  refine Cut.of Qyos rfl (Qyu9 n i ks ps) ?_
  have hlt : i < ks.length:=by omega
  have hw : IntKind.wrap .i64 ((i : Int) + 1) = ((i + 1 : Nat) : Int):=by rw [Qbrg] <;> omega
  rw [hw]
  have hd : ks.getD (i : Int).toNat (Q773.C.dflt .kind) = ks[i]:=by simp [hlt]
  rw [hd]
  refine Sat.ifb (fun h=>?_) (fun h=>?_)
  ·refine Sat.ifb (fun h2=>?_) (fun h2=>?_)
   ·refine Sat.ifb (fun h3=>?_) (fun h3=>?_)
    ·exact Sat.retI (Qjgx (List.getElem?_eq_getElem hlt) h3 hno).symm rfl
    ·refine Sat.cut (ih (i + 1) (by omega) fun k hk x hx=>?_)
     by_cases hki : k = i
     ·subst hki
      rw [List.getElem?_eq_getElem hlt] at hx
      obtain rfl:=Option.some.inj hx
      exact h3
     ·exact hno k (by omega) x hx
   ·simp [inb] at h2; omega
  ·simp at h; omega
theorem Qx08 (ks : List Kind) (ps : List Point) (n : Str) (hg : decide (ks.length < 1000000000) = true) : Qewq Tryz.prog CP Q780 [.agg [.sl .kind ks,.sl .point ps],.str n] [] (.int .i64 (idxF (fun p=>p.name == n) ks)) []:=by
 refine Qewq.of Qyos (by kernel_rfl) (Qf0n ks ps n) ?_
 exact Sat.cut (Qrru ks ps n (of_decide_eq_true hg) ks.length 0 (by omega) (fun k hk=>by omega))
theorem Qlgy : EntOK Tryz.prog CP Q780 Qqer:=by
 refine ⟨⟨Tryz.f173,by kernel_rfl,by kernel_rfl,by kernel_rfl⟩,fun args H res H' h=>?_⟩
 simp only [Qqer,Qo07] at h
 split at h
 ·simp only [Option.some.injEq,Prod.mk.injEq] at h
  obtain ⟨hg,rfl,rfl⟩:=h
  exact Qx08 _ _ _ hg
 ·cases h

noncomputable def Qj8l : RE Ty El:=⟨Tryz.prog,CP,[],Tryz.f116,0,[],[(2,[(1,.any),(2,.any),(5,.any)])]⟩
theorem Qv79 : REOK Qj8l Q4v9:=⟨CP_ok,Qye1,by kernel_rfl,by kernel_rfl⟩
theorem Q0e6 (ks : List Kind) (ps : List Point) (es : List Entry) (n : Str) : aRun Qj8l 600 false (body0 Qj8l.fn) (Q4gm Qj8l.fn [.agg [.sl .kind ks,.sl .point ps,.sl .entry es],.str n] []) =
 some (.go (Qu6t Qj8l.fn 2) [.str n,.ptr 0 0,.int .i64 (0 : Int)] [.box [.sl .kind ks,.sl .point ps,.sl .entry es]]):=by kernel_rfl
theorem Qzuc (x0 : Str) (x1 : Int) (x2 : List (El .kind)) (x3 : List (El .point)) (x4 : List (El .entry)) : aRun Qj8l 600 true (Qu6t Qj8l.fn 2) (cutSt Qj8l.fn (Q1m4 Qj8l (Qu6t Qj8l.fn 2)) [.str x0,.ptr 0 0,.int .i64 x1] [.box [.sl .kind x2,.sl .point x3,.sl .entry x4]]) =
 ifb (decide (x1 < (↑x4.length : Int))) (ifb (inb x1 x4.length) (ifb ((x4.getD x1.toNat (Qj8l.C.dflt Ty.entry)).name == x0) (some (.ret (.int .i64 x1) [])) (some (.go (Qu6t Qj8l.fn 2) [.str x0,.ptr 0 0,.int .i64 (IntKind.i64.wrap (x1 + (1 : Int)))] [.box [.sl .kind x2,.sl .point x3,.sl .entry x4]]))) (none)) (some (.ret (.int .i64 (-1 : Int)) [])):=by kernel_rfl
theorem Qn1k (ks : List Kind) (ps : List Point) (es : List Entry) (n : Str) (hl : es.length < 1000000000) : ∀ (d i : Nat),i + d = es.length → (∀ k,k < i → ∀ x,es[k]? = some x → (x.name == n) = false) → Cut Qj8l Q4v9 2 [.str n,.ptr 0 0,.int .i64 (i : Int)] [.box [.sl .kind ks,.sl .point ps,.sl .entry es]] (.int .i64 (idxF (fun p=>p.name == n) es)) []:=by
 intro d
 induction d with
 | zero =>
  intro i hi hno
  refine Cut.of Qv79 rfl (Qzuc n i ks ps es) ?_
  refine Sat.ifb (fun h=>?_) (fun h=>?_)
  ·simp at h; omega
  ·exact Sat.retI (Q1uv (fun k x hk=>hno k (by have:=(List.getElem?_eq_some_iff.1 hk).1; omega) x hk)).symm rfl
 | succ d ih =>
  intro i hi hno
  refine Cut.of Qv79 rfl (Qzuc n i ks ps es) ?_
  have hlt : i < es.length:=by omega
  have hw : IntKind.wrap .i64 ((i : Int) + 1) = ((i + 1 : Nat) : Int):=by rw [Qbrg] <;> omega
  rw [hw]
  have hd : es.getD (i : Int).toNat (Qj8l.C.dflt .entry) = es[i]:=by simp [hlt]
  rw [hd]
  refine Sat.ifb (fun h=>?_) (fun h=>?_)
  ·refine Sat.ifb (fun h2=>?_) (fun h2=>?_)
   ·refine Sat.ifb (fun h3=>?_) (fun h3=>?_)
    ·exact Sat.retI (Qjgx (List.getElem?_eq_getElem hlt) h3 hno).symm rfl
    ·refine Sat.cut (ih (i + 1) (by omega) fun k hk x hx=>?_)
     by_cases hki : k = i
     ·subst hki
      rw [List.getElem?_eq_getElem hlt] at hx
      obtain rfl:=Option.some.inj hx
      exact h3
     ·exact hno k (by omega) x hx
   ·simp [inb] at h2; omega
  ·simp at h; omega
theorem Qbk7 (ks : List Kind) (ps : List Point) (es : List Entry) (n : Str) (hg : decide (es.length < 1000000000) = true) : Qewq Tryz.prog CP Q4v9 [.agg [.sl .kind ks,.sl .point ps,.sl .entry es],.str n] [] (.int .i64 (idxF (fun p=>p.name == n) es)) []:=by
 refine Qewq.of Qv79 (by kernel_rfl) (Q0e6 ks ps es n) ?_
 exact Sat.cut (Qn1k ks ps es n (of_decide_eq_true hg) es.length 0 (by omega) (fun k hk=>by omega))
theorem Q9x2 : EntOK Tryz.prog CP Q4v9 Qf4o:=by
 refine ⟨⟨Tryz.f116,by kernel_rfl,by kernel_rfl,by kernel_rfl⟩,fun args H res H' h=>?_⟩
 simp only [Qf4o,Qb5f] at h
 split at h
 ·simp only [Option.some.injEq,Prod.mk.injEq] at h
  obtain ⟨hg,rfl,rfl⟩:=h
  exact Qbk7 _ _ _ _ hg
 ·cases h

noncomputable def Qzax : RE Ty El:=⟨Tryz.prog,CP,[(Q9ho,Qcc2)],Tryz.f170,0,[],[]⟩
theorem Qktt : REOK Qzax Qi5t:=⟨CP_ok,(TabOK.cons Q8k7 Qye1),by kernel_rfl,by kernel_rfl⟩
theorem Qo72 (s : Str) (x y : Int) : aRun Qzax 600 false (body0 Qzax.fn) (Q4gm Qzax.fn [.agg [.str s,.int .i64 x,.int .i64 y]] []) =
 ifb (Q2rq s) (ifb (decide ((1 : Int) ≤ x)) (ifb (decide (x ≤ y)) (some (.ret (.bool (decide (y ≤ (50 : Int)))) [])) (some (.ret (.bool false) []))) (some (.ret (.bool false) []))) (some (.ret (.bool false) [])):=by kernel_rfl
theorem Qrg1 (s : Str) (x y : Int) : Qewq Tryz.prog CP Qi5t [.agg [.str s,.int .i64 x,.int .i64 y]] [] (.bool (Kind.ok ⟨s,x,y⟩)) []:=by
 refine Qewq.of Qktt (by kernel_rfl) (Qo72 s x y) ?_
 repeat' (first | (refine Sat.ifb (fun h=>?_) (fun h=>?_)) | (refine Sat.retB ?_ rfl; simp_all [Kind.ok]; done) | (refine Sat.retI ?_ rfl; simp_all [Kind.ok]; done))
 all_goals (first | (refine Sat.no ?_; simp_all; done) | (refine Sat.no ?_; simp_all; omega) | (refine Sat.retB ?_ rfl; simp_all [Kind.ok]; omega) | (refine Sat.retI ?_ rfl; simp_all [Kind.ok]; omega))
theorem Qvs4 : EntOK Tryz.prog CP Qi5t Qcb4:=by
 refine ⟨⟨Tryz.f170,by kernel_rfl,by kernel_rfl,by kernel_rfl⟩,fun args H res H' h=>?_⟩
 simp only [Qcb4] at h
 split at h
 ·simp only [Option.some.injEq,Prod.mk.injEq] at h
  obtain ⟨hg,rfl,rfl⟩:=h
  exact Qrg1 _ _ _
 ·cases h

noncomputable def Q41i : RE Ty El:=⟨Tryz.prog,CP,[(Q9ho,Qcc2),(Qn2h,Q0vx)],Tryz.f171,0,[],[]⟩
theorem Qbgp : REOK Q41i Q3pj:=⟨CP_ok,(TabOK.cons Q8k7 (TabOK.cons Qfgu Qye1)),by kernel_rfl,by kernel_rfl⟩
theorem Q571 (s : Str) (x y : Int) : aRun Q41i 600 false (body0 Q41i.fn) (Q4gm Q41i.fn [.agg [.str s,.int .i64 x,.int .i64 y]] []) =
 ifb (Q2rq s) (ifb (inR x (0 : Int) (15 : Int)) (some (.ret (.bool (inR y (0 : Int) (15 : Int))) [])) (some (.ret (.bool false) []))) (some (.ret (.bool false) [])):=by kernel_rfl
theorem Qu71 (s : Str) (x y : Int) : Qewq Tryz.prog CP Q3pj [.agg [.str s,.int .i64 x,.int .i64 y]] [] (.bool (Point.ok ⟨s,x,y⟩)) []:=by
 refine Qewq.of Qbgp (by kernel_rfl) (Q571 s x y) ?_
 repeat' (first | (refine Sat.ifb (fun h=>?_) (fun h=>?_)) | (refine Sat.retB ?_ rfl; simp_all [Point.ok]; done) | (refine Sat.retI ?_ rfl; simp_all [Point.ok]; done))
 all_goals (first | (refine Sat.no ?_; simp_all; done) | (refine Sat.no ?_; simp_all; omega) | (refine Sat.retB ?_ rfl; simp_all [Point.ok]; omega) | (refine Sat.retI ?_ rfl; simp_all [Point.ok]; omega))
theorem Qvb7 : EntOK Tryz.prog CP Q3pj Qj6w:=by
 refine ⟨⟨Tryz.f171,by kernel_rfl,by kernel_rfl,by kernel_rfl⟩,fun args H res H' h=>?_⟩
 simp only [Qj6w] at h
 split at h
 ·simp only [Option.some.injEq,Prod.mk.injEq] at h
  obtain ⟨hg,rfl,rfl⟩:=h
  exact Qu71 _ _ _
 ·cases h

noncomputable def Qeyc : RE Ty El:=⟨Tryz.prog,CP,[(Qnn1,Q4bc),(Qyp5,Qc4s)],Tryz.f195,0,[],[]⟩
theorem Qx6i : REOK Qeyc Qycj:=⟨CP_ok,(TabOK.cons Q7n8 (TabOK.cons Qzgd Qye1)),by kernel_rfl,by kernel_rfl⟩
theorem Q8f3 (s : Str) (x y : Int) : aRun Qeyc 600 false (body0 Qeyc.fn) (Q4gm Qeyc.fn [.agg [.str s,.int .i64 x,.int .i64 y]] []) =
 ifb (Q2rq s) (ifb (inR x (1 : Int) y) (some (.ret (.bool (decide (y ≤ (50 : Int)))) [])) (some (.ret (.bool false) []))) (some (.ret (.bool false) [])):=by kernel_rfl
theorem Q8um (s : Str) (x y : Int) : Qewq Tryz.prog CP Qycj [.agg [.str s,.int .i64 x,.int .i64 y]] [] (.bool (Kind.ok ⟨s,x,y⟩)) []:=by
 refine Qewq.of Qx6i (by kernel_rfl) (Q8f3 s x y) ?_
 repeat' (first | (refine Sat.ifb (fun h=>?_) (fun h=>?_)) | (refine Sat.retB ?_ rfl; simp_all [Kind.ok,inR]; done) | (refine Sat.retI ?_ rfl; simp_all [Kind.ok,inR]; done))
 all_goals (first | (refine Sat.no ?_; simp_all; done) | (refine Sat.no ?_; simp_all; omega) | (refine Sat.retB ?_ rfl; simp_all [Kind.ok,inR]; omega) | (refine Sat.retI ?_ rfl; simp_all [Kind.ok,inR]; omega))
theorem Qnkx : EntOK Tryz.prog CP Qycj Qaw0:=by
 refine ⟨⟨Tryz.f195,by kernel_rfl,by kernel_rfl,by kernel_rfl⟩,fun args H res H' h=>?_⟩
 simp only [Qaw0,Qcb4] at h
 split at h
 ·simp only [Option.some.injEq,Prod.mk.injEq] at h
  obtain ⟨hg,rfl,rfl⟩:=h
  exact Q8um _ _ _
 ·cases h

noncomputable def Qj34 : RE Ty El:=⟨Tryz.prog,CP,[(Qnn1,Q4bc),(Qyp5,Qc4s)],Tryz.f196,0,[],[]⟩
theorem Qea1 : REOK Qj34 Qwjz:=⟨CP_ok,(TabOK.cons Q7n8 (TabOK.cons Qzgd Qye1)),by kernel_rfl,by kernel_rfl⟩
theorem Qwkj (s : Str) (x y : Int) : aRun Qj34 600 false (body0 Qj34.fn) (Q4gm Qj34.fn [.agg [.str s,.int .i64 x,.int .i64 y]] []) =
 ifb (Q2rq s) (ifb (inR x (0 : Int) (15 : Int)) (some (.ret (.bool (inR y (0 : Int) (15 : Int))) [])) (some (.ret (.bool false) []))) (some (.ret (.bool false) [])):=by kernel_rfl
theorem Qwz0 (s : Str) (x y : Int) : Qewq Tryz.prog CP Qwjz [.agg [.str s,.int .i64 x,.int .i64 y]] [] (.bool (Point.ok ⟨s,x,y⟩)) []:=by
 refine Qewq.of Qea1 (by kernel_rfl) (Qwkj s x y) ?_
 repeat' (first | (refine Sat.ifb (fun h=>?_) (fun h=>?_)) | (refine Sat.retB ?_ rfl; simp_all [Point.ok]; done) | (refine Sat.retI ?_ rfl; simp_all [Point.ok]; done))
 all_goals (first | (refine Sat.no ?_; simp_all; done) | (refine Sat.no ?_; simp_all; omega) | (refine Sat.retB ?_ rfl; simp_all [Point.ok]; omega) | (refine Sat.retI ?_ rfl; simp_all [Point.ok]; omega))
theorem Ql10 : EntOK Tryz.prog CP Qwjz Q2zc:=by
 refine ⟨⟨Tryz.f196,by kernel_rfl,by kernel_rfl,by kernel_rfl⟩,fun args H res H' h=>?_⟩
 simp only [Q2zc,Qj6w] at h
 split at h
 ·simp only [Option.some.injEq,Prod.mk.injEq] at h
  obtain ⟨hg,rfl,rfl⟩:=h
  exact Qwz0 _ _ _
 ·cases h
end Lx
namespace Lx
open Go Go.Proofs
def Q0d5 (x : Int) : Bool:=decide (-1000000000 ≤ x) && decide (x ≤ 1000000000)
def Qbz3 (n l : Int) (k : Nat) : Int:=min l (min (k : Int) (n - 1 - (k : Int)))
def Qc07 (n l : Int) : List Int:=if inR n 1 40 = true ∧ inR l 1 6 = true then (List.range n.toNat).map (Qbz3 n l) else []
def Q0fp : Ent Ty El:=⟨[.ro,.ro],0,fun a h=>match a,h with
 | [.int .i64 x,.int .i64 y],[]=>some (Q0d5 x && Q0d5 y,.int .i64 ((x - y).natAbs : Int),[])
 | _,_=>none⟩
def Qcry : Ent Ty El:=⟨[.ro,.ro],0,fun a h=>match a,h with
 | [.int .i64 x,.int .i64 y],[]=>some (Q0d5 x && (Q0d5 y && decide (0 < y)),.int .i64 (x / y),[])
 | _,_=>none⟩
def Q7vp : Ent Ty El:=⟨[.ro,.ro],0,fun a h=>match a,h with
 | [.int .i64 n,.int .i64 l],[]=>some (true,.sl .int (Qc07 n l),[])
 | _,_=>none⟩
end Lx
namespace Lx
open Go Go.Proofs
noncomputable def Qkyy : RE Ty El:=⟨Tryz.prog,CP,[],Tryz.f192,0,[],[]⟩
theorem Qzjo : REOK Qkyy Qsnv:=⟨CP_ok,Qye1,by kernel_rfl,by kernel_rfl⟩
theorem Q47r (x y : Int) : aRun Qkyy 600 false (body0 Qkyy.fn) (Q4gm Qkyy.fn [.int .i64 x,.int .i64 y] []) =
 ifb (decide (x > y)) (some (.ret (.int .i64 (IntKind.i64.wrap (x - y))) [])) (some (.ret (.int .i64 (IntKind.i64.wrap (y - x))) [])):=by kernel_rfl
theorem Qpa1 (x y : Int) (hg : (Q0d5 x && Q0d5 y) = true) : Qewq Tryz.prog CP Qsnv [.int .i64 x,.int .i64 y] [] (.int .i64 ((x - y).natAbs : Int)) []:=by
 refine Qewq.of Qzjo (by kernel_rfl) (Q47r x y) ?_
 simp only [Q0d5,Bool.and_eq_true,decide_eq_true_eq] at hg
 refine Sat.ifb (fun h=>?_) (fun h=>?_)
 ·refine Sat.retI ?_ rfl
  simp at h
  rw [Qbrg] <;> omega
 ·refine Sat.retI ?_ rfl
  simp at h
  rw [Qbrg] <;> omega
theorem Qslm : EntOK Tryz.prog CP Qsnv Q0fp:=by
 refine ⟨⟨Tryz.f192,by kernel_rfl,by kernel_rfl,by kernel_rfl⟩,fun args H res H' h=>?_⟩
 simp only [Q0fp] at h
 split at h
 ·simp only [Option.some.injEq,Prod.mk.injEq] at h
  obtain ⟨hg,rfl,rfl⟩:=h
  exact Qpa1 _ _ hg
 ·cases h

noncomputable def Qmb8 : RE Ty El:=⟨Tryz.prog,CP,[],Tryz.f193,0,[],[]⟩
theorem Q6sg : REOK Qmb8 Quuj:=⟨CP_ok,Qye1,by kernel_rfl,by kernel_rfl⟩
theorem Q78f (x y : Int) : aRun Qmb8 600 false (body0 Qmb8.fn) (Q4gm Qmb8.fn [.int .i64 x,.int .i64 y] []) =
 ifb (!y == (0 : Int)) (ifb (!y == (0 : Int)) (ifb (x.tmod y != (0 : Int)) (ifb (!decide (x < (0 : Int)) == decide (y < (0 : Int))) (some (.ret (.int .i64 (IntKind.i64.wrap (IntKind.i64.wrap (x.tdiv y) - (1 : Int)))) [])) (some (.ret (.int .i64 (IntKind.i64.wrap (x.tdiv y))) []))) (some (.ret (.int .i64 (IntKind.i64.wrap (x.tdiv y))) []))) (none)) (none):=by kernel_rfl
theorem Qlcf (x y : Int) (hg : (Q0d5 x && (Q0d5 y && decide (0 < y))) = true) : Qewq Tryz.prog CP Quuj [.int .i64 x,.int .i64 y] [] (.int .i64 (x / y)) []:=by
 refine Qewq.of Q6sg (by kernel_rfl) (Q78f x y) ?_
 simp only [Q0d5,Bool.and_eq_true,decide_eq_true_eq] at hg
 obtain ⟨hx,hy,hy0⟩:=hg
 have h2:=Int.mul_ediv_add_emod x y
 have h3:=Int.emod_nonneg x (by omega : y ≠ 0)
 have h4:=Int.emod_lt_of_pos x hy0
 have h5 : (x.tdiv y).natAbs ≤ x.natAbs:=Int.natAbs_tdiv_le_natAbs x y
 have h6:=Int.tdiv_eq_ediv (a:=x) (b:=y)
 have h7:=Int.tmod_eq_emod (a:=x) (b:=y)
 have h8:=Int.emod_eq_zero_of_dvd (a:=y) (b:=x)
 have h9:=Int.dvd_of_emod_eq_zero (a:=y) (b:=x)
 have hs : y.sign = 1:=Int.sign_eq_one_of_pos hy0
 have hw : IntKind.wrap .i64 (x.tdiv y) = x.tdiv y:=by rw [Qbrg] <;> omega
 have hw1 : IntKind.wrap .i64 (x.tdiv y - 1) = x.tdiv y - 1:=by rw [Qbrg] <;> omega
 rw [hw,hw1]
 by_cases hx0 : 0 ≤ x
 ·simp only [hx0,true_or,if_true] at h6 h7
  have hn1 : ¬ x < 0:=by omega
  have hn2 : ¬ y < 0:=by omega
  repeat' (first | (refine Sat.ifb (fun h=>?_) (fun h=>?_)))
  all_goals (first | (refine Sat.no ?_; simp at h; omega) | (exact Sat.retI (by omega) rfl) | (refine Sat.no ?_; simp_all))
 ·have hn1 : x < 0:=by omega
  have hn2 : ¬ y < 0:=by omega
  by_cases hd : y ∣ x
  ·have h8:=h8 hd
   simp only [hd,or_true,if_true] at h6 h7
   repeat' (first | (refine Sat.ifb (fun h=>?_) (fun h=>?_)))
   all_goals (first | (refine Sat.no ?_; simp at h; omega) | (exact Sat.retI (by omega) rfl) | (refine Sat.no ?_; simp_all))
  ·have h9 : x % y ≠ 0:=fun e=>hd (h9 e)
   simp only [hd,hx0,or_self,if_false,hs] at h6 h7
   repeat' (first | (refine Sat.ifb (fun h=>?_) (fun h=>?_)))
   all_goals (first | (refine Sat.no ?_; simp at h; omega) | (exact Sat.retI (by omega) rfl) | (refine Sat.no ?_; simp_all; omega))
theorem Qu8a : EntOK Tryz.prog CP Quuj Qcry:=by
 refine ⟨⟨Tryz.f193,by kernel_rfl,by kernel_rfl,by kernel_rfl⟩,fun args H res H' h=>?_⟩
 simp only [Qcry] at h
 split at h
 ·simp only [Option.some.injEq,Prod.mk.injEq] at h
  obtain ⟨hg,rfl,rfl⟩:=h
  exact Qlcf _ _ hg
 ·cases h

noncomputable def Q3oq : RE Ty El:=⟨Tryz.prog,CP,[(Qn2h,Q0vx)],Tryz.f85,0,[.ro .int],[(5,[(0,.any),(1,.any),(5,.any),(6,.any)])]⟩
theorem Qljf : REOK Q3oq Qqwa:=⟨CP_ok,(TabOK.cons Qfgu Qye1),by kernel_rfl,by kernel_rfl⟩
theorem Qlbj (n l : Int) : aRun Q3oq 600 false (body0 Q3oq.fn) (Q4gm Q3oq.fn [.int .i64 n,.int .i64 l] []) =
 ifb (!inR n (1 : Int) (40 : Int)) (some (.ret (.sl .int []) [])) (ifb (!inR l (1 : Int) (6 : Int)) (some (.ret (.sl .int []) [])) (some (.go (Qu6t Q3oq.fn 5) [.int .i64 n,.int .i64 l,.own 0 [] 0,.int .i64 (0 : Int)] [.row .int [] 0 0 0 .no]))):=by kernel_rfl
theorem Q3fz (x0 : Int) (x1 : Int) (x2 : Int) (x3 : List (El .int)) : aRun Q3oq 600 true (Qu6t Q3oq.fn 5) (cutSt Q3oq.fn (Q1m4 Q3oq (Qu6t Q3oq.fn 5)) [.int .i64 x0,.int .i64 x1,.own 0 [] 0,.int .i64 x2] [.row .int x3 0 0 0 .no]) =
 ifb (decide (x2 < x0)) (ifb (decide ((x3.length + [min2A (min2A x1 x2) (IntKind.i64.wrap (IntKind.i64.wrap (x0 - (1 : Int)) - x2))].length) * Qbhn Q3oq.P (3 : Nat) ≤ (140737488355328 : Nat))) (some (.go (Qu6t Q3oq.fn 5) [.int .i64 x0,.int .i64 x1,.own 0 [] 0,.int .i64 (IntKind.i64.wrap (x2 + (1 : Int)))] [.row .int (x3 ++ [min2A (min2A x1 x2) (IntKind.i64.wrap (IntKind.i64.wrap (x0 - (1 : Int)) - x2))]) 0 0 0 .no])) (none)) (some (.ret (.sl .int x3) [])):=by kernel_rfl
theorem Qj6c (n l : Int) (hn : inR n 1 40 = true) (hl : inR l 1 6 = true) : ∀ (d k : Nat),(k : Int) + d = n → Cut Q3oq Qqwa 5 [.int .i64 n,.int .i64 l,.own 0 [] 0,.int .i64 (k : Int)] [.row .int ((List.range k).map (Qbz3 n l)) 0 0 0 .no] (.sl .int (Qc07 n l)) []:=by
 have hn':=hn
 simp only [inR,Bool.and_eq_true,decide_eq_true_eq] at hn'
 have hb : Qbhn Q3oq.P 3 = 8:=by kernel_rfl
 intro d
 induction d with
 | zero =>
  intro k hk
  refine Cut.of Qljf rfl (Q3fz n l k _) ?_
  refine Sat.ifb (fun h=>?_) (fun h=>?_)
  ·simp at h; omega
  ·refine Sat.ret ?_ rfl
   have : n.toNat = k:=by omega
   simp [Qc07,hn,hl,this]
 | succ d ih =>
  intro k hk
  refine Cut.of Qljf rfl (Q3fz n l k _) ?_
  have hw : IntKind.wrap .i64 ((k : Int) + 1) = ((k + 1 : Nat) : Int):=by rw [Qbrg] <;> omega
  have hw1 : IntKind.wrap .i64 (n - 1) = n - 1:=by rw [Qbrg] <;> omega
  have hw2 : IntKind.wrap .i64 (n - 1 - (k : Int)) = n - 1 - (k : Int):=by rw [Qbrg] <;> omega
  rw [hw,hw1,hw2]
  refine Sat.ifb (fun h=>?_) (fun h=>?_)
  ·refine Sat.ifb (fun h=>?_) (fun h=>?_)
   ·have hlev : min2A (min2A l (k : Int)) (n - 1 - (k : Int)) = Qbz3 n l k:=by simp only [Qbz3,min2A]; (repeat' split) <;> omega
    rw [hlev]
    have:=ih (k + 1) (by omega)
    rw [List.range_succ,List.map_append] at this
    exact Sat.cut this
   ·simp [hb] at h; omega
  ·simp at h; omega
theorem Qwal (n l : Int) : Qewq Tryz.prog CP Qqwa [.int .i64 n,.int .i64 l] [] (.sl .int (Qc07 n l)) []:=by
 refine Qewq.of Qljf (by kernel_rfl) (Qlbj n l) ?_
 have hne : ∀ x y z,inR x y z = false → ¬ (inR x y z = true):=fun x y z h=>by simp [h]
 repeat' (first | (refine Sat.ifb (fun h=>?_) (fun h=>?_)))
 all_goals (first | (refine Sat.ret ?_ rfl; simp_all [Qc07]; done) | (refine Sat.cut (Qj6c n l (by simp_all) (by simp_all) n.toNat 0 ?_); simp_all [inR]; try omega))
theorem Qgno : EntOK Tryz.prog CP Qqwa Q7vp:=by
 refine ⟨⟨Tryz.f85,by kernel_rfl,by kernel_rfl,by kernel_rfl⟩,fun args H res H' h=>?_⟩
 simp only [Q7vp] at h
 split at h
 ·simp only [Option.some.injEq,Prod.mk.injEq] at h
  obtain ⟨hg,rfl,rfl⟩:=h
  exact Qwal _ _
 ·cases h

end Lx
namespace Lx
open Go Go.Proofs
def cutS (c : Int) : Str → List Str
 | []=>[[]]
 | b :: s=>if ((b.toNat : Int) == c) = true then [] :: cutS c s else match cutS c s with
  | []=>[[b]]
  | w :: ws=>(b :: w) :: ws
def preF (p : Str) : List Str → List Str
 | []=>[p]
 | w :: ws=>(p ++ w) :: ws
theorem Qk4w (c : Int) (s : Str) : cutS c s ≠ []:=by
 cases s with
 | nil=>simp [cutS]
 | cons b s =>
  simp only [cutS]
  split
  ·simp
  ·split <;> simp
theorem Qxhi {c : Int} {s : Str} : preF [] (cutS c s) = cutS c s:=by
 have:=Qk4w c s
 cases h : cutS c s with
 | nil=>exact absurd h this
 | cons w ws=>simp [preF]
theorem Q5bz {c : Int} {s p : Str} {b : UInt8} (h : ((b.toNat : Int) == c) = true) : preF p (cutS c (b :: s)) = p :: cutS c s:=by
 simp only [cutS,h,if_true,preF,List.append_nil]
theorem Q3ea {c : Int} {s p : Str} {b : UInt8} (h : ((b.toNat : Int) == c) = false) : preF p (cutS c (b :: s)) = preF (p ++ [b]) (cutS c s):=by
 have:=Qk4w c s
 simp only [cutS,h,Bool.false_eq_true,if_false]
 cases h : cutS c s with
 | nil=>exact absurd h this
 | cons w ws=>simp [preF]
def numGo : Int → Str → Int
 | n,[]=>n
 | n,b :: s=>if (b.toNat : Int) < 48 ∨ (b.toNat : Int) > 57 then -1 else numGo (n * 10 + ((b.toNat : Int) - 48)) s
def numF (s : Str) : Int:=if 1 ≤ s.length ∧ s.length ≤ 7 ∧ ¬ (1 < s.length ∧ ((s.getD 0 0).toNat : Int) = 48) then numGo 0 s else -1
def valF (fs : List Fld) (w : Int) : Str:=match fs.find? (fun f=>f.what == w) with
 | some f=>f.value
 | none=>[]
theorem Qxcg (f : Fld) (fs : List Fld) (w : Int) : valF (f :: fs) w = ifb (f.what == w) f.value (valF fs w):=by
 unfold valF
 rw [List.find?_cons]
 cases h : (f.what == w) <;> rfl
def Qi2p : Ent Ty El:=⟨[.ro,.ro],0,fun a h=>match a,h with
 | [.str s,.int .u8 c],[]=>some (decide (s.length ≤ 1000000000),.sl .str (cutS c s),[])
 | _,_=>none⟩
def Qmli : Ent Ty El:=⟨[.ro],0,fun a h=>match a,h with
 | [.str s],[]=>some (true,.int .i64 (numF s),[])
 | _,_=>none⟩
end Lx
namespace Lx
open Go Go.Proofs
noncomputable def Qo1r : RE Ty El:=⟨Tryz.prog,CP,[],Tryz.f111,0,[.ro .str],[(4,[(0,.any),(1,.any),(5,.any),(6,.any),(7,.any)])]⟩
theorem Qjel : REOK Qo1r Q001:=⟨CP_ok,Qye1,by kernel_rfl,by kernel_rfl⟩
theorem Q7o5 (s : Str) (c : Int) : aRun Qo1r 600 false (body0 Qo1r.fn) (Q4gm Qo1r.fn [.str s,.int .u8 c] []) =
 some (.go (Qu6t Qo1r.fn 4) [.str s,.int .u8 c,.own 0 [] 0,.int .i64 (0 : Int),.int .i64 (0 : Int)] [.row .str [] 0 0 0 .no]):=by kernel_rfl
theorem Qv3u (x0 : Str) (x1 : Int) (x2 : Int) (x3 : Int) (x4 : List (El .str)) : aRun Qo1r 600 true (Qu6t Qo1r.fn 4) (cutSt Qo1r.fn (Q1m4 Qo1r (Qu6t Qo1r.fn 4)) [.str x0,.int .u8 x1,.own 0 [] 0,.int .i64 x2,.int .i64 x3] [.row .str x4 0 0 0 .no]) =
 ifb (decide (x3 < (↑(List.length x0) : Int))) (ifb (inb x3 (List.length x0)) (ifb ((↑(List.getD x0 x3.toNat (0 : UInt8)).toNat : Int) == x1) (ifb (decide ((0 : Int) ≤ x2) && (decide (x2 ≤ x3) && decide (x3 ≤ (↑(List.length x0) : Int)))) (ifb (decide ((x4.length + [List.take (x3.toNat - x2.toNat) (List.drop x2.toNat x0)].length) * Qbhn Qo1r.P (9 : Nat) ≤ (140737488355328 : Nat))) (some (.go (Qu6t Qo1r.fn 4) [.str x0,.int .u8 x1,.own 0 [] 0,.int .i64 (IntKind.i64.wrap (x3 + (1 : Int))),.int .i64 (IntKind.i64.wrap (x3 + (1 : Int)))] [.row .str (x4 ++ [List.take (x3.toNat - x2.toNat) (List.drop x2.toNat x0)]) 0 0 0 .no])) (none)) (none)) (some (.go (Qu6t Qo1r.fn 4) [.str x0,.int .u8 x1,.own 0 [] 0,.int .i64 x2,.int .i64 (IntKind.i64.wrap (x3 + (1 : Int)))] [.row .str x4 0 0 0 .no]))) (none)) (ifb (decide ((0 : Int) ≤ x2) && (decide (x2 ≤ (↑(List.length x0) : Int)) && decide ((↑(List.length x0) : Int) ≤ (↑(List.length x0) : Int)))) (ifb (decide ((x4.length + [List.take ((↑(List.length x0) : Int).toNat - x2.toNat) (List.drop x2.toNat x0)].length) * Qbhn Qo1r.P (9 : Nat) ≤ (140737488355328 : Nat))) (some (.ret (.sl .str (x4 ++ [List.take ((↑(List.length x0) : Int).toNat - x2.toNat) (List.drop x2.toNat x0)])) [])) (none)) (none)):=by kernel_rfl
theorem Q7yl (s : Str) (c : Int) (hs : s.length ≤ 1000000000) : ∀ (d i fr : Nat) (acc : List Str),i + d = s.length → fr ≤ i → acc.length ≤ i →
  Cut Qo1r Q001 4 [.str s,.int .u8 c,.own 0 [] 0,.int .i64 (fr : Int),.int .i64 (i : Int)] [.row .str acc 0 0 0 .no] (.sl .str (acc ++ preF ((s.drop fr).take (i - fr)) (cutS c (s.drop i)))) []:=by
 have hb : Qbhn Qo1r.P 9 = 16:=by kernel_rfl
 intro d
 induction d with
 | zero =>
  intro i fr acc hi hf ha
  refine Cut.of Qjel rfl (Qv3u s c fr i acc) ?_
  refine Sat.ifb (fun h=>?_) (fun h=>?_)
  ·simp at h; omega
  ·refine Sat.ifb (fun h=>?_) (fun h=>?_)
   ·refine Sat.ifb (fun h=>?_) (fun h=>?_)
    ·refine Sat.ret ?_ rfl
     have e : s.drop i = []:=List.drop_of_length_le (by omega)
     have e2 : s.length = i:=by omega
     simp [e,cutS,preF,e2]
    ·simp [hb] at h; omega
   ·simp at h; omega
 | succ d ih =>
  intro i fr acc hi hf ha
  refine Cut.of Qjel rfl (Qv3u s c fr i acc) ?_
  have hlt : i < s.length:=by omega
  have hw : IntKind.wrap .i64 ((i : Int) + 1) = ((i + 1 : Nat) : Int):=by rw [Qbrg] <;> omega
  have hd : s.drop i = s.getD i 0 :: s.drop (i + 1):=by rw [List.drop_eq_getElem_cons hlt]; simp [hlt]
  rw [hw,Int.toNat_natCast,Int.toNat_natCast]
  refine Sat.ifb (fun h=>?_) (fun h=>?_)
  ·refine Sat.ifb (fun h=>?_) (fun h=>?_)
   ·refine Sat.ifb (fun hb1=>?_) (fun hb1=>?_)
    ·refine Sat.ifb (fun h=>?_) (fun h=>?_)
     ·refine Sat.ifb (fun h=>?_) (fun h=>?_)
      ·rw [hd,Q5bz hb1]
       have:=ih (i + 1) (i + 1) (acc ++ [(s.drop fr).take (i - fr)]) (by omega) (by omega) (by simp; omega)
       rw [Nat.sub_self,List.take_zero,Qxhi,List.append_assoc] at this
       exact Sat.cut this
      ·simp [hb] at h; omega
     ·simp at h; omega
    ·rw [hd,Q3ea hb1]
     have:=ih (i + 1) fr acc (by omega) (by omega) (by omega)
     have e : (s.drop fr).take (i + 1 - fr) = (s.drop fr).take (i - fr) ++ [s.getD i 0]:=by
      have : i + 1 - fr = (i - fr) + 1:=by omega
      rw [this,List.take_add_one,List.getElem?_drop,show fr + (i - fr) = i by omega,List.getElem?_eq_getElem hlt,List.getD_eq_getElem?_getD,List.getElem?_eq_getElem hlt]
      rfl
     rw [e] at this
     exact Sat.cut this
   ·simp [inb] at h; omega
  ·simp at h; omega
theorem Q8ci (s : Str) (c : Int) (hg : decide (s.length ≤ 1000000000) = true) : Qewq Tryz.prog CP Q001 [.str s,.int .u8 c] [] (.sl .str (cutS c s)) []:=by
 refine Qewq.of Qjel (by kernel_rfl) (Q7o5 s c) ?_
 have:=Q7yl s c (of_decide_eq_true hg) s.length 0 0 [] (by omega) (by omega) (by simp)
 rw [List.nil_append,Nat.sub_self,List.take_zero,List.drop_zero,Qxhi] at this
 exact Sat.cut this
theorem Ql4s : EntOK Tryz.prog CP Q001 Qi2p:=by
 refine ⟨⟨Tryz.f111,by kernel_rfl,by kernel_rfl,by kernel_rfl⟩,fun args H res H' h=>?_⟩
 simp only [Qi2p] at h
 split at h
 ·simp only [Option.some.injEq,Prod.mk.injEq] at h
  obtain ⟨hg,rfl,rfl⟩:=h
  exact Q8ci _ _ hg
 ·cases h

noncomputable def Qm2u : RE Ty El:=⟨Tryz.prog,CP,[(Qyp5,Qc4s)],Tryz.f112,0,[],[(5,[(0,.any),(3,.any),(4,.any)])]⟩
theorem Qcvc : REOK Qm2u Qqw4:=⟨CP_ok,(TabOK.cons Qzgd Qye1),by kernel_rfl,by kernel_rfl⟩
theorem Q84i (s : Str) : aRun Qm2u 600 false (body0 Qm2u.fn) (Q4gm Qm2u.fn [.str s] []) =
 ifb (!inR (↑(List.length s) : Int) (1 : Int) (7 : Int)) (some (.ret (.int .i64 (-1 : Int)) [])) (ifb (decide ((↑(List.length s) : Int) > (1 : Int))) (ifb (inb (0 : Int) (List.length s)) (ifb ((↑(List.getD s (Int.toNat (0 : Int)) (0 : UInt8)).toNat : Int) == (48 : Int)) (some (.ret (.int .i64 (-1 : Int)) [])) (some (.go (Qu6t Qm2u.fn 5) [.str s,.int .i64 (0 : Int),.int .i64 (0 : Int)] []))) (none)) (some (.go (Qu6t Qm2u.fn 5) [.str s,.int .i64 (0 : Int),.int .i64 (0 : Int)] []))):=by kernel_rfl
theorem Qh4w (x0 : Str) (x1 : Int) (x2 : Int) : aRun Qm2u 600 true (Qu6t Qm2u.fn 5) (cutSt Qm2u.fn (Q1m4 Qm2u (Qu6t Qm2u.fn 5)) [.str x0,.int .i64 x1,.int .i64 x2] []) =
 ifb (decide (x2 < (↑(List.length x0) : Int))) (ifb (inb x2 (List.length x0)) (ifb (decide ((↑(List.getD x0 x2.toNat (0 : UInt8)).toNat : Int) < (48 : Int))) (some (.ret (.int .i64 (-1 : Int)) [])) (ifb (inb x2 (List.length x0)) (ifb (decide ((↑(List.getD x0 x2.toNat (0 : UInt8)).toNat : Int) > (57 : Int))) (some (.ret (.int .i64 (-1 : Int)) [])) (ifb (inb x2 (List.length x0)) (some (.go (Qu6t Qm2u.fn 5) [.str x0,.int .i64 (IntKind.i64.wrap (IntKind.i64.wrap (IntKind.i64.wrap (x1 * (10 : Int)) + IntKind.i64.wrap (↑(List.getD x0 x2.toNat (0 : UInt8)).toNat : Int)) - (48 : Int))),.int .i64 (IntKind.i64.wrap (x2 + (1 : Int)))] [])) (none))) (none))) (none)) (some (.ret (.int .i64 x1) [])):=by kernel_rfl
theorem Qmj9 (s : Str) (hs : s.length ≤ 7) : ∀ (d i : Nat) (n : Int),i + d = s.length → 0 ≤ n → n < 10 ^ i → Cut Qm2u Qqw4 5 [.str s,.int .i64 n,.int .i64 (i : Int)] [] (.int .i64 (numGo n (s.drop i))) []:=by
 intro d
 induction d with
 | zero =>
  intro i n hi h0 hn
  refine Cut.of Qcvc rfl (Qh4w s n i) ?_
  refine Sat.ifb (fun h=>?_) (fun h=>?_)
  ·simp at h; omega
  ·refine Sat.retI ?_ rfl
   rw [List.drop_of_length_le (by omega)]; rfl
 | succ d ih =>
  intro i n hi h0 hn
  refine Cut.of Qcvc rfl (Qh4w s n i) ?_
  have hlt : i < s.length:=by omega
  have hp : (10 : Int) ^ i ≤ 1000000:=by
   have : i = 0 ∨ i = 1 ∨ i = 2 ∨ i = 3 ∨ i = 4 ∨ i = 5 ∨ i = 6:=by omega
   rcases this with rfl | rfl | rfl | rfl | rfl | rfl | rfl <;> decide
  have hw : IntKind.wrap .i64 ((i : Int) + 1) = ((i + 1 : Nat) : Int):=by rw [Qbrg] <;> omega
  have hd : s.drop i = s.getD i 0 :: s.drop (i + 1):=by rw [List.drop_eq_getElem_cons hlt]; simp [hlt]
  rw [hw,Int.toNat_natCast,hd]
  have hbb : (s.getD i 0).toNat < 256:=UInt8.toNat_lt _
  generalize hbe : s.getD i 0 = b at *
  have w1 : IntKind.wrap .i64 (n * 10) = n * 10:=by rw [Qbrg] <;> omega
  have w2 : IntKind.wrap .i64 (b.toNat : Int) = (b.toNat : Int):=by rw [Qbrg] <;> omega
  have w3 : IntKind.wrap .i64 (n * 10 + (b.toNat : Int)) = n * 10 + (b.toNat : Int):=by rw [Qbrg] <;> omega
  have w4 : IntKind.wrap .i64 (n * 10 + (b.toNat : Int) - 48) = n * 10 + ((b.toNat : Int) - 48):=by rw [Qbrg] <;> omega
  rw [w1,w2,w3,w4]
  have hin : inb (i : Int) s.length = true:=by simp [inb]; omega
  refine Sat.ifb (fun h=>?_) (fun h=>?_)
  ·refine Sat.ifb (fun h=>?_) (fun h=>?_)
   ·refine Sat.ifb (fun h=>?_) (fun h1=>?_)
    ·refine Sat.retI ?_ rfl
     simp at h
     simp [numGo,h]
    ·refine Sat.ifb (fun _=>?_) (fun h=>?_)
     ·refine Sat.ifb (fun h=>?_) (fun h2=>?_)
      ·refine Sat.retI ?_ rfl
       simp at h
       simp [numGo,h]
      ·refine Sat.ifb (fun _=>?_) (fun h=>?_)
       ·simp at h1 h2
        have hnot : ¬ ((b.toNat : Int) < 48 ∨ (b.toNat : Int) > 57):=by omega
        have:=ih (i + 1) (n * 10 + ((b.toNat : Int) - 48)) (by omega) (by omega) (by rw [Int.pow_succ]; omega)
        simp only [numGo,hnot,if_false]
        exact Sat.cut this
       ·rw [hin] at h; cases h
     ·rw [hin] at h; cases h
   ·rw [hin] at h; cases h
  ·simp at h; omega
theorem Q031 (s : Str) : Qewq Tryz.prog CP Qqw4 [.str s] [] (.int .i64 (numF s)) []:=by
 refine Qewq.of Qcvc (by kernel_rfl) (Q84i s) ?_
 have go : 1 ≤ s.length → s.length ≤ 7 → ¬ (1 < s.length ∧ ((s.getD 0 0).toNat : Int) = 48) → Cut Qm2u Qqw4 5 [.str s,.int .i64 0,.int .i64 0] [] (.int .i64 (numF s)) []:=fun h1 h2 h3=>by
  have:=Qmj9 s h2 s.length 0 0 (by omega) (by omega) (by simp)
  rw [List.drop_zero] at this
  rw [show numF s = numGo 0 s by unfold numF; rw [if_pos ⟨h1,h2,h3⟩]]
  exact this
 refine Sat.ifb (fun h=>?_) (fun h=>?_)
 ·refine Sat.retI ?_ rfl
  simp [inR] at h
  unfold numF
  rw [if_neg (by omega)]
 ·simp [inR] at h
  refine Sat.ifb (fun h1=>?_) (fun h1=>?_)
  ·simp at h1
   refine Sat.ifb (fun h2=>?_) (fun h2=>?_)
   ·refine Sat.ifb (fun h3=>?_) (fun h3=>?_)
    ·refine Sat.retI ?_ rfl
     have h3' : ((s.getD 0 0).toNat : Int) = 48:=eq_of_beq h3
     unfold numF
     rw [if_neg (fun hc=>hc.2.2 ⟨by omega,h3'⟩)]
    ·have h3' : ¬ ((s.getD 0 0).toNat : Int) = 48:=beq_eq_false_iff_ne.1 h3
     exact Sat.cut (go (by omega) (by omega) (fun hc=>h3' hc.2))
   ·have h1' : ((s.length : Int) > 1):=h1
    have : inb (0 : Int) s.length = true:=by simp only [inb,Bool.and_eq_true,decide_eq_true_eq]; omega
    rw [this] at h2; cases h2
  ·have h1 : ¬ ((s.length : Int) > 1):=of_decide_eq_false h1
   exact Sat.cut (go (by omega) (by omega) (fun hc=>by have:=hc.1; omega))
theorem Qlxw : EntOK Tryz.prog CP Qqw4 Qmli:=by
 refine ⟨⟨Tryz.f112,by kernel_rfl,by kernel_rfl,by kernel_rfl⟩,fun args H res H' h=>?_⟩
 simp only [Qmli] at h
 split at h
 ·simp only [Option.some.injEq,Prod.mk.injEq] at h
  obtain ⟨hg,rfl,rfl⟩:=h
  exact Q031 _
 ·cases h

end Lx
namespace Lx
open Go Go.Proofs
def Qe7t (prev : Option Str) (n : Str) : Bool:=match prev with
 | none=>true
 | some p=>Q7zj p n
def Qh9e : Option Str → List Kind → Bool
 | _,[]=>true
 | prev,k :: ks=>k.ok && (Qe7t prev k.name && Qh9e (some k.name) ks)
def Q343 (seen : List Point) (p : Point) : Bool:=seen.all fun q=>!(q.x == p.x && q.y == p.y)
def Qaym : List Point → Option Str → List Point → Bool
 | _,_,[]=>true
 | seen,prev,p :: ps=>p.ok && (Qe7t prev p.name && (Q343 seen p && Qaym (seen ++ [p]) (some p.name) ps))
def Qib4 (ks : List Kind) (ps : List Point) : Bool:=decide (ks.length ≤ 6) && (decide (ps.length ≤ 16) && (Qh9e none ks && Qaym [] none ps))
def Qh2z (ks : List Kind) (n : Str) : Int:=idxF (fun k=>k.name == n) ks
def Qigq (ps : List Point) (n : Str) : Int:=idxF (fun p=>p.name == n) ps
def Qyf3 (ps : List Point) : Option Str → List Str → Bool
 | _,[]=>true
 | prev,n :: w=>!decide (Qigq ps n < 0) && (!(prev == some n) && Qyf3 ps (some n) w)
def Qyhl (ps : List Point) (w : List Str) : Bool:=inR w.length 2 8 && Qyf3 ps none w
def Q2es (w : List Str) : Bool:=match w with
 | [a,b]=>decide (0 ≤ numF a) && inR (numF b) (numF a) 10000
 | _=>false
def wOpen : Str:=[111,112,101,110]
def Qupw : Str:=[99,108,111,115,101,100]
def fitsV (ks : List Kind) (ps : List Point) (what : Int) (v : Str) : Bool :=
 if what = 1 then decide (0 ≤ Qh2z ks v) else if what = 2 then Q2es (cutS 32 v) else if what = 3 then inR (numF v) 1 6 else if what = 4 then Qyhl ps (cutS 32 v)
 else if what = 5 then v == wOpen || v == Qupw else false
def Qh2h (ks : List Kind) (ps : List Point) (fl : Str) (what num : Int) (v : Str) : Bool:=Q2rq fl && (inR num 1 1000000 && fitsV ks ps what v)
def Qt03 (ks : List Kind) (ps : List Point) (n : Str) : Option Int → List Fld → Bool
 | _,[]=>true
 | prev,f :: fs=>Qh2h ks ps n f.what f.number f.value && ((match prev with | none=>true | some q=>decide (q < f.what)) && Qt03 ks ps n (some f.what) fs)
def Q7i7 (ks : List Kind) (ps : List Point) (e : Entry) : Bool:=Q2rq e.name && (!decide (e.fields.length = 0) && Qt03 ks ps e.name none e.fields)
def Qgea (ks : List Kind) (ps : List Point) : Option Str → List Entry → Bool
 | _,[]=>true
 | prev,e :: es=>Q7i7 ks ps e && (Qe7t prev e.name && Qgea ks ps (some e.name) es)
def Qn0o (ks : List Kind) (ps : List Point) (es : List Entry) : Bool:=Qib4 ks ps && (decide (es.length ≤ 12) && Qgea ks ps none es)
def Qm9f : Ent Ty El:=⟨[.ro],0,fun a h=>match a,h with
 | [.agg [.sl .kind ks,.sl .point ps]],[]=>some (true,.bool (Qib4 ks ps),[])
 | _,_=>none⟩
def Qqwh : Ent Ty El:=⟨[.ro,.ro],0,fun a h=>match a,h with
 | [.agg [.sl .kind ks,.sl .point ps],.sl .str w],[]=>some (decide (ps.length < 1000000000),.bool (Qyhl ps w),[])
 | _,_=>none⟩
def Qr1j : Ent Ty El:=⟨[.ro],0,fun a h=>match a,h with
 | [.sl .str w],[]=>some (true,.bool (Q2es w),[])
 | _,_=>none⟩
end Lx
namespace Lx
open Go Go.Proofs
noncomputable def Qher : RE Ty El:=⟨Tryz.prog,CP,[(Qyp5,Qc4s),(Qne3,Q41f)],Tryz.f124,0,[],[(4,[(1,.any),(2,.any),(5,.any)])]⟩
theorem Qkic : REOK Qher Qyzi:=⟨CP_ok,(TabOK.cons Qzgd (TabOK.cons Qcao Qye1)),by kernel_rfl,by kernel_rfl⟩
theorem Qkoc (ks : List Kind) (ps : List Point) (w : List Str) : aRun Qher 600 false (body0 Qher.fn) (Q4gm Qher.fn [.agg [.sl .kind ks,.sl .point ps],.sl .str w] []) =
 ifb (!inR (↑w.length : Int) (2 : Int) (8 : Int)) (some (.ret (.bool false) [])) (some (.go (Qu6t Qher.fn 4) [.sl .str w,.ptr 0 0,.int .i64 (0 : Int)] [.box [.sl .kind ks,.sl .point ps]])):=by kernel_rfl
theorem Q022 (x0 : List (El .str)) (x1 : Int) (x2 : List (El .kind)) (x3 : List (El .point)) : aRun Qher 600 true (Qu6t Qher.fn 4) (cutSt Qher.fn (Q1m4 Qher (Qu6t Qher.fn 4)) [.sl .str x0,.ptr 0 0,.int .i64 x1] [.box [.sl .kind x2,.sl .point x3]]) =
 ifb (decide (x1 < (↑x0.length : Int))) (ifb (inb x1 x0.length) (ifb (decide (x3.length < (1000000000 : Nat))) (ifb (decide (idxF (fun p=>p.name == x0.getD x1.toNat (Qher.C.dflt Ty.str)) x3 < (0 : Int))) (some (.ret (.bool false) [])) (ifb (decide (x1 > (0 : Int))) (ifb (inb (IntKind.i64.wrap (x1 - (1 : Int))) x0.length) (ifb (inb x1 x0.length) (ifb (x0.getD (IntKind.i64.wrap (x1 - (1 : Int))).toNat (Qher.C.dflt Ty.str) == x0.getD x1.toNat (Qher.C.dflt Ty.str)) (some (.ret (.bool false) [])) (some (.go (Qu6t Qher.fn 4) [.sl .str x0,.ptr 0 0,.int .i64 (IntKind.i64.wrap (x1 + (1 : Int)))] [.box [.sl .kind x2,.sl .point x3]]))) (none)) (none)) (some (.go (Qu6t Qher.fn 4) [.sl .str x0,.ptr 0 0,.int .i64 (IntKind.i64.wrap (x1 + (1 : Int)))] [.box [.sl .kind x2,.sl .point x3]])))) (none)) (none)) (some (.ret (.bool true) [])):=by kernel_rfl
theorem Qe6n (ks : List Kind) (ps : List Point) (w : List Str) (hp : ps.length < 1000000000) (hs : w.length ≤ 8) : ∀ (d i : Nat),i + d = w.length →
  Cut Qher Qyzi 4 [.sl .str w,.ptr 0 0,.int .i64 (i : Int)] [.box [.sl .kind ks,.sl .point ps]] (.bool (Qyf3 ps (w.take i).getLast? (w.drop i))) []:=by
 intro d
 induction d with
 | zero =>
  intro i hi
  refine Cut.of Qkic rfl (Q022 w i ks ps) ?_
  refine Sat.ifb (fun h=>?_) (fun h=>?_)
  ·simp at h; omega
  ·refine Sat.retB ?_ rfl
   rw [List.drop_of_length_le (by omega)]; rfl
 | succ d ih =>
  intro i hi
  refine Cut.of Qkic rfl (Q022 w i ks ps) ?_
  have hlt : i < w.length:=by omega
  have hw : IntKind.wrap .i64 ((i : Int) + 1) = ((i + 1 : Nat) : Int):=by rw [Qbrg] <;> omega
  have hw1 : IntKind.wrap .i64 ((i : Int) - 1) = (i : Int) - 1:=by rw [Qbrg] <;> omega
  have hd : w.drop i = w[i] :: w.drop (i + 1):=List.drop_eq_getElem_cons hlt
  have hx : w.getD (i : Int).toNat (Qher.C.dflt .str) = w[i]:=by simp [hlt]
  have hin : inb (i : Int) w.length = true:=by simp [inb]; omega
  have hl : (w.take (i + 1)).getLast? = some w[i]:=by rw [List.take_succ_eq_append_getElem hlt,List.getLast?_concat]
  have ih':=ih (i + 1) (by omega)
  rw [hl] at ih'
  rw [hw,hw1,hx,hd]
  refine Sat.ifb (fun _=>?_) (fun h=>?_)
  ·refine Sat.ifb (fun _=>?_) (fun h=>?_)
   ·refine Sat.ifb (fun _=>?_) (fun h=>?_)
    ·refine Sat.ifb (fun h=>?_) (fun h=>?_)
     ·refine Sat.retB ?_ rfl
      have : decide (Qigq ps w[i] < 0) = true:=h
      rw [Qyf3,this]; rfl
     ·have hix : decide (Qigq ps w[i] < 0) = false:=h
      refine Sat.ifb (fun h0=>?_) (fun h0=>?_)
      ·have h0' : ((i : Int) > 0):=of_decide_eq_true h0
       have hi1 : i - 1 < w.length:=by omega
       have hx1 : w.getD ((i : Int) - 1).toNat (Qher.C.dflt .str) = w[i - 1]:=by
        rw [show ((i : Int) - 1).toNat = i - 1 by omega]; simp [hi1]
       have hl1 : (w.take i).getLast? = some w[i - 1]:=by
        have:=List.take_succ_eq_append_getElem hi1
        rw [show i - 1 + 1 = i by omega] at this
        rw [this,List.getLast?_concat]
       rw [hx1]
       refine Sat.ifb (fun _=>?_) (fun h=>?_)
       ·refine Sat.ifb (fun _=>?_) (fun h=>?_)
        ·refine Sat.ifb (fun h=>?_) (fun h=>?_)
         ·refine Sat.retB ?_ rfl
          rw [Qyf3,hix,hl1]
          simp [eq_of_beq h]
         ·rw [Qyf3,hix,hl1,show (some w[i - 1] == some w[i]) = false by rw [Option.some_beq_some]; exact h]
          exact Sat.cut ih'
        ·rw [hin] at h; cases h
       ·have : inb ((i : Int) - 1) w.length = true:=by simp only [inb,Bool.and_eq_true,decide_eq_true_eq]; omega
        rw [this] at h; cases h
      ·have h0' : ¬ ((i : Int) > 0):=of_decide_eq_false h0
       have : i = 0:=by omega
       subst this
       rw [Qyf3,hix]
       exact Sat.cut ih'
    ·simp at h; omega
   ·rw [hin] at h; cases h
  ·simp at h; omega
theorem Qiun (ks : List Kind) (ps : List Point) (w : List Str) (hg : decide (ps.length < 1000000000) = true) : Qewq Tryz.prog CP Qyzi [.agg [.sl .kind ks,.sl .point ps],.sl .str w] [] (.bool (Qyhl ps w)) []:=by
 refine Qewq.of Qkic (by kernel_rfl) (Qkoc ks ps w) ?_
 refine Sat.ifb (fun h=>?_) (fun h=>?_)
 ·refine Sat.retB ?_ rfl
  simp at h
  simp [Qyhl,h]
 ·simp at h
  have h':=h
  simp only [inR,Bool.and_eq_true,decide_eq_true_eq] at h'
  have:=Qe6n ks ps w (of_decide_eq_true hg) (by omega) w.length 0 (by omega)
  rw [show Qyhl ps w = Qyf3 ps (w.take 0).getLast? (w.drop 0) by simp [Qyhl,h]]
  exact Sat.cut this
theorem Qhq3 : EntOK Tryz.prog CP Qyzi Qqwh:=by
 refine ⟨⟨Tryz.f124,by kernel_rfl,by kernel_rfl,by kernel_rfl⟩,fun args H res H' h=>?_⟩
 simp only [Qqwh] at h
 split at h
 ·simp only [Option.some.injEq,Prod.mk.injEq] at h
  obtain ⟨hg,rfl,rfl⟩:=h
  exact Qiun _ _ _ hg
 ·cases h

noncomputable def Q64q : RE Ty El:=⟨Tryz.prog,CP,[(Qqw4,Qmli),(Qyp5,Qc4s)],Tryz.f174,0,[],[]⟩
theorem Qait : REOK Q64q Q8pq:=⟨CP_ok,(TabOK.cons Qlxw (TabOK.cons Qzgd Qye1)),by kernel_rfl,by kernel_rfl⟩
theorem Qy7z (w : List Str) : aRun Q64q 600 false (body0 Q64q.fn) (Q4gm Q64q.fn [.sl .str w] []) =
 ifb ((↑w.length : Int) == (2 : Int)) (ifb (inb (0 : Int) w.length) (ifb (decide (numF (w.getD (Int.toNat (0 : Int)) (Q64q.C.dflt Ty.str)) ≥ (0 : Int))) (ifb (inb (1 : Int) w.length) (ifb (inb (0 : Int) w.length) (some (.ret (.bool (inR (numF (w.getD (Int.toNat (1 : Int)) (Q64q.C.dflt Ty.str))) (numF (w.getD (Int.toNat (0 : Int)) (Q64q.C.dflt Ty.str))) (10000 : Int))) [])) (none)) (none)) (some (.ret (.bool false) []))) (none)) (some (.ret (.bool false) [])):=by kernel_rfl
theorem Qpdy (w : List Str) : Qewq Tryz.prog CP Q8pq [.sl .str w] [] (.bool (Q2es w)) []:=by
 refine Qewq.of Qait (by kernel_rfl) (Qy7z w) ?_
 match w with
 | []=>exact Sat.retB rfl rfl
 | [a]=>exact Sat.retB rfl rfl
 | a :: b :: c :: l =>
  refine Sat.ifb (fun h=>?_) (fun h=>?_)
  ·simp at h; omega
  ·exact Sat.retB rfl rfl
 | [a,b] =>
  refine Sat.ifb (fun h=>?_) (fun h=>?_)
  ·repeat' (first | (refine Sat.ifb (fun h=>?_) (fun h=>?_)))
   all_goals (first | (refine Sat.retB ?_ rfl; simp_all [Q2es]; done) | (refine Sat.retB ?_ rfl; simp_all [Q2es]; omega) | (refine Sat.no ?_; simp_all [inb]; done))
  ·simp at h
theorem Qav8 : EntOK Tryz.prog CP Q8pq Qr1j:=by
 refine ⟨⟨Tryz.f174,by kernel_rfl,by kernel_rfl,by kernel_rfl⟩,fun args H res H' h=>?_⟩
 simp only [Qr1j] at h
 split at h
 ·simp only [Option.some.injEq,Prod.mk.injEq] at h
  obtain ⟨hg,rfl,rfl⟩:=h
  exact Qpdy _
 ·cases h
end Lx
namespace Lx
open Go Go.Proofs
noncomputable def Q08e : RE Ty El:=⟨Tryz.prog,CP,[(Qycj,Qaw0),(Qwjz,Q2zc)],Tryz.f123,0,[],[(4,[(1,.any),(3,.any)]),(9,[(1,.any),(4,.any)]),(14,[(1,.any),(4,.any),(5,.any)])]⟩
theorem Qq0g : REOK Q08e Qxas:=⟨CP_ok,(TabOK.cons Qnkx (TabOK.cons Ql10 Qye1)),by kernel_rfl,by kernel_rfl⟩
theorem Qq36 (ks : List Kind) (ps : List Point) : aRun Q08e 600 false (body0 Q08e.fn) (Q4gm Q08e.fn [.agg [.sl .kind ks,.sl .point ps]] []) =
 ifb (decide ((↑ks.length : Int) > (6 : Int))) (some (.ret (.bool false) [])) (ifb (decide ((↑ps.length : Int) > (16 : Int))) (some (.ret (.bool false) [])) (some (.go (Qu6t Q08e.fn 4) [.ptr 0 0,.int .i64 (0 : Int)] [.box [.sl .kind ks,.sl .point ps]]))):=by kernel_rfl
theorem Qgi7 (x0 : Int) (x1 : List (El .kind)) (x2 : List (El .point)) : aRun Q08e 600 true (Qu6t Q08e.fn 4) (cutSt Q08e.fn (Q1m4 Q08e (Qu6t Q08e.fn 4)) [.ptr 0 0,.int .i64 x0] [.box [.sl .kind x1,.sl .point x2]]) =
 ifb (decide (x0 < (↑x1.length : Int))) (ifb (inb x0 x1.length) (ifb (!Kind.ok (x1.getD x0.toNat (Q08e.C.dflt Ty.kind))) (some (.ret (.bool false) [])) (ifb (decide (x0 > (0 : Int))) (ifb (inb (IntKind.i64.wrap (x0 - (1 : Int))) x1.length) (ifb (inb x0 x1.length) (ifb (!Q7zj (x1.getD (IntKind.i64.wrap (x0 - (1 : Int))).toNat (Q08e.C.dflt Ty.kind)).name (x1.getD x0.toNat (Q08e.C.dflt Ty.kind)).name) (some (.ret (.bool false) [])) (some (.go (Qu6t Q08e.fn 4) [.ptr 0 0,.int .i64 (IntKind.i64.wrap (x0 + (1 : Int)))] [.box [.sl .kind x1,.sl .point x2]]))) (none)) (none)) (some (.go (Qu6t Q08e.fn 4) [.ptr 0 0,.int .i64 (IntKind.i64.wrap (x0 + (1 : Int)))] [.box [.sl .kind x1,.sl .point x2]])))) (none)) (some (.go (Qu6t Q08e.fn 9) [.ptr 0 0,.int .i64 (0 : Int)] [.box [.sl .kind x1,.sl .point x2]])):=by kernel_rfl
theorem Quva (x0 : Int) (x1 : List (El .kind)) (x2 : List (El .point)) : aRun Q08e 600 true (Qu6t Q08e.fn 9) (cutSt Q08e.fn (Q1m4 Q08e (Qu6t Q08e.fn 9)) [.ptr 0 0,.int .i64 x0] [.box [.sl .kind x1,.sl .point x2]]) =
 ifb (decide (x0 < (↑x2.length : Int))) (ifb (inb x0 x2.length) (ifb (!Point.ok (x2.getD x0.toNat (Q08e.C.dflt Ty.point))) (some (.ret (.bool false) [])) (ifb (decide (x0 > (0 : Int))) (ifb (inb (IntKind.i64.wrap (x0 - (1 : Int))) x2.length) (ifb (inb x0 x2.length) (ifb (!Q7zj (x2.getD (IntKind.i64.wrap (x0 - (1 : Int))).toNat (Q08e.C.dflt Ty.point)).name (x2.getD x0.toNat (Q08e.C.dflt Ty.point)).name) (some (.ret (.bool false) [])) (some (.go (Qu6t Q08e.fn 14) [.ptr 0 0,.int .i64 x0,.int .i64 (0 : Int)] [.box [.sl .kind x1,.sl .point x2]]))) (none)) (none)) (some (.go (Qu6t Q08e.fn 14) [.ptr 0 0,.int .i64 x0,.int .i64 (0 : Int)] [.box [.sl .kind x1,.sl .point x2]])))) (none)) (some (.ret (.bool true) [])):=by kernel_rfl
theorem Qrrs (x0 : Int) (x1 : Int) (x2 : List (El .kind)) (x3 : List (El .point)) : aRun Q08e 600 true (Qu6t Q08e.fn 14) (cutSt Q08e.fn (Q1m4 Q08e (Qu6t Q08e.fn 14)) [.ptr 0 0,.int .i64 x0,.int .i64 x1] [.box [.sl .kind x2,.sl .point x3]]) =
 ifb (decide (x1 < x0)) (ifb (inb x1 x3.length) (ifb (inb x0 x3.length) (ifb ((x3.getD x1.toNat (Q08e.C.dflt Ty.point)).x == (x3.getD x0.toNat (Q08e.C.dflt Ty.point)).x) (ifb (inb x1 x3.length) (ifb (inb x0 x3.length) (ifb ((x3.getD x1.toNat (Q08e.C.dflt Ty.point)).y == (x3.getD x0.toNat (Q08e.C.dflt Ty.point)).y) (some (.ret (.bool false) [])) (some (.go (Qu6t Q08e.fn 14) [.ptr 0 0,.int .i64 x0,.int .i64 (IntKind.i64.wrap (x1 + (1 : Int)))] [.box [.sl .kind x2,.sl .point x3]]))) (none)) (none)) (some (.go (Qu6t Q08e.fn 14) [.ptr 0 0,.int .i64 x0,.int .i64 (IntKind.i64.wrap (x1 + (1 : Int)))] [.box [.sl .kind x2,.sl .point x3]]))) (none)) (none)) (some (.go (Qu6t Q08e.fn 9) [.ptr 0 0,.int .i64 (IntKind.i64.wrap (x0 + (1 : Int)))] [.box [.sl .kind x2,.sl .point x3]])):=by kernel_rfl
theorem l77i (ks : List Kind) (ps : List Point) (hp : ps.length ≤ 16) (i : Nat) (hi : i < ps.length) (nx : Bool) (h9 : Cut Q08e Qxas 9 [.ptr 0 0,.int .i64 ((i + 1 : Nat) : Int)] [.box [.sl .kind ks,.sl .point ps]] (.bool nx) []) : ∀ (d k : Nat),k + d = i →
  Cut Q08e Qxas 14 [.ptr 0 0,.int .i64 (i : Int),.int .i64 (k : Int)] [.box [.sl .kind ks,.sl .point ps]] (.bool (Q343 ((ps.take i).drop k) ps[i] && nx)) []:=by
 have hwi : IntKind.wrap .i64 ((i : Int) + 1) = ((i + 1 : Nat) : Int):=by rw [Qbrg] <;> omega
 have hxi : ps.getD (i : Int).toNat (Q08e.C.dflt .point) = ps[i]:=by simp [hi]
 have hini : inb (i : Int) ps.length = true:=by simp only [inb,Bool.and_eq_true,decide_eq_true_eq]; omega
 intro d
 induction d with
 | zero =>
  intro k hk
  refine Cut.of Qq0g rfl (Qrrs i k ks ps) ?_
  rw [hwi]
  refine Sat.ifb (fun h=>?_) (fun h=>?_)
  ·simp at h; omega
  ·have : (ps.take i).drop k = []:=List.drop_of_length_le (by simp; omega)
   rw [this]
   exact Sat.cut h9
 | succ d ih =>
  intro k hk
  refine Cut.of Qq0g rfl (Qrrs i k ks ps) ?_
  have hlt : k < ps.length:=by omega
  have hlt2 : k < (ps.take i).length:=by simp; omega
  have hw : IntKind.wrap .i64 ((k : Int) + 1) = ((k + 1 : Nat) : Int):=by rw [Qbrg] <;> omega
  have hx : ps.getD (k : Int).toNat (Q08e.C.dflt .point) = ps[k]:=by simp [hlt]
  have hink : inb (k : Int) ps.length = true:=by simp only [inb,Bool.and_eq_true,decide_eq_true_eq]; omega
  have hd : (ps.take i).drop k = ps[k] :: (ps.take i).drop (k + 1):=by rw [List.drop_eq_getElem_cons hlt2,List.getElem_take]
  rw [hw,hx,hxi,hd]
  have hcons : ∀ l,Q343 (ps[k] :: l) ps[i] = (!(ps[k].x == ps[i].x && ps[k].y == ps[i].y) && Q343 l ps[i]):=fun l=>rfl
  rw [hcons]
  refine Sat.ifb (fun _=>?_) (fun h=>?_)
  ·refine Sat.ifb (fun _=>?_) (fun h=>?_)
   ·refine Sat.ifb (fun _=>?_) (fun h=>?_)
    ·refine Sat.ifb (fun ha=>?_) (fun ha=>?_)
     ·refine Sat.ifb (fun _=>?_) (fun h=>?_)
      ·refine Sat.ifb (fun _=>?_) (fun h=>?_)
       ·refine Sat.ifb (fun hb=>?_) (fun hb=>?_)
        ·refine Sat.retB ?_ rfl
         rw [ha,hb]; rfl
        ·rw [ha,hb]
         exact Sat.cut (ih (k + 1) (by omega))
       ·rw [hini] at h; cases h
      ·rw [hink] at h; cases h
     ·rw [ha]
      exact Sat.cut (ih (k + 1) (by omega))
    ·rw [hini] at h; cases h
   ·rw [hink] at h; cases h
  ·simp at h; omega
theorem l77p (ks : List Kind) (ps : List Point) (hp : ps.length ≤ 16) : ∀ (d i : Nat),i + d = ps.length →
  Cut Q08e Qxas 9 [.ptr 0 0,.int .i64 (i : Int)] [.box [.sl .kind ks,.sl .point ps]] (.bool (Qaym (ps.take i) ((ps.take i).getLast?.map (·.name)) (ps.drop i))) []:=by
 intro d
 induction d with
 | zero =>
  intro i hi
  refine Cut.of Qq0g rfl (Quva i ks ps) ?_
  refine Sat.ifb (fun h=>?_) (fun h=>?_)
  ·simp at h; omega
  ·refine Sat.retB ?_ rfl
   rw [List.drop_of_length_le (by omega)]; rfl
 | succ d ih =>
  intro i hi
  refine Cut.of Qq0g rfl (Quva i ks ps) ?_
  have hlt : i < ps.length:=by omega
  have hw1 : IntKind.wrap .i64 ((i : Int) - 1) = (i : Int) - 1:=by rw [Qbrg] <;> omega
  have hd : ps.drop i = ps[i] :: ps.drop (i + 1):=List.drop_eq_getElem_cons hlt
  have hx : ps.getD (i : Int).toNat (Q08e.C.dflt .point) = ps[i]:=by simp [hlt]
  have hin : inb (i : Int) ps.length = true:=by simp only [inb,Bool.and_eq_true,decide_eq_true_eq]; omega
  have hl : (ps.take (i + 1)).getLast? = some ps[i]:=by rw [List.take_succ_eq_append_getElem hlt,List.getLast?_concat]
  have ih':=ih (i + 1) (by omega)
  rw [hl,Option.map_some] at ih'
  have inner:=l77i ks ps hp i hlt _ ih' i 0 (by omega)
  rw [List.drop_zero] at inner
  rw [hw1,hx,hd,Qaym,← List.take_succ_eq_append_getElem hlt]
  refine Sat.ifb (fun _=>?_) (fun h=>?_)
  ·refine Sat.ifb (fun _=>?_) (fun h=>?_)
   ·refine Sat.ifb (fun h=>?_) (fun h=>?_)
    ·refine Sat.retB ?_ rfl
     simp at h
     rw [h]; rfl
    ·simp at h
     rw [h,Bool.true_and]
     refine Sat.ifb (fun h0=>?_) (fun h0=>?_)
     ·have h0' : ((i : Int) > 0):=of_decide_eq_true h0
      have hi1 : i - 1 < ps.length:=by omega
      have hx1 : ps.getD ((i : Int) - 1).toNat (Q08e.C.dflt .point) = ps[i - 1]:=by
       rw [show ((i : Int) - 1).toNat = i - 1 by omega]; simp [hi1]
      have hl1 : (ps.take i).getLast? = some ps[i - 1]:=by
       have:=List.take_succ_eq_append_getElem hi1
       rw [show i - 1 + 1 = i by omega] at this
       rw [this,List.getLast?_concat]
      rw [hx1,hl1]
      refine Sat.ifb (fun _=>?_) (fun h=>?_)
      ·refine Sat.ifb (fun _=>?_) (fun h=>?_)
       ·refine Sat.ifb (fun h=>?_) (fun h=>?_)
        ·refine Sat.retB ?_ rfl
         simp at h
         simp only [Option.map_some,Qe7t]
         rw [h]; rfl
        ·simp at h
         simp only [Option.map_some,Qe7t]
         rw [h,Bool.true_and]
         exact Sat.cut inner
       ·rw [hin] at h; cases h
      ·have : inb ((i : Int) - 1) ps.length = true:=by simp only [inb,Bool.and_eq_true,decide_eq_true_eq]; omega
       rw [this] at h; cases h
     ·have h0' : ¬ ((i : Int) > 0):=of_decide_eq_false h0
      have : i = 0:=by omega
      subst this
      exact Sat.cut inner
   ·rw [hin] at h; cases h
  ·simp at h; omega
theorem l77k (ks : List Kind) (ps : List Point) (hk : ks.length ≤ 6) (hp : ps.length ≤ 16) : ∀ (d i : Nat),i + d = ks.length →
  Cut Q08e Qxas 4 [.ptr 0 0,.int .i64 (i : Int)] [.box [.sl .kind ks,.sl .point ps]] (.bool (Qh9e ((ks.take i).getLast?.map (·.name)) (ks.drop i) && Qaym [] none ps)) []:=by
 intro d
 induction d with
 | zero =>
  intro i hi
  refine Cut.of Qq0g rfl (Qgi7 i ks ps) ?_
  refine Sat.ifb (fun h=>?_) (fun h=>?_)
  ·simp at h; omega
  ·rw [List.drop_of_length_le (by omega)]
   have:=l77p ks ps hp ps.length 0 (by omega)
   exact Sat.cut this
 | succ d ih =>
  intro i hi
  refine Cut.of Qq0g rfl (Qgi7 i ks ps) ?_
  have hlt : i < ks.length:=by omega
  have hw : IntKind.wrap .i64 ((i : Int) + 1) = ((i + 1 : Nat) : Int):=by rw [Qbrg] <;> omega
  have hw1 : IntKind.wrap .i64 ((i : Int) - 1) = (i : Int) - 1:=by rw [Qbrg] <;> omega
  have hd : ks.drop i = ks[i] :: ks.drop (i + 1):=List.drop_eq_getElem_cons hlt
  have hx : ks.getD (i : Int).toNat (Q08e.C.dflt .kind) = ks[i]:=by simp [hlt]
  have hin : inb (i : Int) ks.length = true:=by simp only [inb,Bool.and_eq_true,decide_eq_true_eq]; omega
  have hl : (ks.take (i + 1)).getLast? = some ks[i]:=by rw [List.take_succ_eq_append_getElem hlt,List.getLast?_concat]
  have ih':=ih (i + 1) (by omega)
  rw [hl,Option.map_some] at ih'
  rw [hw,hw1,hx,hd,Qh9e]
  refine Sat.ifb (fun _=>?_) (fun h=>?_)
  ·refine Sat.ifb (fun _=>?_) (fun h=>?_)
   ·refine Sat.ifb (fun h=>?_) (fun h=>?_)
    ·refine Sat.retB ?_ rfl
     simp at h
     rw [h]; rfl
    ·simp at h
     rw [h,Bool.true_and]
     refine Sat.ifb (fun h0=>?_) (fun h0=>?_)
     ·have h0' : ((i : Int) > 0):=of_decide_eq_true h0
      have hi1 : i - 1 < ks.length:=by omega
      have hx1 : ks.getD ((i : Int) - 1).toNat (Q08e.C.dflt .kind) = ks[i - 1]:=by
       rw [show ((i : Int) - 1).toNat = i - 1 by omega]; simp [hi1]
      have hl1 : (ks.take i).getLast? = some ks[i - 1]:=by
       have:=List.take_succ_eq_append_getElem hi1
       rw [show i - 1 + 1 = i by omega] at this
       rw [this,List.getLast?_concat]
      rw [hx1,hl1]
      refine Sat.ifb (fun _=>?_) (fun h=>?_)
      ·refine Sat.ifb (fun _=>?_) (fun h=>?_)
       ·refine Sat.ifb (fun h=>?_) (fun h=>?_)
        ·refine Sat.retB ?_ rfl
         simp at h
         simp only [Option.map_some,Qe7t]
         rw [h]; rfl
        ·simp at h
         simp only [Option.map_some,Qe7t]
         rw [h,Bool.true_and]
         exact Sat.cut ih'
       ·rw [hin] at h; cases h
      ·have : inb ((i : Int) - 1) ks.length = true:=by simp only [inb,Bool.and_eq_true,decide_eq_true_eq]; omega
       rw [this] at h; cases h
     ·have h0' : ¬ ((i : Int) > 0):=of_decide_eq_false h0
      have : i = 0:=by omega
      subst this
      exact Sat.cut ih'
   ·rw [hin] at h; cases h
  ·simp at h; omega
theorem Qtmy (ks : List Kind) (ps : List Point) : Qewq Tryz.prog CP Qxas [.agg [.sl .kind ks,.sl .point ps]] [] (.bool (Qib4 ks ps)) []:=by
 refine Qewq.of Qq0g (by kernel_rfl) (Qq36 ks ps) ?_
 refine Sat.ifb (fun h=>?_) (fun h=>?_)
 ·refine Sat.retB ?_ rfl
  simp at h
  have : ¬ ks.length ≤ 6:=by omega
  simp [Qib4,this]
 ·refine Sat.ifb (fun h2=>?_) (fun h2=>?_)
  ·refine Sat.retB ?_ rfl
   simp at h2
   have : ¬ ps.length ≤ 16:=by omega
   simp [Qib4,this]
  ·simp at h h2
   have a : ks.length ≤ 6:=by omega
   have b : ps.length ≤ 16:=by omega
   have:=l77k ks ps a b ks.length 0 (by omega)
   rw [show Qib4 ks ps = (Qh9e ((ks.take 0).getLast?.map (·.name)) (ks.drop 0) && Qaym [] none ps) by simp [Qib4,a,b]]
   exact Sat.cut this
theorem Q8a6 : EntOK Tryz.prog CP Qxas Qm9f:=by
 refine ⟨⟨Tryz.f123,by kernel_rfl,by kernel_rfl,by kernel_rfl⟩,fun args H res H' h=>?_⟩
 simp only [Qm9f] at h
 split at h
 ·simp only [Option.some.injEq,Prod.mk.injEq] at h
  obtain ⟨hg,rfl,rfl⟩:=h
  exact Qtmy _ _
 ·cases h
end Lx
namespace Lx
open Go Go.Proofs
def szV (v : Str) : Bool:=decide (v.length ≤ 1000000000)
def szE (e : Entry) : Bool:=decide (e.fields.length ≤ 1000000000) && e.fields.all (fun f=>szV f.value)
def szB (es : List Entry) : Bool:=decide (es.length ≤ 1000000000) && es.all szE
def Qyds : Ent Ty El:=⟨[.ro,.ro,.ro],0,fun a h=>match a,h with
 | [.agg [.sl .kind ks,.sl .point ps],.int .i64 what,.str v],[]=>some (szV v,.bool (Qib4 ks ps && fitsV ks ps what v),[])
 | _,_=>none⟩
def Quoo : Ent Ty El:=⟨[.ro,.ro],0,fun a h=>match a,h with
 | [.agg [.sl .kind ks,.sl .point ps],.agg [.str fl,.int .i64 what,.int .i64 num,.str v]],[]=>some (szV v,.bool (Q2rq fl && (inR num 1 1000000 && (Qib4 ks ps && fitsV ks ps what v))),[])
 | _,_=>none⟩
end Lx
namespace Lx
open Go Go.Proofs
noncomputable def Qtj4 : RE Ty El:=⟨Tryz.prog,CP,[(Qxas,Qm9f),(Q001,Qi2p),(Q780,Qqer),(Q8pq,Qr1j),(Qqw4,Qmli),(Qyp5,Qc4s),(Qyzi,Qqwh)],Tryz.f96,0,[],[]⟩
theorem Q1dh : REOK Qtj4 Q37p:=⟨CP_ok,(TabOK.cons Q8a6 (TabOK.cons Ql4s (TabOK.cons Qlgy (TabOK.cons Qav8 (TabOK.cons Qlxw (TabOK.cons Qzgd (TabOK.cons Qhq3 Qye1))))))),by kernel_rfl,by kernel_rfl⟩
theorem Q1hn (ks : List Kind) (ps : List Point) (what : Int) (v : Str) : aRun Qtj4 600 false (body0 Qtj4.fn) (Q4gm Qtj4.fn [.agg [.sl .kind ks,.sl .point ps],.int .i64 what,.str v] []) =
 ifb (!Qib4 ks ps) (some (.ret (.bool false) [])) (ifb (decide (List.length v ≤ (1000000000 : Nat))) (ifb (what == (1 : Int)) (ifb (decide (ks.length < (1000000000 : Nat))) (some (.ret (.bool (decide (idxF (fun p=>p.name == v) ks ≥ (0 : Int)))) [])) (none)) (ifb (what == (2 : Int)) (some (.ret (.bool (Q2es (cutS (32 : Int) v))) [])) (ifb (what == (3 : Int)) (some (.ret (.bool (inR (numF v) (1 : Int) (6 : Int))) [])) (ifb (what == (4 : Int)) (ifb (decide (ps.length < (1000000000 : Nat))) (some (.ret (.bool (Qyhl ps (cutS (32 : Int) v))) [])) (none)) (ifb (what == (5 : Int)) (ifb (v == #[(111 : UInt8),(112 : UInt8),(101 : UInt8),(110 : UInt8)].toList) (some (.ret (.bool true) [])) (some (.ret (.bool (v == #[(99 : UInt8),(108 : UInt8),(111 : UInt8),(115 : UInt8),(101 : UInt8),(100 : UInt8)].toList)) []))) (some (.ret (.bool false) []))))))) (none)):=by kernel_rfl
theorem Qc4w (ks : List Kind) (ps : List Point) (what : Int) (v : Str) (hg : szV v = true) : Qewq Tryz.prog CP Q37p [.agg [.sl .kind ks,.sl .point ps],.int .i64 what,.str v] [] (.bool (Qib4 ks ps && fitsV ks ps what v)) []:=by
 refine Qewq.of Q1dh (by kernel_rfl) (Q1hn ks ps what v) ?_
 have hv : decide (v.length ≤ 1000000000) = true:=hg
 refine Sat.ifb (fun h=>?_) (fun h=>?_)
 ·refine Sat.retB ?_ rfl
  simp at h
  rw [h]; rfl
 ·simp at h
  have hlen : ks.length < 1000000000 ∧ ps.length < 1000000000:=by
   simp only [Qib4,Bool.and_eq_true,decide_eq_true_eq] at h; omega
  rw [h,Bool.true_and]
  repeat' (first | (refine Sat.ifb (fun h=>?_) (fun h=>?_)))
  all_goals (first | (refine Sat.no ?_; simp_all; done) | (refine Sat.no ?_; simp_all; omega) | (refine Sat.retB ?_ rfl; simp_all [fitsV,Qh2z,wOpen,Qupw]; done) | (refine Sat.retB ?_ rfl; simp_all [fitsV,Qh2z,wOpen,Qupw]; rfl) | (refine Sat.retB ?_ rfl; simp_all [fitsV,Qh2z,wOpen,Qupw]; congr))
theorem Q52v : EntOK Tryz.prog CP Q37p Qyds:=by
 refine ⟨⟨Tryz.f96,by kernel_rfl,by kernel_rfl,by kernel_rfl⟩,fun args H res H' h=>?_⟩
 simp only [Qyds] at h
 split at h
 ·simp only [Option.some.injEq,Prod.mk.injEq] at h
  obtain ⟨hg,rfl,rfl⟩:=h
  exact Qc4w _ _ _ _ hg
 ·cases h

noncomputable def Qn69 : RE Ty El:=⟨Tryz.prog,CP,[(Qnn1,Q4bc),(Qyp5,Qc4s),(Q37p,Qyds)],Tryz.f24,0,[],[]⟩
theorem Qsk1 : REOK Qn69 Qvuj:=⟨CP_ok,(TabOK.cons Q7n8 (TabOK.cons Qzgd (TabOK.cons Q52v Qye1))),by kernel_rfl,by kernel_rfl⟩
theorem Q328 (ks : List Kind) (ps : List Point) (fl : Str) (what num : Int) (v : Str) : aRun Qn69 600 false (body0 Qn69.fn) (Q4gm Qn69.fn [.agg [.sl .kind ks,.sl .point ps],.agg [.str fl,.int .i64 what,.int .i64 num,.str v]] []) =
 ifb (Q2rq fl) (ifb (inR num (1 : Int) (1000000 : Int)) (ifb (szV v) (some (.ret (.bool (Qib4 ks ps && fitsV ks ps what v)) [])) (none)) (some (.ret (.bool false) []))) (some (.ret (.bool false) [])):=by kernel_rfl
theorem Qif6 (ks : List Kind) (ps : List Point) (fl : Str) (what num : Int) (v : Str) (hg : szV v = true) : Qewq Tryz.prog CP Qvuj [.agg [.sl .kind ks,.sl .point ps],.agg [.str fl,.int .i64 what,.int .i64 num,.str v]] [] (.bool (Q2rq fl && (inR num 1 1000000 && (Qib4 ks ps && fitsV ks ps what v)))) []:=by
 refine Qewq.of Qsk1 (by kernel_rfl) (Q328 ks ps fl what num v) ?_
 repeat' (first | (refine Sat.ifb (fun h=>?_) (fun h=>?_)) | (refine Sat.retB ?_ rfl; simp_all []; done) | (refine Sat.retI ?_ rfl; simp_all []; done))
 all_goals (first | (refine Sat.no ?_; simp_all; done) | (refine Sat.no ?_; simp_all; omega) | (refine Sat.retB ?_ rfl; simp_all []; omega) | (refine Sat.retI ?_ rfl; simp_all []; omega))
theorem Q336 : EntOK Tryz.prog CP Qvuj Quoo:=by
 refine ⟨⟨Tryz.f24,by kernel_rfl,by kernel_rfl,by kernel_rfl⟩,fun args H res H' h=>?_⟩
 simp only [Quoo] at h
 split at h
 ·simp only [Option.some.injEq,Prod.mk.injEq] at h
  obtain ⟨hg,rfl,rfl⟩:=h
  exact Qif6 _ _ _ _ _ _ hg
 ·cases h
end Lx
namespace Lx
open Go Go.Proofs
def Q0id (ks : List Kind) (ps : List Point) (n : Str) : Option Int → List Fld → Bool
 | _,[]=>true
 | prev,f :: fs=>(Q2rq n && (inR f.number 1 1000000 && (Qib4 ks ps && fitsV ks ps f.what f.value))) && ((match prev with | none=>true | some q=>decide (q < f.what)) && Q0id ks ps n (some f.what) fs)
theorem Qr3j {ks : List Kind} {ps : List Point} {n : Str} {prev : Option Int} {f : Fld} {fs : List Fld} : Q0id ks ps n prev (f :: fs) = ((Q2rq n && (inR f.number 1 1000000 && (Qib4 ks ps && fitsV ks ps f.what f.value))) && ((match prev with | none=>true | some q=>decide (q < f.what)) && Q0id ks ps n (some f.what) fs)):=by cases prev <;> rfl
def Qq5k (ks : List Kind) (ps : List Point) (e : Entry) : Bool:=Q2rq e.name && (!decide (e.fields.length = 0) && Q0id ks ps e.name none e.fields)
theorem Qscs {ks : List Kind} {ps : List Point} {n : Str} (h : Qib4 ks ps = true) : ∀ (fs : List Fld) (prev : Option Int),Q0id ks ps n prev fs = Qt03 ks ps n prev fs
 | [],_=>rfl
 | f :: fs,prev=>by cases prev <;> simp only [Q0id,Qt03,Qscs h fs,Qh2h,h,Bool.true_and]
theorem Qo0k {ks : List Kind} {ps : List Point} (h : Qib4 ks ps = true) (e : Entry) : Qq5k ks ps e = Q7i7 ks ps e:=by rw [Qq5k,Q7i7,Qscs h]
def Qmv8 : Ent Ty El:=⟨[.ro,.ro],0,fun a h=>match a,h with
 | [.agg [.sl .kind ks,.sl .point ps],.agg [.str n,.sl .fld fs]],[]=>some (szE ⟨n,fs⟩,.bool (Qq5k ks ps ⟨n,fs⟩),[])
 | _,_=>none⟩
def Q124 : Ent Ty El:=⟨[.ro],0,fun a h=>match a,h with
 | [.agg [.sl .kind ks,.sl .point ps,.sl .entry es]],[]=>some (szB es,.bool (Qn0o ks ps es),[])
 | _,_=>none⟩
end Lx
namespace Lx
open Go Go.Proofs
noncomputable def Qbtj : RE Ty El:=⟨Tryz.prog,CP,[(Qnn1,Q4bc),(Qvuj,Quoo)],Tryz.f141,0,[],[(4,[(2,.any),(3,.any),(5,.any)])]⟩
theorem Q3hh : REOK Qbtj Qyl6:=⟨CP_ok,(TabOK.cons Q7n8 (TabOK.cons Q336 Qye1)),by kernel_rfl,by kernel_rfl⟩
theorem Qfx3 (ks : List Kind) (ps : List Point) (n : Str) (fs : List Fld) : aRun Qbtj 600 false (body0 Qbtj.fn) (Q4gm Qbtj.fn [.agg [.sl .kind ks,.sl .point ps],.agg [.str n,.sl .fld fs]] []) =
 ifb (!Q2rq n) (some (.ret (.bool false) [])) (ifb ((↑fs.length : Int) == (0 : Int)) (some (.ret (.bool false) [])) (some (.go (Qu6t Qbtj.fn 4) [.ptr 0 0,.ptr 1 0,.int .i64 (0 : Int)] [.box [.sl .kind ks,.sl .point ps],.box [.str n,.sl .fld fs]]))):=by kernel_rfl
theorem Ql3m (x0 : Int) (x1 : List (El .kind)) (x2 : List (El .point)) (x3 : Str) (x4 : List (El .fld)) : aRun Qbtj 600 true (Qu6t Qbtj.fn 4) (cutSt Qbtj.fn (Q1m4 Qbtj (Qu6t Qbtj.fn 4)) [.ptr 0 0,.ptr 1 0,.int .i64 x0] [.box [.sl .kind x1,.sl .point x2],.box [.str x3,.sl .fld x4]]) =
 ifb (decide (x0 < (↑x4.length : Int))) (ifb (inb x0 x4.length) (ifb (szV (x4.getD x0.toNat (Qbtj.C.dflt Ty.fld)).value) (ifb (!(Q2rq x3 && (inR (x4.getD x0.toNat (Qbtj.C.dflt Ty.fld)).number (1 : Int) (1000000 : Int) && (Qib4 x1 x2 && fitsV x1 x2 (x4.getD x0.toNat (Qbtj.C.dflt Ty.fld)).what (x4.getD x0.toNat (Qbtj.C.dflt Ty.fld)).value)))) (some (.ret (.bool false) [])) (ifb (decide (x0 > (0 : Int))) (ifb (inb (IntKind.i64.wrap (x0 - (1 : Int))) x4.length) (ifb (decide ((x4.getD (IntKind.i64.wrap (x0 - (1 : Int))).toNat (Qbtj.C.dflt Ty.fld)).what ≥ (x4.getD x0.toNat (Qbtj.C.dflt Ty.fld)).what)) (some (.ret (.bool false) [])) (some (.go (Qu6t Qbtj.fn 4) [.ptr 0 0,.ptr 1 0,.int .i64 (IntKind.i64.wrap (x0 + (1 : Int)))] [.box [.sl .kind x1,.sl .point x2],.box [.str x3,.sl .fld x4]]))) (none)) (some (.go (Qu6t Qbtj.fn 4) [.ptr 0 0,.ptr 1 0,.int .i64 (IntKind.i64.wrap (x0 + (1 : Int)))] [.box [.sl .kind x1,.sl .point x2],.box [.str x3,.sl .fld x4]])))) (none)) (none)) (some (.ret (.bool true) [])):=by kernel_rfl
theorem Q5fs (ks : List Kind) (ps : List Point) (n : Str) (fs : List Fld) (hl : fs.length ≤ 1000000000) (hz : ∀ f ∈ fs,szV f.value = true) : ∀ (d i : Nat),i + d = fs.length → Cut Qbtj Qyl6 4 [.ptr 0 0,.ptr 1 0,.int .i64 (i : Int)] [.box [.sl .kind ks,.sl .point ps],.box [.str n,.sl .fld fs]] (.bool (Q0id ks ps n ((fs.take i).getLast?.map (·.what)) (fs.drop i))) []:=by
 intro d
 induction d with
 | zero =>
  intro i hi
  refine Cut.of Q3hh rfl (Ql3m i ks ps n fs) ?_
  refine Sat.ifb (fun h=>?_) (fun h=>?_)
  ·simp at h; omega
  ·refine Sat.retB ?_ rfl
   rw [List.drop_of_length_le (by omega)]; rfl
 | succ d ih =>
  intro i hi
  refine Cut.of Q3hh rfl (Ql3m i ks ps n fs) ?_
  have hlt : i < fs.length:=by omega
  have hw : IntKind.wrap .i64 ((i : Int) + 1) = ((i + 1 : Nat) : Int):=by rw [Qbrg] <;> omega
  have hw1 : IntKind.wrap .i64 ((i : Int) - 1) = (i : Int) - 1:=by rw [Qbrg] <;> omega
  have hd : fs.drop i = fs[i] :: fs.drop (i + 1):=List.drop_eq_getElem_cons hlt
  have hx : fs.getD (i : Int).toNat (Qbtj.C.dflt .fld) = fs[i]:=by simp [hlt]
  have hin : inb (i : Int) fs.length = true:=by simp only [inb,Bool.and_eq_true,decide_eq_true_eq]; omega
  have hl : (fs.take (i + 1)).getLast? = some fs[i]:=by rw [List.take_succ_eq_append_getElem hlt,List.getLast?_concat]
  have hsz : szV fs[i].value = true:=hz _ (List.getElem_mem hlt)
  have ih':=ih (i + 1) (by omega)
  rw [hl,Option.map_some] at ih'
  rw [hw,hw1,hx,hd,Qr3j]
  refine Sat.ifb (fun _=>?_) (fun h=>?_)
  ·refine Sat.ifb (fun _=>?_) (fun h=>?_)
   ·refine Sat.ifb (fun _=>?_) (fun h=>?_)
    ·refine Sat.ifb (fun h=>?_) (fun h=>?_)
     ·refine Sat.retB ?_ rfl
      rw [Bool.not_eq_true'] at h
      skip
      rw [h]; rfl
     ·rw [Bool.not_eq_false'] at h
      skip
      rw [h,Bool.true_and]
      refine Sat.ifb (fun h0=>?_) (fun h0=>?_)
      ·have h0' : ((i : Int) > 0):=of_decide_eq_true h0
       have hi1 : i - 1 < fs.length:=by omega
       have hx1 : fs.getD ((i : Int) - 1).toNat (Qbtj.C.dflt .fld) = fs[i - 1]:=by
        rw [show ((i : Int) - 1).toNat = i - 1 by omega]; simp [hi1]
       have hl1 : (fs.take i).getLast? = some fs[i - 1]:=by
        have:=List.take_succ_eq_append_getElem hi1
        rw [show i - 1 + 1 = i by omega] at this
        rw [this,List.getLast?_concat]
       rw [hx1,hl1]
       refine Sat.ifb (fun _=>?_) (fun h=>?_)
       ·refine Sat.ifb (fun h=>?_) (fun h=>?_)
        ·refine Sat.retB ?_ rfl
         have h' : fs[i - 1].what ≥ fs[i].what:=of_decide_eq_true h
         have : decide (fs[i - 1].what < fs[i].what) = false:=by simp; omega
         simp only [Option.map_some]
         rw [this]; rfl
        ·have h' : ¬ fs[i - 1].what ≥ fs[i].what:=of_decide_eq_false h
         have : decide (fs[i - 1].what < fs[i].what) = true:=by simp; omega
         simp only [Option.map_some]
         rw [this,Bool.true_and]
         exact Sat.cut ih'
       ·have : inb ((i : Int) - 1) fs.length = true:=by simp only [inb,Bool.and_eq_true,decide_eq_true_eq]; omega
        rw [this] at h; cases h
      ·have h0' : ¬ ((i : Int) > 0):=of_decide_eq_false h0
       have : i = 0:=by omega
       subst this
       exact Sat.cut ih'
    ·rw [hsz] at h; cases h
   ·rw [hin] at h; cases h
  ·simp at h; omega
theorem Q0o3 (ks : List Kind) (ps : List Point) (n : Str) (fs : List Fld) (hg : szE ⟨n,fs⟩ = true) : Qewq Tryz.prog CP Qyl6 [.agg [.sl .kind ks,.sl .point ps],.agg [.str n,.sl .fld fs]] [] (.bool (Qq5k ks ps ⟨n,fs⟩)) []:=by
 refine Qewq.of Q3hh (by kernel_rfl) (Qfx3 ks ps n fs) ?_
 have hg':=hg
 simp only [szE,Bool.and_eq_true,decide_eq_true_eq,List.all_eq_true] at hg'
 refine Sat.ifb (fun h=>?_) (fun h=>?_)
 ·refine Sat.retB ?_ rfl
  rw [Bool.not_eq_true'] at h
  simp only [Qq5k]
  rw [h]; rfl
 ·rw [Bool.not_eq_false'] at h
  refine Sat.ifb (fun h2=>?_) (fun h2=>?_)
  ·refine Sat.retB ?_ rfl
   have : fs.length = 0:=by have:=eq_of_beq h2; omega
   simp [Qq5k,this]
  ·have : ¬ fs.length = 0:=fun e=>by rw [e] at h2; simp at h2
   have key:=Q5fs ks ps n fs hg'.1 hg'.2 fs.length 0 (by omega)
   rw [show Qq5k ks ps ⟨n,fs⟩ = Q0id ks ps n ((fs.take 0).getLast?.map (·.what)) (fs.drop 0) by simp only [Qq5k]; rw [h]; simp [this]]
   exact Sat.cut key
theorem Qs56 : EntOK Tryz.prog CP Qyl6 Qmv8:=by
 refine ⟨⟨Tryz.f141,by kernel_rfl,by kernel_rfl,by kernel_rfl⟩,fun args H res H' h=>?_⟩
 simp only [Qmv8] at h
 split at h
 ·simp only [Option.some.injEq,Prod.mk.injEq] at h
  obtain ⟨hg,rfl,rfl⟩:=h
  exact Q0o3 _ _ _ _ hg
 ·cases h

noncomputable def Qhcw : RE Ty El:=⟨Tryz.prog,CP,[(Qxas,Qm9f),(Qyl6,Qmv8)],Tryz.f49,0,[],[(4,[(1,.any),(3,.any)])]⟩
theorem Qjas : REOK Qhcw Qdfk:=⟨CP_ok,(TabOK.cons Q8a6 (TabOK.cons Qs56 Qye1)),by kernel_rfl,by kernel_rfl⟩
theorem Qjlf (ks : List Kind) (ps : List Point) (es : List Entry) : aRun Qhcw 600 false (body0 Qhcw.fn) (Q4gm Qhcw.fn [.agg [.sl .kind ks,.sl .point ps,.sl .entry es]] []) =
 ifb (!Qib4 ks ps) (some (.ret (.bool false) [])) (ifb (decide ((↑es.length : Int) > (12 : Int))) (some (.ret (.bool false) [])) (some (.go (Qu6t Qhcw.fn 4) [.ptr 0 0,.int .i64 (0 : Int)] [.box [.sl .kind ks,.sl .point ps,.sl .entry es]]))):=by kernel_rfl
theorem Q5t3 (x0 : Int) (x1 : List (El .kind)) (x2 : List (El .point)) (x3 : List (El .entry)) : aRun Qhcw 600 true (Qu6t Qhcw.fn 4) (cutSt Qhcw.fn (Q1m4 Qhcw (Qu6t Qhcw.fn 4)) [.ptr 0 0,.int .i64 x0] [.box [.sl .kind x1,.sl .point x2,.sl .entry x3]]) =
 ifb (decide (x0 < (↑x3.length : Int))) (ifb (inb x0 x3.length) (ifb (szE (x3.getD x0.toNat (Qhcw.C.dflt Ty.entry))) (ifb (!Qq5k x1 x2 (x3.getD x0.toNat (Qhcw.C.dflt Ty.entry))) (some (.ret (.bool false) [])) (ifb (decide (x0 > (0 : Int))) (ifb (inb (IntKind.i64.wrap (x0 - (1 : Int))) x3.length) (ifb (inb x0 x3.length) (ifb (!Q7zj (x3.getD (IntKind.i64.wrap (x0 - (1 : Int))).toNat (Qhcw.C.dflt Ty.entry)).name (x3.getD x0.toNat (Qhcw.C.dflt Ty.entry)).name) (some (.ret (.bool false) [])) (some (.go (Qu6t Qhcw.fn 4) [.ptr 0 0,.int .i64 (IntKind.i64.wrap (x0 + (1 : Int)))] [.box [.sl .kind x1,.sl .point x2,.sl .entry x3]]))) (none)) (none)) (some (.go (Qu6t Qhcw.fn 4) [.ptr 0 0,.int .i64 (IntKind.i64.wrap (x0 + (1 : Int)))] [.box [.sl .kind x1,.sl .point x2,.sl .entry x3]])))) (none)) (none)) (some (.ret (.bool true) [])):=by kernel_rfl
theorem Qs9h (ks : List Kind) (ps : List Point) (es : List Entry) (hbase : Qib4 ks ps = true) (hl : es.length ≤ 1000000000) (hz : ∀ e ∈ es,szE e = true) : ∀ (d i : Nat),i + d = es.length → Cut Qhcw Qdfk 4 [.ptr 0 0,.int .i64 (i : Int)] [.box [.sl .kind ks,.sl .point ps,.sl .entry es]] (.bool (Qgea ks ps ((es.take i).getLast?.map (·.name)) (es.drop i))) []:=by
 intro d
 induction d with
 | zero =>
  intro i hi
  refine Cut.of Qjas rfl (Q5t3 i ks ps es) ?_
  refine Sat.ifb (fun h=>?_) (fun h=>?_)
  ·simp at h; omega
  ·refine Sat.retB ?_ rfl
   rw [List.drop_of_length_le (by omega)]; rfl
 | succ d ih =>
  intro i hi
  refine Cut.of Qjas rfl (Q5t3 i ks ps es) ?_
  have hlt : i < es.length:=by omega
  have hw : IntKind.wrap .i64 ((i : Int) + 1) = ((i + 1 : Nat) : Int):=by rw [Qbrg] <;> omega
  have hw1 : IntKind.wrap .i64 ((i : Int) - 1) = (i : Int) - 1:=by rw [Qbrg] <;> omega
  have hd : es.drop i = es[i] :: es.drop (i + 1):=List.drop_eq_getElem_cons hlt
  have hx : es.getD (i : Int).toNat (Qhcw.C.dflt .entry) = es[i]:=by simp [hlt]
  have hin : inb (i : Int) es.length = true:=by simp only [inb,Bool.and_eq_true,decide_eq_true_eq]; omega
  have hl : (es.take (i + 1)).getLast? = some es[i]:=by rw [List.take_succ_eq_append_getElem hlt,List.getLast?_concat]
  have hsz : szE es[i] = true:=hz _ (List.getElem_mem hlt)
  have ih':=ih (i + 1) (by omega)
  rw [hl,Option.map_some] at ih'
  rw [hw,hw1,hx,hd,Qgea]
  refine Sat.ifb (fun _=>?_) (fun h=>?_)
  ·refine Sat.ifb (fun _=>?_) (fun h=>?_)
   ·refine Sat.ifb (fun _=>?_) (fun h=>?_)
    ·refine Sat.ifb (fun h=>?_) (fun h=>?_)
     ·refine Sat.retB ?_ rfl
      rw [Bool.not_eq_true'] at h
      rw [Qo0k hbase] at h
      rw [h]; rfl
     ·rw [Bool.not_eq_false'] at h
      rw [Qo0k hbase] at h
      rw [h,Bool.true_and]
      refine Sat.ifb (fun h0=>?_) (fun h0=>?_)
      ·have h0' : ((i : Int) > 0):=of_decide_eq_true h0
       have hi1 : i - 1 < es.length:=by omega
       have hx1 : es.getD ((i : Int) - 1).toNat (Qhcw.C.dflt .entry) = es[i - 1]:=by
        rw [show ((i : Int) - 1).toNat = i - 1 by omega]; simp [hi1]
       have hl1 : (es.take i).getLast? = some es[i - 1]:=by
        have:=List.take_succ_eq_append_getElem hi1
        rw [show i - 1 + 1 = i by omega] at this
        rw [this,List.getLast?_concat]
       rw [hx1,hl1]
       refine Sat.ifb (fun _=>?_) (fun h=>?_)
       ·refine Sat.ifb (fun _=>?_) (fun h=>?_)
        ·refine Sat.ifb (fun h=>?_) (fun h=>?_)
         ·refine Sat.retB ?_ rfl
          rw [Bool.not_eq_true'] at h
          simp only [Option.map_some,Qe7t]
          rw [h]; rfl
         ·rw [Bool.not_eq_false'] at h
          simp only [Option.map_some,Qe7t]
          rw [h,Bool.true_and]
          exact Sat.cut ih'
        ·rw [hin] at h; cases h
       ·have : inb ((i : Int) - 1) es.length = true:=by simp only [inb,Bool.and_eq_true,decide_eq_true_eq]; omega
        rw [this] at h; cases h
      ·have h0' : ¬ ((i : Int) > 0):=of_decide_eq_false h0
       have : i = 0:=by omega
       subst this
       exact Sat.cut ih'
    ·rw [hsz] at h; cases h
   ·rw [hin] at h; cases h
  ·simp at h; omega
theorem Q754 (ks : List Kind) (ps : List Point) (es : List Entry) (hg : szB es = true) : Qewq Tryz.prog CP Qdfk [.agg [.sl .kind ks,.sl .point ps,.sl .entry es]] [] (.bool (Qn0o ks ps es)) []:=by
 refine Qewq.of Qjas (by kernel_rfl) (Qjlf ks ps es) ?_
 have hg':=hg
 simp only [szB,Bool.and_eq_true,decide_eq_true_eq,List.all_eq_true] at hg'
 refine Sat.ifb (fun h=>?_) (fun h=>?_)
 ·refine Sat.retB ?_ rfl
  rw [Bool.not_eq_true'] at h
  simp only [Qn0o]
  rw [h]; rfl
 ·rw [Bool.not_eq_false'] at h
  refine Sat.ifb (fun h2=>?_) (fun h2=>?_)
  ·refine Sat.retB ?_ rfl
   have : ¬ es.length ≤ 12:=by have:=of_decide_eq_true h2; omega
   simp [Qn0o,this]
  ·have h12 : es.length ≤ 12:=by have:=of_decide_eq_false h2; omega
   have key:=Qs9h ks ps es h hg'.1 hg'.2 es.length 0 (by omega)
   rw [show Qn0o ks ps es = Qgea ks ps ((es.take 0).getLast?.map (·.name)) (es.drop 0) by simp [Qn0o,h,h12]]
   exact Sat.cut key
theorem Q8cq : EntOK Tryz.prog CP Qdfk Q124:=by
 refine ⟨⟨Tryz.f49,by kernel_rfl,by kernel_rfl,by kernel_rfl⟩,fun args H res H' h=>?_⟩
 simp only [Q124] at h
 split at h
 ·simp only [Option.some.injEq,Prod.mk.injEq] at h
  obtain ⟨hg,rfl,rfl⟩:=h
  exact Q754 _ _ _ hg
 ·cases h
end Lx
namespace Lx
open Go Go.Proofs
def Qqtq : Ent Ty El:=⟨[.ro],1,fun a h=>match a,h with
 | [.sl .u8 c],[]=>some (true,.ptr 0 0,[.box [.sl .u8 (c.take 2000),.int .i64 0]])
 | _,_=>none⟩
def wr (n : Int) : Int:=IntKind.wrap .i64 n
def pickX (bs : List Int) (k : Int) : Int :=
 wr (wr (wr (wr (wr (bs.getD (k.tmod bs.length).toNat (dfltP .u8)) * 131) + wr (wr (bs.getD ((wr (wr (k * 7) + 3)).tmod bs.length).toNat (dfltP .u8)) * 1117)) + wr (k * 29)) + wr (wr (k.tdiv bs.length) * 53))
def pickV (bs : List Int) (p n : Int) : Int :=
 if n < 1 then 0 else if (bs.length : Int) = 0 then 0 else if p < bs.length then (wr (bs.getD p.toNat (dfltP .u8))).tmod n
 else (wr ((BitVec.ofInt 64 (pickX bs p) ^^^ BitVec.ofInt 64 (wr ((pickX bs p).tdiv 64))).toNat : Int)).tmod n
def posOk (p : Int) : Bool:=decide (0 ≤ p) && decide (p < 1000000)
def Q7v2 : Ent Ty El:=⟨[.io,.ro],0,fun a h=>match a,h with
 | [.ptr 0 0,.int .i64 n],[.box [.sl .u8 bs,.int .i64 p]]=>some (posOk p,.int .i64 (pickV bs p n),[.box [.sl .u8 bs,.int .i64 (p + 1)]])
 | _,_=>none⟩
end Lx
namespace Lx
open Go Go.Proofs
noncomputable def Qfzu : RE Ty El:=⟨Tryz.prog,CP,[],Tryz.f80,0,[],[]⟩
theorem Qs75 : REOK Qfzu Qajm:=⟨CP_ok,Qye1,by kernel_rfl,by kernel_rfl⟩
theorem Qnk2 (c : List Int) : aRun Qfzu 600 false (body0 Qfzu.fn) (Q4gm Qfzu.fn [.sl .u8 c] []) =
 ifb (decide ((↑c.length : Int) > (2000 : Int))) (ifb (decide ((0 : Int) ≤ (0 : Int)) && (decide ((0 : Int) ≤ (2000 : Int)) && decide ((2000 : Int) ≤ (↑c.length : Int)))) (some (.ret (.ptr 0 0) [.box [.sl .u8 (List.take (Int.toNat (2000 : Int) - Int.toNat (0 : Int)) (List.drop (Int.toNat (0 : Int)) c)),.int .i64 (0 : Int)]])) (none)) (some (.ret (.ptr 0 0) [.box [.sl .u8 c,.int .i64 (0 : Int)]])):=by kernel_rfl
theorem Q6ha (c : List Int) : Qewq Tryz.prog CP Qajm [.sl .u8 c] [] (.ptr 0 0) [.box [.sl .u8 (c.take 2000),.int .i64 0]]:=by
 refine Qewq.of Qs75 (by kernel_rfl) (Qnk2 c) ?_
 refine Sat.ifb (fun h=>?_) (fun h=>?_)
 ·have h':=of_decide_eq_true h
  refine Sat.ifb (fun _=>?_) (fun h=>?_)
  ·exact Sat.ret rfl rfl
  ·refine Sat.no ?_
   simp at h; omega
 ·have h':=of_decide_eq_false h
  refine Sat.ret rfl ?_
  rw [List.take_of_length_le (by omega)]
theorem Q3w2 : EntOK Tryz.prog CP Qajm Qqtq:=by
 refine ⟨⟨Tryz.f80,by kernel_rfl,by kernel_rfl,by kernel_rfl⟩,fun args H res H' h=>?_⟩
 simp only [Qqtq] at h
 split at h
 ·simp only [Option.some.injEq,Prod.mk.injEq] at h
  obtain ⟨hg,rfl,rfl⟩:=h
  exact Q6ha _
 ·cases h

noncomputable def Qzbr : RE Ty El:=⟨Tryz.prog,CP,[],Tryz.f83,1,[],[]⟩
theorem Ql9i : REOK Qzbr Qpxs:=⟨CP_ok,Qye1,by kernel_rfl,by kernel_rfl⟩
theorem Qvrr (bs : List Int) (p n : Int) : aRun Qzbr 600 false (body0 Qzbr.fn) (Q4gm Qzbr.fn [.ptr 0 0,.int .i64 n] [.box [.sl .u8 bs,.int .i64 p]]) =
 ifb (decide (n < (1 : Int))) (some (.ret (.int .i64 (0 : Int)) [.box [.sl .u8 bs,.int .i64 (IntKind.i64.wrap (p + (1 : Int)))]])) (ifb ((↑bs.length : Int) == (0 : Int)) (some (.ret (.int .i64 (0 : Int)) [.box [.sl .u8 bs,.int .i64 (IntKind.i64.wrap (p + (1 : Int)))]])) (ifb (decide (IntKind.i64.wrap (IntKind.i64.wrap (p + (1 : Int)) - (1 : Int)) < (↑bs.length : Int))) (ifb (inb (IntKind.i64.wrap (IntKind.i64.wrap (p + (1 : Int)) - (1 : Int))) bs.length) (ifb (!n == (0 : Int)) (some (.ret (.int .i64 ((IntKind.i64.wrap (bs.getD (IntKind.i64.wrap (IntKind.i64.wrap (p + (1 : Int)) - (1 : Int))).toNat (Qzbr.C.dflt Ty.u8))).tmod n)) [.box [.sl .u8 bs,.int .i64 (IntKind.i64.wrap (p + (1 : Int)))]])) (none)) (none)) (ifb (!(↑bs.length : Int) == (0 : Int)) (ifb (inb ((IntKind.i64.wrap (IntKind.i64.wrap (p + (1 : Int)) - (1 : Int))).tmod (↑bs.length : Int)) bs.length) (ifb (!(↑bs.length : Int) == (0 : Int)) (ifb (inb ((IntKind.i64.wrap (IntKind.i64.wrap (IntKind.i64.wrap (IntKind.i64.wrap (p + (1 : Int)) - (1 : Int)) * (7 : Int)) + (3 : Int))).tmod (↑bs.length : Int)) bs.length) (ifb (!(↑bs.length : Int) == (0 : Int)) (ifb (!n == (0 : Int)) (some (.ret (.int .i64 ((IntKind.i64.wrap (↑(BitVec.ofInt IntKind.i64.bits (IntKind.i64.wrap (IntKind.i64.wrap (IntKind.i64.wrap (IntKind.i64.wrap (IntKind.i64.wrap (bs.getD ((IntKind.i64.wrap (IntKind.i64.wrap (p + (1 : Int)) - (1 : Int))).tmod (↑bs.length : Int)).toNat (Qzbr.C.dflt Ty.u8)) * (131 : Int)) + IntKind.i64.wrap (IntKind.i64.wrap (bs.getD ((IntKind.i64.wrap (IntKind.i64.wrap (IntKind.i64.wrap (IntKind.i64.wrap (p + (1 : Int)) - (1 : Int)) * (7 : Int)) + (3 : Int))).tmod (↑bs.length : Int)).toNat (Qzbr.C.dflt Ty.u8)) * (1117 : Int))) + IntKind.i64.wrap (IntKind.i64.wrap (IntKind.i64.wrap (p + (1 : Int)) - (1 : Int)) * (29 : Int))) + IntKind.i64.wrap (IntKind.i64.wrap ((IntKind.i64.wrap (IntKind.i64.wrap (p + (1 : Int)) - (1 : Int))).tdiv (↑bs.length : Int)) * (53 : Int)))) ^^^ BitVec.ofInt IntKind.i64.bits (IntKind.i64.wrap ((IntKind.i64.wrap (IntKind.i64.wrap (IntKind.i64.wrap (IntKind.i64.wrap (IntKind.i64.wrap (bs.getD ((IntKind.i64.wrap (IntKind.i64.wrap (p + (1 : Int)) - (1 : Int))).tmod (↑bs.length : Int)).toNat (Qzbr.C.dflt Ty.u8)) * (131 : Int)) + IntKind.i64.wrap (IntKind.i64.wrap (bs.getD ((IntKind.i64.wrap (IntKind.i64.wrap (IntKind.i64.wrap (IntKind.i64.wrap (p + (1 : Int)) - (1 : Int)) * (7 : Int)) + (3 : Int))).tmod (↑bs.length : Int)).toNat (Qzbr.C.dflt Ty.u8)) * (1117 : Int))) + IntKind.i64.wrap (IntKind.i64.wrap (IntKind.i64.wrap (p + (1 : Int)) - (1 : Int)) * (29 : Int))) + IntKind.i64.wrap (IntKind.i64.wrap ((IntKind.i64.wrap (IntKind.i64.wrap (p + (1 : Int)) - (1 : Int))).tdiv (↑bs.length : Int)) * (53 : Int)))).tdiv (64 : Int)))).toNat : Int)).tmod n)) [.box [.sl .u8 bs,.int .i64 (IntKind.i64.wrap (p + (1 : Int)))]])) (none)) (none)) (none)) (none)) (none)) (none)))):=by kernel_rfl
theorem Qgs1 (bs : List Int) (p n : Int) (hg : posOk p = true) : Qewq Tryz.prog CP Qpxs [.ptr 0 0,.int .i64 n] [.box [.sl .u8 bs,.int .i64 p]] (.int .i64 (pickV bs p n)) [.box [.sl .u8 bs,.int .i64 (p + 1)]]:=by
 refine Qewq.of Ql9i (by kernel_rfl) (Qvrr bs p n) ?_
 simp only [posOk,Bool.and_eq_true,decide_eq_true_eq] at hg
 have k1 : IntKind.wrap .i64 (p + 1) = p + 1:=by rw [Qbrg] <;> omega
 have k2 : IntKind.wrap .i64 (p + 1 - 1) = p:=by rw [Qbrg] <;> omega
 have k3 : IntKind.wrap .i64 (p * 7) = p * 7:=by rw [Qbrg] <;> omega
 have k4 : IntKind.wrap .i64 (p * 7 + 3) = p * 7 + 3:=by rw [Qbrg] <;> omega
 rw [k1,k2]
 have inm : ∀ q : Int,0 ≤ q → ¬ (bs.length : Int) = 0 → inb (q.tmod (bs.length : Int)) bs.length = true:=fun q hq hb=>by
  have h1:=Int.tmod_nonneg (bs.length : Int) hq
  have h2:=Int.tmod_lt_of_pos q (show (0 : Int) < (bs.length : Int) by omega)
  simp only [inb,Bool.and_eq_true,decide_eq_true_eq]; exact ⟨h1,h2⟩
 refine Sat.ifb (fun h=>?_) (fun h=>?_)
 ·refine Sat.retI ?_ rfl
  unfold pickV; rw [if_pos (of_decide_eq_true h)]
 ·have hn:=of_decide_eq_false h
  have hn0 : (!n == (0 : Int)) = true:=by simp; omega
  refine Sat.ifb (fun h=>?_) (fun h=>?_)
  ·refine Sat.retI ?_ rfl
   unfold pickV; rw [if_neg hn,if_pos (eq_of_beq h)]
  ·have hb : ¬ (bs.length : Int) = 0:=beq_eq_false_iff_ne.1 h
   have hb0 : (!(bs.length : Int) == (0 : Int)) = true:=by rw [h]; rfl
   refine Sat.ifb (fun h=>?_) (fun h=>?_)
   ·have hlt:=of_decide_eq_true h
    refine Sat.ifb (fun _=>?_) (fun h=>?_)
    ·refine Sat.ifb (fun _=>?_) (fun h=>?_)
     ·refine Sat.retI ?_ rfl
      unfold pickV; rw [if_neg hn,if_neg hb,if_pos hlt]; rfl
     ·rw [hn0] at h; cases h
    ·have : inb p bs.length = true:=by simp only [inb,Bool.and_eq_true,decide_eq_true_eq]; omega
     rw [this] at h; cases h
   ·have hlt:=of_decide_eq_false h
    refine Sat.ifb (fun _=>?_) (fun h=>?_)
    ·refine Sat.ifb (fun _=>?_) (fun h=>?_)
     ·refine Sat.ifb (fun _=>?_) (fun h=>?_)
      ·refine Sat.ifb (fun _=>?_) (fun h=>?_)
       ·refine Sat.ifb (fun _=>?_) (fun h=>?_)
        ·refine Sat.ifb (fun _=>?_) (fun h=>?_)
         ·refine Sat.retI ?_ rfl
          unfold pickV; rw [if_neg hn,if_neg hb,if_neg hlt]; rfl
         ·rw [hn0] at h; cases h
        ·rw [hb0] at h; cases h
       ·rw [k3,k4,inm _ (by omega) hb] at h; cases h
      ·rw [hb0] at h; cases h
     ·rw [inm p hg.1 hb] at h; cases h
    ·rw [hb0] at h; cases h
theorem Q0e7 : EntOK Tryz.prog CP Qpxs Q7v2:=by
 refine ⟨⟨Tryz.f83,by kernel_rfl,by kernel_rfl,by kernel_rfl⟩,fun args H res H' h=>?_⟩
 simp only [Q7v2] at h
 split at h
 ·simp only [Option.some.injEq,Prod.mk.injEq] at h
  obtain ⟨hg,rfl,rfl⟩:=h
  exact Qgs1 _ _ _ hg
 ·cases h
end Lx
namespace Lx
open Go Go.Proofs
def Qf9o (bs : List Int) : Bool:=bs.all fun b=>decide (0 ≤ b) && decide (b ≤ 255)
theorem Qv23 {bs : List Int} (h : Qf9o bs = true) (i : Nat) : 0 ≤ bs.getD i (dfltP .u8) ∧ bs.getD i (dfltP .u8) ≤ 255:=by
 rw [List.getD_eq_getElem?_getD]
 cases hi : bs[i]? with
 | none=>exact ⟨by decide,by decide⟩
 | some b =>
  have:=List.all_eq_true.1 h b (List.mem_of_getElem? hi)
  simpa using this
theorem Q63h {bs : List Int} {k : Int} (h : Qf9o bs = true) (hk : 0 ≤ k) (hk2 : k < 1000000) : 0 ≤ pickX bs k ∧ pickX bs k < 1000000000:=by
 unfold pickX
 obtain ⟨a1,a2⟩:=Qv23 h (k.tmod bs.length).toNat
 obtain ⟨b1,b2⟩:=Qv23 h ((wr (wr (k * 7) + 3)).tmod bs.length).toNat
 have q0 : 0 ≤ k.tdiv bs.length:=Int.tdiv_nonneg hk (Int.natCast_nonneg _)
 have q1 : k.tdiv bs.length ≤ k:=Int.tdiv_le_self _ hk
 generalize bs.getD (k.tmod bs.length).toNat (dfltP .u8) = b at *
 generalize bs.getD ((wr (wr (k * 7) + 3)).tmod bs.length).toNat (dfltP .u8) = c at *
 generalize k.tdiv bs.length = q at *
 change Int at b
 change Int at c
 have e1 : wr b = b:=Qbrg (by omega) (by omega)
 have e2 : wr c = c:=Qbrg (by omega) (by omega)
 have e3 : wr q = q:=Qbrg (by omega) (by omega)
 rw [e1,e2,e3]
 have e4 : wr (b * 131) = b * 131:=Qbrg (by omega) (by omega)
 have e5 : wr (c * 1117) = c * 1117:=Qbrg (by omega) (by omega)
 have e6 : wr (k * 29) = k * 29:=Qbrg (by omega) (by omega)
 have e7 : wr (q * 53) = q * 53:=Qbrg (by omega) (by omega)
 rw [e4,e5,e6,e7]
 have e8 : wr (b * 131 + c * 1117) = b * 131 + c * 1117:=Qbrg (by omega) (by omega)
 rw [e8]
 have e9 : wr (b * 131 + c * 1117 + k * 29) = b * 131 + c * 1117 + k * 29:=Qbrg (by omega) (by omega)
 rw [e9]
 have e10 : wr (b * 131 + c * 1117 + k * 29 + q * 53) = b * 131 + c * 1117 + k * 29 + q * 53:=Qbrg (by omega) (by omega)
 rw [e10]
 omega
theorem Qul4 {x y : Int} (hx : 0 ≤ x) (hx2 : x < 4611686018427387904) (hy : 0 ≤ y) (hy2 : y < 4611686018427387904) : (BitVec.ofInt 64 x ^^^ BitVec.ofInt 64 y).toNat < 4611686018427387904:=by
 rw [BitVec.toNat_xor,BitVec.toNat_ofInt,BitVec.toNat_ofInt]
 have h1 : (x % ((2 : Nat) ^ 64 : Nat)).toNat < 2 ^ 62:=by
  rw [Int.emod_eq_of_lt hx (by omega)]; omega
 have h2 : (y % ((2 : Nat) ^ 64 : Nat)).toNat < 2 ^ 62:=by
  rw [Int.emod_eq_of_lt hy (by omega)]; omega
 exact Nat.xor_lt_two_pow h1 h2
theorem Q5va {bs : List Int} {p n : Int} (h : Qf9o bs = true) (hp : posOk p = true) (hn : 1 ≤ n) : 0 ≤ pickV bs p n ∧ pickV bs p n < n:=by
 simp only [posOk,Bool.and_eq_true,decide_eq_true_eq] at hp
 have tm : ∀ a : Int,0 ≤ a → 0 ≤ a.tmod n ∧ a.tmod n < n:=fun a ha=>⟨Int.tmod_nonneg n ha,Int.tmod_lt_of_pos a (by omega)⟩
 unfold pickV
 rw [if_neg (by omega)]
 split
 ·omega
 ·split
  ·obtain ⟨a1,a2⟩:=Qv23 h p.toNat
   have : wr (bs.getD p.toNat (dfltP .u8)) = bs.getD p.toNat (dfltP .u8):=Qbrg (Int.le_trans (by decide) a1) (Int.lt_of_le_of_lt a2 (by decide))
   rw [this]
   exact tm _ a1
  ·obtain ⟨x1,x2⟩:=Q63h h hp.1 hp.2
   generalize pickX bs p = x at *
   have y1 : 0 ≤ x.tdiv 64:=Int.tdiv_nonneg x1 (by omega)
   have y2 : x.tdiv 64 ≤ x:=Int.tdiv_le_self _ x1
   have ey : wr (x.tdiv 64) = x.tdiv 64:=Qbrg (by omega) (by omega)
   rw [ey]
   have:=Qul4 x1 (by omega) y1 (by omega)
   generalize (BitVec.ofInt 64 x ^^^ BitVec.ofInt 64 (x.tdiv 64)).toNat = z at *
   have ez : wr (z : Int) = (z : Int):=Qbrg (by omega) (by omega)
   rw [ez]
   exact tm _ (by omega)
end Lx
namespace Lx
open Go Go.Proofs
theorem Qiv8 {n : Int} (h : (Lit.int .u8 n).wf = true) : 0 ≤ n ∧ n ≤ 255:=by
 simp only [Lit.wf,Bool.and_eq_true,decide_eq_true_eq] at h
 have h1 : IntKind.u8.min = 0:=by decide
 have h2 : IntKind.u8.max = 255:=by decide
 omega
theorem Qbdm : Rd Tryz.prog CP 5 1 (fun L=>∃ n,L = [.int .u8 n] ∧ (Lit.int .u8 n).wf = true):=Rd.int Tryz.underlying5
theorem Qfwp : Ar Tryz.prog CP 22 (fun x=>∃ c : List Int,x = .sl .u8 c ∧ Qf9o c = true):=by
 refine Ar.slice (T:=.u8) Tryz.underlying22 (Rd.mono (Rd.slice CP_ok (T:=.u8) (Q:=fun n : Int=>0 ≤ n ∧ n ≤ 255) Tryz.underlying22 (by kernel_rfl) Qbdm (fun L h=>by obtain ⟨n,rfl,hw⟩:=h; exact ⟨n,rfl,Qiv8 hw⟩)) ?_)
 rintro L ⟨xs,rfl,_,h⟩
 exact ⟨xs,rfl,List.all_eq_true.2 fun b hb=>by simp only [Bool.and_eq_true,decide_eq_true_eq]; exact h b hb⟩
end Lx
namespace Lx
open Go Go.Proofs
def rdOk (bs : List Int) (p : Int) : Bool:=Qf9o bs && posOk p
def ofV (bs : List Int) (p : Int) (l : List Str) : Str:=l.getD (pickV bs p l.length).toNat []
def Q2vb : Ent Ty El:=⟨[.io,.ro],0,fun a h=>match a,h with
 | [.ptr 0 0,.sl .str l],[.box [.sl .u8 bs,.int .i64 p]]=>some (rdOk bs p && decide (0 < l.length),.str (ofV bs p l),[.box [.sl .u8 bs,.int .i64 (p + 1)]])
 | _,_=>none⟩
end Lx
namespace Lx
open Go Go.Proofs
noncomputable def Q0gh : RE Ty El:=⟨Tryz.prog,CP,[(Qpxs,Q7v2)],Tryz.f113,1,[],[]⟩
theorem Qk62 : REOK Q0gh Qchm:=⟨CP_ok,(TabOK.cons Q0e7 Qye1),by kernel_rfl,by kernel_rfl⟩
theorem Qru5 (bs : List Int) (p : Int) (l : List Str) : aRun Q0gh 600 false (body0 Q0gh.fn) (Q4gm Q0gh.fn [.ptr 0 0,.sl .str l] [.box [.sl .u8 bs,.int .i64 p]]) =
 ifb (posOk p) (ifb (inb (pickV bs p (↑l.length : Int)) l.length) (some (.ret (.str (l.getD (pickV bs p (↑l.length : Int)).toNat (Q0gh.C.dflt Ty.str))) [.box [.sl .u8 bs,.int .i64 (p + (1 : Int))]])) (none)) (none):=by kernel_rfl
theorem Qun7 (bs : List Int) (p : Int) (l : List Str) (hg : (rdOk bs p && decide (0 < l.length)) = true) : Qewq Tryz.prog CP Qchm [.ptr 0 0,.sl .str l] [.box [.sl .u8 bs,.int .i64 p]] (.str (ofV bs p l)) [.box [.sl .u8 bs,.int .i64 (p + 1)]]:=by
 refine Qewq.of Qk62 (by kernel_rfl) (Qru5 bs p l) ?_
 simp only [rdOk,Bool.and_eq_true,decide_eq_true_eq] at hg
 obtain ⟨⟨hb,hp⟩,hl⟩:=hg
 refine Sat.ifb (fun _=>?_) (fun h=>?_)
 ·refine Sat.ifb (fun _=>?_) (fun h=>?_)
  ·exact Sat.ret rfl rfl
  ·obtain ⟨h1,h2⟩:=Q5va (n:=(l.length : Int)) hb hp (by omega)
   have : inb (pickV bs p (l.length : Int)) l.length = true:=by simp only [inb,Bool.and_eq_true,decide_eq_true_eq]; exact ⟨h1,h2⟩
   rw [this] at h; cases h
 ·rw [hp] at h; cases h
theorem Qyvd : EntOK Tryz.prog CP Qchm Q2vb:=by
 refine ⟨⟨Tryz.f113,by kernel_rfl,by kernel_rfl,by kernel_rfl⟩,fun args H res H' h=>?_⟩
 simp only [Q2vb] at h
 split at h
 ·simp only [Option.some.injEq,Prod.mk.injEq] at h
  obtain ⟨hg,rfl,rfl⟩:=h
  exact Qun7 _ _ _ hg
 ·cases h
end Lx
namespace Lx
open Go Go.Proofs
end Lx
namespace Lx
open Go Go.Proofs
end Lx
namespace Lx
open Go Go.Proofs
def partF (d k n : Int) : Int:=(2 * k * d + n) / (2 * n)
theorem Qvfe {x y : Int} (hy : 0 < y) : x / y = if x < 0 ∧ x.tdiv y * y ≠ x then x.tdiv y - 1 else x.tdiv y:=by
 have h2:=Int.mul_ediv_add_emod x y
 have h6:=Int.tdiv_eq_ediv (a:=x) (b:=y)
 have hs : y.sign = 1:=Int.sign_eq_one_of_pos hy
 by_cases hx0 : 0 ≤ x
 ·simp only [hx0,true_or,if_true] at h6
  rw [if_neg (by omega)]; omega
 ·by_cases hd : y ∣ x
  ·simp only [hd,or_true,if_true] at h6
   have : x.tdiv y * y = x:=Int.tdiv_mul_cancel hd
   rw [if_neg (by simp [this])]; omega
  ·simp only [hd,hx0,or_self,if_false,hs] at h6
   have : x.tdiv y * y ≠ x:=fun e=>hd ⟨x.tdiv y,by rw [Int.mul_comm]; exact e.symm⟩
   rw [if_pos ⟨by omega,this⟩]; omega
end Lx
namespace Lx
open Go
section
variable {Ty : Type} {El : Ty → Type} {C : Cod Ty El} {P : Program}

theorem Qewq.quiet {g : FuncId} {args : List (AV Ty El)} {res : AV Ty El} (hC : CodOK P C) (hc : ∀ (w : World) (N : Nm) (vs : Array Value),vs.size = args.length → (∀ (j : Nat) v x,vs[j]? = some v → args[j]? = some x → RepA C N w v x) →
  Calls P g vs w fun en w'=>∃ v,en = .returned v ∧ Fr w w' (fun _=>False) ∧ ∀ N' : Nm,(∀ b,N.ro b → N'.ro b) → (∀ b,w.heap.size ≤ b → b < w'.heap.size → N'.ro b) → RepA C N' w' v res) : Qewq P C g args [] res []:=by
 intro w N vs hH hsz hrep
 refine (hc w N vs hsz hrep).mono ?_
 rintro en w' ⟨v,rfl,hF,hr⟩
 have hno : ∀ k b,¬ N.F k b:=fun k b hb=>by
  have:=hH.obj k
  exact this b hb
 have hnG : ∀ r p v u,¬ N.G r p v u:=fun r p v u hg=>hH.reg r p v u hg
 refine ⟨v, { N with ro:=fun b=>N.ro b ∨ (w.heap.size ≤ b ∧ b < w'.heap.size) },rfl,⟨fun k=>?_,fun r p v u hg=>(hnG r p v u hg).elim,fun r=>trivial,fun r p v u hg=>(hnG r p v u hg).elim,fun r r' b h=>(hno r b h).elim,fun r b h=>(hno r b h).elim,fun b hb=>?_⟩,hr _ (fun b hb=>.inl hb) (fun b h1 h2=>.inr ⟨h1,h2⟩),fun k hk=>(by simp at hk),fun b hb=>.inl hb,fun b hb=>hb.imp id (fun h=>.inl h.1),⟨hF.os,hF.tape,hF.output,hF.size,fun b hb _=>hF.block b hb (fun h=>h)⟩,fun k b hb=>(hno k b hb).elim⟩
 ·exact fun b hb=>hno k b hb
 ·rcases hb with hb | hb
  ·exact Nat.lt_of_lt_of_le (hH.roLt b hb) hF.size
  ·exact hb.2

theorem Fr.trans' {w0 w1 w2 : World} (h : Fr w0 w1 (fun _=>False)) (h' : Fr w1 w2 (fun _=>False)) : Fr w0 w2 (fun _=>False) :=
 ⟨h'.os.trans h.os,h'.tape.trans h.tape,h'.output.trans h.output,Nat.le_trans h.size h'.size,fun b hb _=>(h'.block b (Nat.lt_of_lt_of_le hb h.size) (fun h=>h)).trans (h.block b hb (fun h=>h))⟩
theorem Fr.alloc (w : World) (o : Obj) : Fr w (w.alloc o) (fun _=>False):=⟨rfl,rfl,rfl,by rw [Q541]; omega,fun b hb _=>Qn4u w o hb⟩

theorem Qfrf {N : Nm} {w : World} {vs : Array Value} {args : List (AV Ty El)} (h : ∀ (j : Nat) v x,vs[j]? = some v → args[j]? = some x → RepA C N w v x) (hsz : vs.size = args.length) {j : Nat} {l : List UInt8} (hj : args[j]? = some (.str l)) : ∃ s : ByteArray,vs[j]? = some (.string s) ∧ s.data.toList = l:=by
 have hlt : j < vs.size:=by rw [hsz]; exact (List.getElem?_eq_some_iff.1 hj).1
 have hv : vs[j]? = some vs[j]:=Array.getElem?_eq_getElem hlt
 obtain ⟨s,e,hs⟩:=(h j _ _ hv hj).inv_str
 exact ⟨s,by rw [hv,e],hs⟩
theorem Qf6o {N : Nm} {w : World} {vs : Array Value} {args : List (AV Ty El)} (h : ∀ (j : Nat) v x,vs[j]? = some v → args[j]? = some x → RepA C N w v x) (hsz : vs.size = args.length) {j : Nat} {k : IntKind} {n : Int} (hj : args[j]? = some (.int k n)) : vs[j]? = some (.int k n):=by
 have hlt : j < vs.size:=by rw [hsz]; exact (List.getElem?_eq_some_iff.1 hj).1
 have hv : vs[j]? = some vs[j]:=Array.getElem?_eq_getElem hlt
 rw [hv,(h j _ _ hv hj).inv_int]
theorem arr1 {vs : Array Value} {a : Value} (hsz : vs.size = 1) (h0 : vs[0]? = some a) : vs = #[a]:=by
 apply Array.ext_getElem?
 intro i
 match i with
 | 0=>exact h0
 | i + 1=>rw [Array.getElem?_eq_none (by omega),Array.getElem?_eq_none (by simp)]
theorem arr2 {vs : Array Value} {a b : Value} (hsz : vs.size = 2) (h0 : vs[0]? = some a) (h1 : vs[1]? = some b) : vs = #[a,b]:=by
 apply Array.ext_getElem?
 intro i
 match i with
 | 0=>exact h0
 | 1=>exact h1
 | i + 2=>rw [Array.getElem?_eq_none (by omega),Array.getElem?_eq_none (by simp)]
theorem arr4 {vs : Array Value} {a b c d : Value} (hsz : vs.size = 4) (h0 : vs[0]? = some a) (h1 : vs[1]? = some b) (h2 : vs[2]? = some c) (h3 : vs[3]? = some d) : vs = #[a,b,c,d]:=by
 apply Array.ext_getElem?
 intro i
 match i with
 | 0=>exact h0
 | 1=>exact h1
 | 2=>exact h2
 | 3=>exact h3
 | i + 4=>rw [Array.getElem?_eq_none (by omega),Array.getElem?_eq_none (by simp)]
theorem Qa5q {s t : ByteArray} (h : s.data.toList = t.data.toList) : s = t:=by
 obtain ⟨⟨l⟩⟩:=s
 obtain ⟨⟨m⟩⟩:=t
 simp at h
 subst h; rfl

theorem RepA.newStrs (hC : CodOK P C) {T : Ty} {f : El T → List UInt8} {g : List UInt8 → El T} (hT : ∀ x,C.row T x = [.str (f x)]) (hfg : ∀ l,f (g l) = l) {N : Nm} {w : World} {t : TypeId} {ss : List ByteArray} {n cap : Nat} {arr : Array Value} (hn : n = ss.length) (hcap : n ≤ cap) (hro : N.ro w.heap.size)
  (harr : ∀ (i : Nat) s,ss[i]? = some s → arr[i]? = some (.string s)) : RepA C N (w.alloc (.cells arr t)) (.slice (some ⟨w.heap.size,0,none⟩) n cap) (.sl T (ss.map fun s=>g s.data.toList)):=by
 have hsz : C.sz T = 1:=by unfold Cod.sz; rw [hT]; rfl
 refine .sl T _ w.heap.size 0 n cap (fun i j=>arr.getD i undef) (by simpa using hn) hcap hro (fun i j hi hj=>?_) (fun i j c hi hc=>?_)
 ·rw [hsz] at hj ⊢
  obtain rfl : j = 0:=by omega
  have hs:=harr i _ (List.getElem?_eq_getElem (hn ▸ hi))
  have hlt:=(Array.getElem?_eq_some_iff.1 hs).1
  unfold World.cell?
  rw [Qdnr]
  simp only [Nat.mul_one,Nat.add_zero,Nat.zero_add]
  rw [Array.getElem?_eq_getElem hlt]
  simp [Array.getD,hlt]
 ·rw [hT] at hc
  have hj0 : j = 0:=by
   have:=(List.getElem?_eq_some_iff.1 hc).1
   simp at this; omega
  subst hj0
  simp only [List.getElem?_cons_zero,Option.some.injEq] at hc
  subst hc
  have hi' : i < ss.length:=hn ▸ hi
  have hs:=harr i _ (List.getElem?_eq_getElem hi')
  have hlt:=(Array.getElem?_eq_some_iff.1 hs).1
  have e : arr.getD i undef = .string ss[i]:=by
   simp [Array.getD,hlt,(Array.getElem?_eq_some_iff.1 hs).2]
  show RepA C N _ (arr.getD i undef) _
  rw [e]
  refine .str _ _ ?_
  simp [List.getD,hi',hfg]
end
end Lx
namespace Go.Proofs
open Go.Shelf
def Tryz.lays143_ren : Go.Shelf.Ren:=⟨fun | 143=>182 | 219=>235 | 217=>279 | 225=>280 | 224=>281 | 267=>282 | 266=>325 | 314=>326 | n=>n,fun | 9=>9 | 3=>3 | 4=>4 | 5=>5 | 46=>261 | 146=>340 | 51=>296 | n=>n,fun | 1=>1 | n=>n⟩
theorem Tryz.lays143 : Go.Proofs.Lays.n143 Tryz.prog Tryz.lays143_ren:={
 mixed:=by kernel_rfl
 f143:=Tryz.func182.trans (congrArg some (by kernel_rfl))
 f217:=Tryz.func279.trans (congrArg some (by kernel_rfl))
 f219:=Tryz.func235.trans (congrArg some (by kernel_rfl))
 f224:=Tryz.func281.trans (congrArg some (by kernel_rfl))
 f225:=Tryz.func280.trans (congrArg some (by kernel_rfl))
 f266:=Tryz.func325.trans (congrArg some (by kernel_rfl))
 f267:=Tryz.func282.trans (congrArg some (by kernel_rfl))
 f314:=Tryz.func326.trans (congrArg some (by kernel_rfl))
 t3:=Tryz.underlying3
 a3:=Tryz.isAgg3
 z3:=Tryz.sizeOf3
 v3:=Tryz.zeroValue3
 t4:=Tryz.underlying4
 a4:=Tryz.isAgg4
 z4:=Tryz.sizeOf4
 v4:=Tryz.zeroValue4
 t5:=Tryz.underlying5
 a5:=Tryz.isAgg5
 z5:=Tryz.sizeOf5
 v5:=Tryz.zeroValue5
 t9:=Tryz.underlying9
 a9:=Tryz.isAgg9
 z9:=Tryz.sizeOf9
 v9:=Tryz.zeroValue9
 t46:=Tryz.underlying261
 a46:=Tryz.isAgg261
 z46:=Tryz.sizeOf261
 v46:=Tryz.zeroValue261
 t51:=Tryz.underlying296
 a51:=Tryz.isAgg296
 z51:=Tryz.sizeOf296
 v51:=Tryz.zeroValue296
 t146:=Tryz.underlying340
 a146:=Tryz.isAgg340
 z146:=Tryz.sizeOf340
 v146:=Tryz.zeroValue340
 g1:=by kernel_rfl }
def Tryz.lays138_ren : Go.Shelf.Ren:=⟨fun | 138=>238 | 195=>287 | 218=>289 | 143=>182 | 219=>235 | 217=>279 | 225=>280 | 224=>281 | 267=>282 | 266=>325 | 314=>326 | n=>n,fun | 9=>9 | 3=>3 | 4=>4 | 5=>5 | 0=>0 | 46=>261 | 146=>340 | 51=>296 | n=>n,fun | 1=>1 | n=>n⟩
theorem Tryz.lays138 : Go.Proofs.Lays.n138 Tryz.prog Tryz.lays138_ren:={
 mixed:=by kernel_rfl
 f138:=Tryz.func238.trans (congrArg some (by kernel_rfl))
 f143:=Tryz.func182.trans (congrArg some (by kernel_rfl))
 f195:=Tryz.func287.trans (congrArg some (by kernel_rfl))
 f217:=Tryz.func279.trans (congrArg some (by kernel_rfl))
 f218:=Tryz.func289.trans (congrArg some (by kernel_rfl))
 f219:=Tryz.func235.trans (congrArg some (by kernel_rfl))
 f224:=Tryz.func281.trans (congrArg some (by kernel_rfl))
 f225:=Tryz.func280.trans (congrArg some (by kernel_rfl))
 f266:=Tryz.func325.trans (congrArg some (by kernel_rfl))
 f267:=Tryz.func282.trans (congrArg some (by kernel_rfl))
 f314:=Tryz.func326.trans (congrArg some (by kernel_rfl))
 t0:=Tryz.underlying0
 a0:=Tryz.isAgg0
 z0:=Tryz.sizeOf0
 v0:=Tryz.zeroValue0
 t3:=Tryz.underlying3
 a3:=Tryz.isAgg3
 z3:=Tryz.sizeOf3
 v3:=Tryz.zeroValue3
 t4:=Tryz.underlying4
 a4:=Tryz.isAgg4
 z4:=Tryz.sizeOf4
 v4:=Tryz.zeroValue4
 t5:=Tryz.underlying5
 a5:=Tryz.isAgg5
 z5:=Tryz.sizeOf5
 v5:=Tryz.zeroValue5
 t9:=Tryz.underlying9
 a9:=Tryz.isAgg9
 z9:=Tryz.sizeOf9
 v9:=Tryz.zeroValue9
 t46:=Tryz.underlying261
 a46:=Tryz.isAgg261
 z46:=Tryz.sizeOf261
 v46:=Tryz.zeroValue261
 t51:=Tryz.underlying296
 a51:=Tryz.isAgg296
 z51:=Tryz.sizeOf296
 v51:=Tryz.zeroValue296
 t146:=Tryz.underlying340
 a146:=Tryz.isAgg340
 z146:=Tryz.sizeOf340
 v146:=Tryz.zeroValue340
 g1:=by kernel_rfl }
def Tryz.lays221_ren : Go.Shelf.Ren:=⟨fun | 221=>184 | 268=>237 | 138=>238 | 143=>182 | 195=>287 | 197=>288 | 218=>289 | 219=>235 | 260=>331 | 217=>279 | 225=>280 | 224=>281 | 267=>282 | 266=>325 | 314=>326 | n=>n,fun | 9=>9 | 3=>3 | 31=>41 | 4=>4 | 0=>0 | 105=>309 | 21=>21 | 5=>5 | 46=>261 | 119=>360 | 139=>363 | 138=>362 | 146=>340 | 51=>296 | n=>n,fun | 1=>1 | 3=>5 | 4=>6 | n=>n⟩
theorem Tryz.lays221 : Go.Proofs.Lays.n221 Tryz.prog Tryz.lays221_ren:={
 mixed:=by kernel_rfl
 f138:=Tryz.func238.trans (congrArg some (by kernel_rfl))
 f143:=Tryz.func182.trans (congrArg some (by kernel_rfl))
 f195:=Tryz.func287.trans (congrArg some (by kernel_rfl))
 f197:=Tryz.func288.trans (congrArg some (by kernel_rfl))
 f217:=Tryz.func279.trans (congrArg some (by kernel_rfl))
 f218:=Tryz.func289.trans (congrArg some (by kernel_rfl))
 f219:=Tryz.func235.trans (congrArg some (by kernel_rfl))
 f221:=Tryz.func184.trans (congrArg some (by kernel_rfl))
 f224:=Tryz.func281.trans (congrArg some (by kernel_rfl))
 f225:=Tryz.func280.trans (congrArg some (by kernel_rfl))
 f260:=Tryz.func331.trans (congrArg some (by kernel_rfl))
 f266:=Tryz.func325.trans (congrArg some (by kernel_rfl))
 f267:=Tryz.func282.trans (congrArg some (by kernel_rfl))
 f268:=Tryz.func237.trans (congrArg some (by kernel_rfl))
 f314:=Tryz.func326.trans (congrArg some (by kernel_rfl))
 t0:=Tryz.underlying0
 a0:=Tryz.isAgg0
 z0:=Tryz.sizeOf0
 v0:=Tryz.zeroValue0
 t3:=Tryz.underlying3
 a3:=Tryz.isAgg3
 z3:=Tryz.sizeOf3
 v3:=Tryz.zeroValue3
 t4:=Tryz.underlying4
 a4:=Tryz.isAgg4
 z4:=Tryz.sizeOf4
 v4:=Tryz.zeroValue4
 t5:=Tryz.underlying5
 a5:=Tryz.isAgg5
 z5:=Tryz.sizeOf5
 v5:=Tryz.zeroValue5
 t9:=Tryz.underlying9
 a9:=Tryz.isAgg9
 z9:=Tryz.sizeOf9
 v9:=Tryz.zeroValue9
 t21:=Tryz.underlying21
 a21:=Tryz.isAgg21
 z21:=Tryz.sizeOf21
 v21:=Tryz.zeroValue21
 t31:=Tryz.underlying41
 a31:=Tryz.isAgg41
 z31:=Tryz.sizeOf41
 v31:=Tryz.zeroValue41
 t46:=Tryz.underlying261
 a46:=Tryz.isAgg261
 z46:=Tryz.sizeOf261
 v46:=Tryz.zeroValue261
 t51:=Tryz.underlying296
 a51:=Tryz.isAgg296
 z51:=Tryz.sizeOf296
 v51:=Tryz.zeroValue296
 t105:=Tryz.underlying309
 a105:=Tryz.isAgg309
 z105:=Tryz.sizeOf309
 v105:=Tryz.zeroValue309
 t119:=Tryz.underlying360
 a119:=Tryz.isAgg360
 z119:=Tryz.sizeOf360
 t138:=Tryz.underlying362
 a138:=Tryz.isAgg362
 z138:=Tryz.sizeOf362
 v138:=Tryz.zeroValue362
 t139:=Tryz.underlying363
 a139:=Tryz.isAgg363
 z139:=Tryz.sizeOf363
 v139:=Tryz.zeroValue363
 t146:=Tryz.underlying340
 a146:=Tryz.isAgg340
 z146:=Tryz.sizeOf340
 v146:=Tryz.zeroValue340
 g1:=by kernel_rfl
 g3:=by kernel_rfl
 g4:=by kernel_rfl }
def Tryz.lays160_ren : Go.Shelf.Ren:=⟨fun | 160=>185 | 232=>240 | 231=>239 | 227=>241 | 234=>243 | 233=>242 | 236=>245 | 235=>244 | 228=>290 | 271=>292 | 151=>291 | 197=>288 | 120=>333 | 152=>332 | 260=>331 | 137=>346 | 119=>347 | 224=>281 | 225=>280 | 217=>279 | 266=>325 | n=>n,fun | 9=>9 | 4=>4 | 3=>3 | 5=>5 | 117=>268 | 116=>267 | 0=>0 | 124=>271 | 21=>21 | 105=>309 | 46=>261 | 119=>360 | 139=>363 | 138=>362 | n=>n,fun | 3=>5 | 4=>6 | n=>n⟩
theorem Tryz.lays160 : Go.Proofs.Lays.n160 Tryz.prog Tryz.lays160_ren:={
 mixed:=by kernel_rfl
 f119:=Tryz.func347.trans (congrArg some (by kernel_rfl))
 f120:=Tryz.func333.trans (congrArg some (by kernel_rfl))
 f137:=Tryz.func346.trans (congrArg some (by kernel_rfl))
 f151:=Tryz.func291.trans (congrArg some (by kernel_rfl))
 f152:=Tryz.func332.trans (congrArg some (by kernel_rfl))
 f160:=Tryz.func185.trans (congrArg some (by kernel_rfl))
 f197:=Tryz.func288.trans (congrArg some (by kernel_rfl))
 f217:=Tryz.func279.trans (congrArg some (by kernel_rfl))
 f224:=Tryz.func281.trans (congrArg some (by kernel_rfl))
 f225:=Tryz.func280.trans (congrArg some (by kernel_rfl))
 f227:=Tryz.func241.trans (congrArg some (by kernel_rfl))
 f228:=Tryz.func290.trans (congrArg some (by kernel_rfl))
 f231:=Tryz.func239.trans (congrArg some (by kernel_rfl))
 f232:=Tryz.func240.trans (congrArg some (by kernel_rfl))
 f233:=Tryz.func242.trans (congrArg some (by kernel_rfl))
 f234:=Tryz.func243.trans (congrArg some (by kernel_rfl))
 f235:=Tryz.func244.trans (congrArg some (by kernel_rfl))
 f236:=Tryz.func245.trans (congrArg some (by kernel_rfl))
 f260:=Tryz.func331.trans (congrArg some (by kernel_rfl))
 f266:=Tryz.func325.trans (congrArg some (by kernel_rfl))
 f271:=Tryz.func292.trans (congrArg some (by kernel_rfl))
 t0:=Tryz.underlying0
 a0:=Tryz.isAgg0
 z0:=Tryz.sizeOf0
 v0:=Tryz.zeroValue0
 t3:=Tryz.underlying3
 a3:=Tryz.isAgg3
 z3:=Tryz.sizeOf3
 v3:=Tryz.zeroValue3
 t4:=Tryz.underlying4
 a4:=Tryz.isAgg4
 z4:=Tryz.sizeOf4
 v4:=Tryz.zeroValue4
 t5:=Tryz.underlying5
 a5:=Tryz.isAgg5
 z5:=Tryz.sizeOf5
 v5:=Tryz.zeroValue5
 t9:=Tryz.underlying9
 a9:=Tryz.isAgg9
 z9:=Tryz.sizeOf9
 v9:=Tryz.zeroValue9
 t21:=Tryz.underlying21
 a21:=Tryz.isAgg21
 z21:=Tryz.sizeOf21
 v21:=Tryz.zeroValue21
 t46:=Tryz.underlying261
 a46:=Tryz.isAgg261
 z46:=Tryz.sizeOf261
 v46:=Tryz.zeroValue261
 t105:=Tryz.underlying309
 a105:=Tryz.isAgg309
 z105:=Tryz.sizeOf309
 v105:=Tryz.zeroValue309
 t116:=Tryz.underlying267
 a116:=Tryz.isAgg267
 z116:=Tryz.sizeOf267
 t117:=Tryz.underlying268
 a117:=Tryz.isAgg268
 z117:=Tryz.sizeOf268
 v117:=Tryz.zeroValue268
 t119:=Tryz.underlying360
 a119:=Tryz.isAgg360
 z119:=Tryz.sizeOf360
 t124:=Tryz.underlying271
 a124:=Tryz.isAgg271
 z124:=Tryz.sizeOf271
 v124:=Tryz.zeroValue271
 t138:=Tryz.underlying362
 a138:=Tryz.isAgg362
 z138:=Tryz.sizeOf362
 v138:=Tryz.zeroValue362
 t139:=Tryz.underlying363
 a139:=Tryz.isAgg363
 z139:=Tryz.sizeOf363
 v139:=Tryz.zeroValue363
 g3:=by kernel_rfl
 g4:=by kernel_rfl }
def Tryz.lays172_ren : Go.Shelf.Ren:=⟨fun | 172=>186 | 244=>246 | 245=>247 | 247=>293 | 279=>294 | 280=>295 | 281=>296 | 282=>297 | 287=>334 | 316=>187 | 171=>102 | 205=>335 | 321=>348 | 322=>349 | 243=>183 | 246=>236 | 283=>283 | 284=>284 | 285=>285 | 286=>286 | 129=>269 | 317=>327 | 318=>328 | 319=>329 | 320=>330 | 337=>344 | 338=>345 | n=>n,fun | 9=>9 | 3=>3 | 75=>198 | 76=>199 | 4=>4 | 5=>5 | 167=>313 | 37=>22 | 0=>0 | 85=>314 | 2=>2 | 168=>316 | 53=>298 | 175=>347 | 46=>261 | 210=>350 | 127=>250 | 145=>368 | 143=>366 | 21=>21 | 171=>305 | 173=>307 | 212=>343 | 51=>296 | 20=>20 | 213=>344 | 232=>371 | 233=>372 | 80=>201 | n=>n,fun | 15=>3 | 16=>4 | 17=>2 | 18=>7 | 19=>8 | n=>n⟩
theorem Tryz.lays172 : Go.Proofs.Lays.n172 Tryz.prog Tryz.lays172_ren:={
 mixed:=by kernel_rfl
 f129:=Tryz.func269.trans (congrArg some (by kernel_rfl))
 f171:=Tryz.func102.trans (congrArg some (by kernel_rfl))
 f172:=Tryz.func186.trans (congrArg some (by kernel_rfl))
 f205:=Tryz.func335.trans (congrArg some (by kernel_rfl))
 f243:=Tryz.func183.trans (congrArg some (by kernel_rfl))
 f244:=Tryz.func246.trans (congrArg some (by kernel_rfl))
 f245:=Tryz.func247.trans (congrArg some (by kernel_rfl))
 f246:=Tryz.func236.trans (congrArg some (by kernel_rfl))
 f247:=Tryz.func293.trans (congrArg some (by kernel_rfl))
 f279:=Tryz.func294.trans (congrArg some (by kernel_rfl))
 f280:=Tryz.func295.trans (congrArg some (by kernel_rfl))
 f281:=Tryz.func296.trans (congrArg some (by kernel_rfl))
 f282:=Tryz.func297.trans (congrArg some (by kernel_rfl))
 f283:=Tryz.func283.trans (congrArg some (by kernel_rfl))
 f284:=Tryz.func284.trans (congrArg some (by kernel_rfl))
 f285:=Tryz.func285.trans (congrArg some (by kernel_rfl))
 f286:=Tryz.func286.trans (congrArg some (by kernel_rfl))
 f287:=Tryz.func334.trans (congrArg some (by kernel_rfl))
 f316:=Tryz.func187.trans (congrArg some (by kernel_rfl))
 f317:=Tryz.func327.trans (congrArg some (by kernel_rfl))
 f318:=Tryz.func328.trans (congrArg some (by kernel_rfl))
 f319:=Tryz.func329.trans (congrArg some (by kernel_rfl))
 f320:=Tryz.func330.trans (congrArg some (by kernel_rfl))
 f321:=Tryz.func348.trans (congrArg some (by kernel_rfl))
 f322:=Tryz.func349.trans (congrArg some (by kernel_rfl))
 f337:=Tryz.func344.trans (congrArg some (by kernel_rfl))
 f338:=Tryz.func345.trans (congrArg some (by kernel_rfl))
 t0:=Tryz.underlying0
 a0:=Tryz.isAgg0
 z0:=Tryz.sizeOf0
 v0:=Tryz.zeroValue0
 t2:=Tryz.underlying2
 a2:=Tryz.isAgg2
 z2:=Tryz.sizeOf2
 v2:=Tryz.zeroValue2
 t3:=Tryz.underlying3
 a3:=Tryz.isAgg3
 z3:=Tryz.sizeOf3
 v3:=Tryz.zeroValue3
 t4:=Tryz.underlying4
 a4:=Tryz.isAgg4
 z4:=Tryz.sizeOf4
 v4:=Tryz.zeroValue4
 t5:=Tryz.underlying5
 a5:=Tryz.isAgg5
 z5:=Tryz.sizeOf5
 v5:=Tryz.zeroValue5
 t9:=Tryz.underlying9
 a9:=Tryz.isAgg9
 z9:=Tryz.sizeOf9
 v9:=Tryz.zeroValue9
 t20:=Tryz.underlying20
 a20:=Tryz.isAgg20
 z20:=Tryz.sizeOf20
 v20:=Tryz.zeroValue20
 t21:=Tryz.underlying21
 a21:=Tryz.isAgg21
 z21:=Tryz.sizeOf21
 v21:=Tryz.zeroValue21
 t37:=Tryz.underlying22
 a37:=Tryz.isAgg22
 z37:=Tryz.sizeOf22
 v37:=Tryz.zeroValue22
 t46:=Tryz.underlying261
 a46:=Tryz.isAgg261
 z46:=Tryz.sizeOf261
 v46:=Tryz.zeroValue261
 t51:=Tryz.underlying296
 a51:=Tryz.isAgg296
 z51:=Tryz.sizeOf296
 v51:=Tryz.zeroValue296
 t53:=Tryz.underlying298
 a53:=Tryz.isAgg298
 z53:=Tryz.sizeOf298
 v53:=Tryz.zeroValue298
 t75:=Tryz.underlying198
 a75:=Tryz.isAgg198
 z75:=Tryz.sizeOf198
 v75:=Tryz.zeroValue198
 t76:=Tryz.underlying199
 a76:=Tryz.isAgg199
 z76:=Tryz.sizeOf199
 v76:=Tryz.zeroValue199
 t85:=Tryz.underlying314
 a85:=Tryz.isAgg314
 z85:=Tryz.sizeOf314
 v85:=Tryz.zeroValue314
 t127:=Tryz.underlying250
 a127:=Tryz.isAgg250
 z127:=Tryz.sizeOf250
 v127:=Tryz.zeroValue250
 t143:=Tryz.underlying366
 a143:=Tryz.isAgg366
 z143:=Tryz.sizeOf366
 v143:=Tryz.zeroValue366
 t145:=Tryz.underlying368
 a145:=Tryz.isAgg368
 z145:=Tryz.sizeOf368
 v145:=Tryz.zeroValue368
 t167:=Tryz.underlying313
 a167:=Tryz.isAgg313
 z167:=Tryz.sizeOf313
 v167:=Tryz.zeroValue313
 t168:=Tryz.underlying316
 a168:=Tryz.isAgg316
 z168:=Tryz.sizeOf316
 v168:=Tryz.zeroValue316
 t171:=Tryz.underlying305
 a171:=Tryz.isAgg305
 z171:=Tryz.sizeOf305
 v171:=Tryz.zeroValue305
 t173:=Tryz.underlying307
 a173:=Tryz.isAgg307
 z173:=Tryz.sizeOf307
 v173:=Tryz.zeroValue307
 t175:=Tryz.underlying347
 a175:=Tryz.isAgg347
 z175:=Tryz.sizeOf347
 v175:=Tryz.zeroValue347
 t210:=Tryz.underlying350
 a210:=Tryz.isAgg350
 z210:=Tryz.sizeOf350
 v210:=Tryz.zeroValue350
 t212:=Tryz.underlying343
 a212:=Tryz.isAgg343
 z212:=Tryz.sizeOf343
 v212:=Tryz.zeroValue343
 t213:=Tryz.underlying344
 a213:=Tryz.isAgg344
 z213:=Tryz.sizeOf344
 t232:=Tryz.underlying371
 a232:=Tryz.isAgg371
 z232:=Tryz.sizeOf371
 v232:=Tryz.zeroValue371
 t233:=Tryz.underlying372
 a233:=Tryz.isAgg372
 z233:=Tryz.sizeOf372
 v233:=Tryz.zeroValue372
 g15:=by kernel_rfl
 g16:=by kernel_rfl
 g17:=by kernel_rfl
 g18:=by kernel_rfl
 g19:=by kernel_rfl }
open Go.RowKit in
theorem Tryz.strconv_Atoi (s : ByteArray) (n : Int) (hl : s.size ≤ 18) (h : Lib.atoi s.data.toList = some n) (w : World) :
  Calls Tryz.prog 186 #[.string s] w fun e w'=>e = .returned (.tuple #[.int .i64 n,.nilIface]) ∧ ∃ t,w' = Lib.bytesWorld w 5 t:=Any.strconv_Atoi Tryz.lays172 s n hl h w
end Go.Proofs
