/- append. -/
import Derived.MapKept
import Derived.Lib.IndexBytes
import Derived.Orders
import Derived.Test.YtefjaihaocdpcaaGreatDoorLmkaepbafli
set_option linter.unusedVariables false
set_option linter.unusedSimpArgs false
namespace Lx
open Go
section
variable {Ty : Type} {El : Ty → Type} {C : Cod Ty El} {P : Program}

theorem Qpq0 {t ty e : TypeId} {i : TypeInfo} (ht : P.underlying t = some (.slice e)) (hi : P.info? e = some i) {base a : Option Addr} {n cap c : Nat} (hle : n ≤ cap) (w : World) :
  (Builtin.append_ #[t,t] ty #[.slice base n cap,.slice a 0 c]).run P w = .ok (.slice base n cap) w:=by
 unfold Builtin.append_
 have h1 : (#[t,t] : Array TypeId)[0]? = some t:=rfl
 have h2 : (#[t,t] : Array TypeId)[1]? = some t:=rfl
 have h3 : (#[Value.slice base n cap,.slice a 0 c] : Array Value)[0]? = some (.slice base n cap):=rfl
 have h4 : (#[Value.slice base n cap,.slice a 0 c] : Array Value)[1]? = some (.slice a 0 c):=rfl
 cases a <;> cases base <;> simp [Sem.run_bind,run_underlying ht,Qvtr hi,Builtin.lenOf,Builtin.firstCells,loadCells,loadCellsFrom,hle,storeCells]

theorem Qcqo {α : Type} (xs ys : List α) (i : Nat) (d : α) : (xs ++ ys).getD i d = if i < xs.length then xs.getD i d else ys.getD (i - xs.length) d:=by
 by_cases h : i < xs.length
 ·rw [if_pos h]; simp [List.getD,List.getElem?_append_left h]
 ·rw [if_neg h]; simp [List.getD,List.getElem?_append_right (Nat.le_of_not_lt h)]


theorem Q910 (hC : CodOK P C) {w : World} {t ty e : TypeId} {T : Ty} (ht : P.underlying t = some (.slice e)) (he : C.ty e = some T) {v : Value} {n m cap : Nat} {a : Option Addr} {cells : List Value}
  (hown : w.ownsRow 0 e (C.sz T) v n cells) (hle : m ≤ cap) (hx : 0 < m → ∃ b o,a = some ⟨b,o,none⟩ ∧ ∀ k,k < m * C.sz T → ∃ u,w.cell? ⟨b,o + k,none⟩ = some u ∧ u.oneCell' = true) (hb : (n + m) * Qbhn P e ≤ 140737488355328) :
  ∃ v' w' news,(Builtin.append_ #[t,t] ty #[v,.slice a m cap]).run P w = .ok v' w' ∧ w'.ownsRow 0 e (C.sz T) v' (n + m) (cells ++ news) ∧ w.grownBy w' v.ownBlock ∧ (v'.ownBlock = v.ownBlock ∨ v'.ownBlock = some w.heap.size) ∧
   v'.oneCell' = true ∧ (∀ u ∈ news,u.oneCell' = true) ∧ ∀ b o k,a = some ⟨b,o,none⟩ → k < m * C.sz T → news[k]? = w.cell? ⟨b,o + k,none⟩:=by
 obtain ⟨i,z,hi,hsz,hz,hzs,hby⟩:=hC.info e T he
 have hpos:=hC.pos T
 have hbe : Qbhn P e = i.bytes:=by simp [Qbhn,hi]
 rw [hbe] at hb
 have hmax : n + m ≤ maxLen:=by
  have : n + m ≤ (n + m) * i.bytes:=Nat.le_mul_of_pos_right _ hby
  simp only [maxLen]; omega
 have oneOwn : ∀ {W : World} {u : Value} {k : Nat} {cs : List Value},W.ownsRow 0 e (C.sz T) u k cs → u.oneCell' = true:=by
  intro W u k cs h
  rcases h.2 with ⟨h,_⟩ | ⟨g,cap,cur,h,_⟩ <;> rw [h] <;> rfl
 rcases Nat.eq_zero_or_pos m with h0 | h0
 ·subst h0
  obtain ⟨base,cp,hv,hnc⟩ : ∃ base cp,v = .slice base n cp ∧ n ≤ cp:=by
   rcases hown.2 with ⟨h,h'⟩ | ⟨g,cap',cur,h,_,_,h',_⟩
   ·exact ⟨none,0,by rw [h,h'],by omega⟩
   ·exact ⟨_,cap',h,h'⟩
  refine ⟨v,w,[], ?_,by simpa using hown,⟨rfl,rfl,rfl,Nat.le_refl _,fun _ _ _=>rfl⟩,.inl rfl,oneOwn hown,fun u hu=>by simp at hu,fun b o k _ hk=>by omega⟩
  rw [hv]
  exact Qpq0 ht hi hnc w
 ·obtain ⟨b,o,rfl,hcell⟩:=hx h0
  let news : List Value:=(List.range (m * C.sz T)).map fun k=>(w.cell? ⟨b,o + k,none⟩).getD undef
  have hnl : news.length = m * C.sz T:=by simp [news]
  have hng : ∀ k,k < m * C.sz T → news[k]? = some ((w.cell? ⟨b,o + k,none⟩).getD undef):=fun k hk=>by simp [news,hk]
  have hnone : ∀ u ∈ news,u.oneCell' = true:=fun u hu=>by
   obtain ⟨k,hk,hku⟩:=List.getElem_of_mem hu
   rw [hnl] at hk
   obtain ⟨u',hu',h1'⟩:=hcell k hk
   have:=hng k hk
   rw [hu'] at this
   have hk' : k < news.length:=by rw [hnl]; exact hk
   rw [List.getElem?_eq_getElem hk'] at this
   simp only [Option.getD_some,Option.some.injEq] at this
   rw [← hku,this]; exact h1'
  obtain ⟨v',w',hrun,h1,h2,_,h4⟩:=run_append_own_at (P:=P) w 0 t ty e i z (C.sz T) i.bytes ht hi hz hsz rfl hzs hpos v n cells hown ⟨b,o,none⟩ m cap news hnl
   (fun j u hj=>by
    have hlt : j < m * C.sz T:=by rw [← hnl]; exact (List.getElem?_eq_some_iff.1 hj).1
    obtain ⟨u',hu',_⟩:=hcell j hlt
    rw [hng j hlt,hu'] at hj
    simp only [Option.getD_some,Option.some.injEq] at hj
    rw [Qimv,hu',hj]) hnone hmax hb (Nat.zero_le _)
  refine ⟨v',w',news,hrun,h1,h2,h4,oneOwn h1,hnone,fun b' o' k hbo hk=>?_⟩
  simp only [Option.some.injEq,Addr.mk.injEq,and_true] at hbo
  obtain ⟨rfl,rfl⟩:=hbo
  obtain ⟨u,hu,_⟩:=hcell k hk
  rw [hng k hk,hu]; rfl


structure SrcG (C : Cod Ty El) (N : Nm) (w : World) (D : Nat) (inn : List Nat) (v : Value) (T : Ty) (zs : List (El T)) (Gs : Nat → Nat → Nat → Prop) (a : Option Addr) (cap : Nat) : Prop where
 hv : v = .slice a zs.length cap
 le : zs.length ≤ cap
 cell : 0 < zs.length → ∃ b o,a = some ⟨b,o,none⟩ ∧ ∀ i j c,i < zs.length → (C.row T (zs.getD i (C.dflt T)))[j]? = some c → ∃ u,w.cell? ⟨b,o + (i * C.sz T + j),none⟩ = some u ∧ u.oneCell' = true ∧ GoodK C N w D i j u c (Gs i j)
 F : ∀ i j b,i < zs.length → j < C.sz T → Gs i j b → ∃ k ∈ inn,N.F k b
 sep : ∀ i j i' j' b,i < zs.length → j < C.sz T → i' < zs.length → j' < C.sz T → Gs i j b → Gs i' j' b → i = i' ∧ j = j'

theorem SrcG.of_slR (hC : CodOK P C) {N : Nm} {w : World} {v : Value} {T : Ty} {zs : List (El T)} (h : SlR C N w v T zs) : ∃ a cap,SrcG C N w 0 [] v T zs (fun _ _ _=>False) a cap:=by
 obtain ⟨a,cap,hv,hle,hc⟩:=h
 refine ⟨a,cap,hv,hle,fun hp=>?_,fun _ _ _ _ _ h=>h.elim,fun _ _ _ _ _ _ _ _ _ h=>h.elim⟩
 obtain ⟨b,o,ha,hcc⟩:=hc hp
 refine ⟨b,o,ha,fun i j c hi hj=>?_⟩
 obtain ⟨u,hu,hr⟩:=hcc i j c hi hj
 exact ⟨u,hu,hr.cellOK_one (hC.cell T _ c (List.mem_of_getElem? hj)),GoodK.of_rep hr (fun _ _ _=>rfl)⟩

theorem SrcG.of_deep (hC : CodOK P C) {N : Nm} {w : World} {D r : Nat} {v : Value} {T : Ty} {zs : List (El T)} (h : Deep C N w D mskNo (N.F r) v T zs) : ∃ Gs a cap,SrcG C N w D [r] v T zs Gs a cap:=by
 obtain ⟨e,cells,Fs,hri⟩:=GoodK.of_row h
 obtain ⟨a,cap,hv,hle,hz,hat⟩:=hri.at
 refine ⟨Fs,a,cap,hv,hle,fun hp=>?_,fun i j b hi hj hb=>⟨r,by simp,(hri.blk b).2 (.inr ⟨i,j,hi,hj,hb⟩)⟩,hri.sep⟩
 cases a with
 | none=>have:=(hz rfl).1; omega
 | some ad =>
  obtain ⟨b,rfl,_,_⟩:=hat ad rfl
  refine ⟨b,0,rfl,fun i j c hi hj=>?_⟩
  obtain ⟨u,hu,hk,h1⟩:=hri.cellAt hC hv hi hj
  exact ⟨u,by rw [Nat.zero_add]; exact hu,h1,hk⟩

theorem Qze0 (hC : CodOK P C) {X : Cx} {N : Nm} {tm : Nat → AV Ty El} {hp : Nat → AObj Ty El} {a : Act} {w : World} (hS : SimN C X N tm hp a w) {t ty e : TypeId} {T : Ty} (hte : P.underlying t = some (.slice e)) (hce : C.ty e = some T)
  {r D vr vn : Nat} {us zs : List (El T)} {v vx : Value} {Bd : Nat → Prop} {inn : List Nat} {Gs : Nat → Nat → Nat → Prop} {ax : Option Addr} {capx : Nat} (hd : Deep C N w D mskNo Bd v T us) (hx : SrcG C N w D inn vx T zs Gs ax capx) (hin : ∀ k ∈ inn,k ≠ r ∧ hp k ≠ .gone)
  (hdst : (hp r = .gone ∧ (∀ b,¬ Bd b)) ∨ (hp r = .row T us D vr vn .no ∧ ∀ b,Bd b ↔ N.F r b)) (hb : (us.length + zs.length) * Qbhn P e ≤ 140737488355328) :
  ∃ u N' w',(Builtin.append_ #[t,t] ty #[v,vx]).run P w = .ok u w' ∧ SimN C X N' tm (outs hp r (.row T (us ++ zs) D (bump vr vn) (bump vr vn) .no) inn) a w' ∧ RepA C N' w' u (.own r [] (bump vr vn)):=by
 obtain ⟨e',cells,Fs,hri⟩:=GoodK.of_row hd
 obtain rfl : e = e':=hC.inj e e' T hce hri.ty
 obtain ⟨hvx,hxle,hxc,hxF,hxs⟩:=hx
 subst hvx
 obtain ⟨v',w',news,hrun,hown,hgr,hat,hone,hn1,hnew⟩:=Q910 hC (ty:=ty) hte hce hri.own hxle (fun hm=>by
  obtain ⟨b,o,ha,hcc⟩:=hxc hm
  refine ⟨b,o,ha,fun k hk=>?_⟩
  have hpos:=hC.pos T
  have hki : k / C.sz T < zs.length:=Nat.div_lt_of_lt_mul (by rw [Nat.mul_comm]; exact hk)
  have hkj : k % C.sz T < (C.row T (zs.getD (k / C.sz T) (C.dflt T))).length:=by rw [hC.len]; exact Nat.mod_lt _ hpos
  obtain ⟨u,hu,h1,_⟩:=hcc (k / C.sz T) (k % C.sz T) _ hki (List.getElem?_eq_getElem hkj)
  rw [Nat.mul_comm,Nat.div_add_mod] at hu
  exact ⟨u,hu,h1⟩) hb
 have hBF : ∀ b,Bd b → N.F r b:=fun b hb=>hdst.elim (fun h=>absurd hb (h.2 b)) (fun h=>(h.2 b).1 hb)
 have hBlt : ∀ b,Bd b → b < w.heap.size:=fun b hb=>(hS.hr.obj r).lt hC (hBF b hb)
 have hGlt : ∀ i j b,i < zs.length → j < C.sz T → Gs i j b → b < w.heap.size:=fun i j b h1 h2 hb=>by obtain ⟨k',_,h3⟩:=hxF i j b h1 h2 hb; exact (hS.hr.obj k').lt hC h3
 have hGB : ∀ i j b,i < zs.length → j < C.sz T → Gs i j b → ¬ Bd b:=fun i j b h1 h2 hb hbd=>by
  obtain ⟨k',hk',h3⟩:=hxF i j b h1 h2 hb
  exact (hin k' hk').1 (hS.hr.dist k' r b h3 (hBF b hbd))
 have hkeep : ∀ b,b < w.heap.size → v.ownBlock ≠ some b → w'.heap[b]? = w.heap[b]?:=fun b hb hne=>hgr.block b hb (fun h=>hne h.symm)
 have hcl : cells.length = us.length * C.sz T:=hri.own.1
 let F' : Nat → Nat → Nat → Prop:=fun i j=>if i < us.length then Fs i j else Gs (i - us.length) j
 have hvB : ∀ b,v.ownBlock = some b → Bd b:=fun b hb=>(hri.blk b).2 (.inl hb)
 have hFB : ∀ i j b,i < us.length → j < C.sz T → Fs i j b → Bd b:=fun i j b h1 h2 h3=>(hri.blk b).2 (.inr ⟨i,j,h1,h2,h3⟩)
 have hFne : ∀ i j b,i < (us ++ zs).length → j < C.sz T → F' i j b → v.ownBlock ≠ some b ∧ b < w.heap.size:=by
  intro i j b hi hj hb
  simp only [F'] at hb
  rw [List.length_append] at hi
  split at hb
  ·rename_i h1
   exact ⟨hri.sep0 i j b h1 hj hb,hBlt b (hFB i j b h1 hj hb)⟩
  ·exact ⟨fun e=>hGB _ j b (by omega) hj hb (hvB b e),hGlt _ j b (by omega) hj hb⟩
 have hs:=Step.rowIn (r:=r) (T:=T) (xs:=us ++ zs) (d:=D) (vr:=bump vr vn) (vn:=bump vr vn) (m:=.no) (ν:=v')
  (F:=fun b=>v'.ownBlock = some b ∨ ∃ i j,i < (us ++ zs).length ∧ j < C.sz T ∧ F' i j b) (ro:=fun _=>False) (inn:=inn) (w':=w') hC hS.hr hin (fun b hb hn=>hkeep b hb (fun e=>hn (hBF b (hvB b e)))) hgr.size hone
  (fun hL=>by
   refine GoodK.row hC (e:=e) (cells:=cells ++ news) (Fs:=F') ⟨hce,by rw [List.length_append]; exact hown,fun u hu=>?_,fun b=>Iff.rfl,fun i j b hi hj hb=>?_,fun i j i' j' b hi hj hi' hj' hb hb'=>?_,fun i j c hi hj=>?_⟩
   ·simp only [List.mem_append] at hu
    exact hu.elim (hri.one u) (hn1 u)
   ·obtain ⟨h1,h2⟩:=hFne i j b hi hj hb
    rcases hat with h3 | h3
    ·rw [h3]; exact h1
    ·rw [h3]; simp only [ne_eq,Option.some.injEq]; omega
   ·rw [List.length_append] at hi hi'
    simp only [F'] at hb hb'
    split at hb
    ·rename_i h1
     split at hb'
     ·rename_i h2
      exact hri.sep i j i' j' b h1 hj h2 hj' hb hb'
     ·exact absurd (hFB i j b h1 hj hb) (hGB _ j' b (by omega) hj' hb')
    ·rename_i h1
     split at hb'
     ·rename_i h2
      exact absurd (hFB i' j' b h2 hj' hb') (hGB _ j b (by omega) hj hb)
     ·rename_i h2
      obtain ⟨h3,h4⟩:=hxs _ _ _ _ b (by omega) hj (by omega) hj' hb hb'
      exact ⟨by omega,h4⟩
   ·have hjs:=RowI.sz hC hj
    have hi0:=hi
    rw [Qcqo] at hj
    rw [List.length_append] at hi
    have hlt:=fun b hb=>(hFne i j b hi0 hjs hb)
    by_cases hi' : i < us.length
    ·rw [if_pos hi'] at hj
     obtain ⟨u,hu,hk⟩:=hri.cell i j c hi' hj
     refine ⟨u,by rw [List.getElem?_append_left (List.getElem?_eq_some_iff.1 hu).1]; exact hu, ?_⟩
     have e : F' i j = Fs i j:=by simp [F',hi']
     refine GoodK.mono hC hL (by rw [e]; exact hk) (fun b hb=>hkeep b (hlt b hb).2 (hlt b hb).1)
    ·rw [if_neg hi'] at hj
     obtain ⟨b,o,ha,hcc⟩:=hxc (by omega)
     obtain ⟨u,hu,_,hk⟩:=hcc (i - us.length) j c (by omega) hj
     have hmul : us.length * C.sz T ≤ i * C.sz T:=Nat.mul_le_mul_right _ (by omega)
     refine ⟨u, ?_, ?_⟩
     ·rw [List.getElem?_append_right (by omega),hcl,← hu,← hnew b o _ ha (Qz8b (show i - us.length < zs.length by omega) hjs)]
      congr 1
      rw [Nat.sub_mul]; omega
     ·have e : F' i j = Gs (i - us.length) j:=by simp [F',hi']
      have hk2 : GoodK C N w D i j u c (F' i j):=by
       rw [e]
       refine ⟨hk.1,fun D' hD'=>?_⟩
       have:=hk.2 D' hD'
       cases c with
       | sl U zs=>exact this
       | _=>exact this
      exact hk2.mono hC hL (fun b hb=>hkeep b (hlt b hb).2 (hlt b hb).1))
  (fun p v2 u2 hg=>by
   have hreg:=hS.hr.reg r p v2 u2 hg
   have hb:=Qqck vr vn
   rcases hdst with ⟨h1,_⟩ | ⟨h1,_⟩
   ·rw [h1] at hreg; exact hreg.elim
   ·rw [h1] at hreg
    cases p with
    | nil=>exact ⟨by have:=hreg.1; omega,fun e=>by have:=hreg.1; omega⟩
    | cons q p=>exact ⟨by have:=hreg.1; omega,fun _ e=>by have:=hreg.1; omega⟩)
  (fun b hb=>by
   rcases hb with hb | ⟨i,j,hi,hj,hb⟩
   ·rcases hat with h3 | h3
    ·exact .inl (hBF b (hvB b (h3 ▸ hb)))
    ·rw [hb] at h3; simp only [Option.some.injEq] at h3; exact .inr (.inl (by omega))
   ·rw [List.length_append] at hi
    simp only [F'] at hb
    split at hb
    ·rename_i h1
     exact .inl (hBF b (hFB i j b h1 hj hb))
    ·exact .inr (.inr (hxF _ j b (by omega) hj hb)))
  (fun b hb=>hb.elim) (fun b _ hb=>hb) hgr.os hgr.tape hgr.output
 refine ⟨v',_,w',hrun,hS.step hC hs (fun k hk hkm hst=>?_),.own r [] _ _ (.inr ⟨rfl,.inl ⟨rfl,rfl,rfl⟩⟩)⟩
 rcases hk with hk | hk
 ·subst hk
  have hb:=Qqck vr vn
  simp only [stays,outs,if_true,beq_iff_eq] at hst
  omega
 ·simp [stays,outs,(hin k hk).1,hk] at hst
end
end Lx
namespace Lx
open Go
section
variable {Ty : Type} {El : Ty → Type} {C : Cod Ty El} {P : Program}

theorem SrcG.mono (hC : CodOK P C) {N N' : Nm} {w : World} {D : Nat} {inn : List Nat} {v : Value} {T : Ty} {zs : List (El T)} {Gs : Nat → Nat → Nat → Prop} {a : Option Addr} {cap : Nat} (h : SrcG C N w D inn v T zs Gs a cap) (hL : Le N N' w w) (hs : ∀ k ∈ inn,SameN N N' k) : SrcG C N' w D inn v T zs Gs a cap :=
 ⟨h.hv,h.le,fun hp=>by
  obtain ⟨b,o,h1,h2⟩:=h.cell hp
  refine ⟨b,o,h1,fun i j c hi hj=>?_⟩
  obtain ⟨u,h3,h4,h5⟩:=h2 i j c hi hj
  exact ⟨u,h3,h4,h5.mono hC hL (fun _ _=>rfl)⟩,fun i j b hi hj hb=>by
  obtain ⟨k,hk,h1⟩:=h.F i j b hi hj hb
  exact ⟨k,hk,((hs k hk).F b).2 h1⟩,h.sep⟩

theorem Le.trans' {N1 N2 N3 : Nm} {w : World} (h : Le N1 N2 w w) (h' : Le N2 N3 w w) : Le N1 N3 w w:=⟨fun _ _ _ _ x=>h'.G _ _ _ _ (h.G _ _ _ _ x),fun b x=>h'.ro b (h.ro b x),fun _ _=>rfl⟩

theorem Qv3e {hp : Nat → AObj Ty El} {r : Nat} {p : Path} {v : Nat} {s : (T : Ty) × List (El T)} {rd : List Nat} (h : readA C hp (.own r p v) = some (s,rd)) : ∃ R,rowAt C hp r p v = some R ∧ s = ⟨R.T,R.xs⟩:=by
 simp only [readA] at h
 split at h
 ·rename_i R hR
  simp only [Option.some.injEq,Prod.mk.injEq] at h
  exact ⟨R,hR,h.1.symm⟩
 ·cases h

theorem Qng8 {hp hp' : Nat → AObj Ty El} {r : Nat} {T0 : Ty} {xs0 : List (El T0)} {d vr vn : Nat} (hrow : hp r = .row T0 xs0 d vr vn .no) {p : Path} {ver : Nat} {R : Row Ty El} (hR : rowAt C hp r p ver = some R) (hle : p.length ≤ d)
  (hrow' : hp' r = .row T0 xs0 p.length vr vn .no) : rowAt C hp' r p ver = some ⟨R.T,R.xs,0,vn⟩:=by
 obtain ⟨T1,xs1,d1,vr1,h1,h2,h3,h4,h5⟩:=Qy3i hR
 rw [hrow] at h1
 simp only [AObj.row.injEq] at h1
 obtain ⟨rfl,e,rfl,rfl,rfl,_⟩:=h1
 have e:=eq_of_heq e
 subst e
 have:=Q69l (C:=C) hrow' h2 (Nat.le_refl _) h5
 simpa using this

theorem Qb3s (hC : CodOK P C) {X : Cx} {N : Nm} {tm : Nat → AV Ty El} {hp : Nat → AObj Ty El} {a : Act} {w : World} (hS : SimN C X N tm hp a w) {x : AV Ty El} {vx : Value} (hx : RepA C N w vx x) {T : Ty} {zs : List (El T)} {dz D : Nat} {ws : List (Nat × AObj Ty El)} {rd : List Nat}
  (h : srcA C hp x = some (⟨T,zs⟩,dz,ws,rd)) (hD : D ≤ dz) : ∃ N1 hp1 inn Gs ax cap,SimN C X N1 tm hp1 a w ∧ Le N N1 w w ∧ SrcG C N1 w D inn vx T zs Gs ax cap ∧
   ((ws = [] ∧ inn = [] ∧ hp1 = hp) ∨ (∃ r2 o2,hp r2 ≠ .gone ∧ o2 ≠ .gone ∧ hp1 = setH hp r2 o2 ∧ (∀ k,k ≠ r2 → SameN N N1 k) ∧ ((ws = [(r2,.out)] ∧ inn = [r2]) ∨ (ws = [(r2,o2)] ∧ inn = [])))):=by
 unfold srcA at h
 split at h
 ·cases h
 ·rename_i s rd' hread
  split at h
  ·rename_i h0
   simp only [Option.some.injEq,Prod.mk.injEq] at h
   obtain ⟨rfl,rfl,rfl,_⟩:=h
   obtain rfl : D = 0:=by omega
   have hsl:=Qpv0 hC hS.hr hx hread (.inl h0)
   obtain ⟨ax,cap,hsrc⟩:=SrcG.of_slR (P:=P) hC hsl
   exact ⟨N,hp,[],_,ax,cap,hS,Le.rfl',hsrc,.inl ⟨rfl,rfl,rfl⟩⟩
  ·rename_i h0

   have frz : ∀ (r : Nat) (p : Path) (ver : Nat) (R : Row Ty El) (T0 : Ty) (xs0 : List (El T0)) (d vr vn vn' : Nat),hp r = .row T0 xs0 d vr vn .no → rowAt C hp r p ver = some R → vn ≤ vn' → (∀ N1,Le N N1 w w → SimN C X N1 tm (setH hp r (.row T0 xs0 p.length vr vn .no)) a w → SlR C N1 w vx T zs) →
     ∃ N1 Gs ax cap,SimN C X N1 tm (setH hp r (.row T0 xs0 p.length vr vn' .no)) a w ∧ Le N N1 w w ∧ SrcG C N1 w 0 [] vx T zs Gs ax cap ∧ ∀ k,k ≠ r → SameN N N1 k:=by
    intro r p ver R T0 xs0 d vr vn vn' hrow hR hvn hk
    have hle : p.length ≤ d:=by
     obtain ⟨T1,xs1,d1,vr1,h1,h2,h3,h4,h5⟩:=Qy3i hR
     rw [hrow] at h1
     simp only [AObj.row.injEq] at h1
     omega
    obtain ⟨N1,h1,h2,_,_,h5⟩:=hS.freeze (vn':=vn) (d':=p.length) hC hrow hle (Nat.le_refl _)
    obtain ⟨N2,h6,h7,_,_,h8⟩:=h1.freeze (vn':=vn') (d':=p.length) hC (Q3el _ _ _) (Nat.le_refl _) hvn
    have hsl:=hk N1 h2 h1
    have hsl2 : SlR C N2 w vx T zs:=by
     obtain ⟨ax,cap,e1,e2,e3⟩:=hsl
     refine ⟨ax,cap,e1,e2,fun hp=>?_⟩
     obtain ⟨b,o,e4,e5⟩:=e3 hp
     refine ⟨b,o,e4,fun i j c hi hj=>?_⟩
     obtain ⟨u,hu,hr⟩:=e5 i j c hi hj
     exact ⟨u,hu,hr.mono h7⟩
    obtain ⟨ax,cap,hsrc⟩:=SrcG.of_slR (P:=P) hC hsl2
    have e : setH (setH hp r (.row T0 xs0 p.length vr vn .no)) r (.row T0 xs0 p.length vr vn' .no) = setH hp r (.row T0 xs0 p.length vr vn' .no):=by
     funext k; by_cases e : k = r <;> simp [setH,e]
    rw [e] at h6
    exact ⟨N2,_,ax,cap,h6,h2.trans' h7,hsrc,fun k hk=>⟨(h8 k hk).ν.trans (h5 k hk).ν,fun b=>((h8 k hk).F b).trans ((h5 k hk).F b),fun p v u=>((h8 k hk).G p v u).trans ((h5 k hk).G p v u)⟩⟩
   split at h
   ·
    rename_i S xs
    simp only [Option.some.injEq,Prod.mk.injEq] at h
    obtain ⟨rfl,rfl,rfl,_⟩:=h
    obtain rfl : D = 0:=by omega
    have hsl:=Qpv0 hC hS.hr hx hread (.inr (fun r p ver hh=>by rcases hh with hh | ⟨_,_,_,hh⟩ <;> cases hh))
    obtain ⟨ax,cap,hsrc⟩:=SrcG.of_slR (P:=P) hC hsl
    exact ⟨N,hp,[],_,ax,cap,hS,Le.rfl',hsrc,.inl ⟨rfl,rfl,rfl⟩⟩
   ·
    rename_i r p ver
    obtain ⟨R,hR,hs⟩:=Qv3e hread
    have hG : N.G r p ver vx:=by cases hx; assumption
    have same0 : ∀ R',rowAt C hp r p ver = some R' → R'.d = 0 → D = 0 → s = ⟨T,zs⟩ → ws = [] → ∃ N1 hp1 inn Gs ax cap,SimN C X N1 tm hp1 a w ∧ Le N N1 w w ∧ SrcG C N1 w D inn vx T zs Gs ax cap ∧
      ((ws = [] ∧ inn = [] ∧ hp1 = hp) ∨ (∃ r2 o2,hp r2 ≠ .gone ∧ o2 ≠ .gone ∧ hp1 = setH hp r2 o2 ∧ (∀ k,k ≠ r2 → SameN N N1 k) ∧ ((ws = [(r2,.out)] ∧ inn = [r2]) ∨ (ws = [(r2,o2)] ∧ inn = [])))):=by
     intro R' hR' hd0 hDz hse hws
     subst hDz; subst hse
     have hsl:=Qpv0 hC hS.hr hx hread (.inr (fun r1 p1 ver1 hh R1 hR1=>by
      rcases hh with hh | ⟨_,_,_,hh⟩
      ·simp only [AV.own.injEq] at hh
       obtain ⟨rfl,rfl,rfl⟩:=hh
       rw [hR'] at hR1
       obtain rfl:=Option.some.inj hR1
       exact hd0
      ·cases hh))
     obtain ⟨ax,cap,hsrc⟩:=SrcG.of_slR (P:=P) hC hsl
     exact ⟨N,hp,[],_,ax,cap,hS,Le.rfl',hsrc,.inl ⟨hws,rfl,rfl⟩⟩
    have fz0 : ∀ (T0 : Ty) (xs0 : List (El T0)) (d vr vn : Nat),hp r = .row T0 xs0 d vr vn .no → D = 0 → s = ⟨T,zs⟩ → ws = [(r,.row T0 xs0 p.length vr (bump vr vn) .no)] → ∃ N1 hp1 inn Gs ax cap,SimN C X N1 tm hp1 a w ∧ Le N N1 w w ∧ SrcG C N1 w D inn vx T zs Gs ax cap ∧
      ((ws = [] ∧ inn = [] ∧ hp1 = hp) ∨ (∃ r2 o2,hp r2 ≠ .gone ∧ o2 ≠ .gone ∧ hp1 = setH hp r2 o2 ∧ (∀ k,k ≠ r2 → SameN N N1 k) ∧ ((ws = [(r2,.out)] ∧ inn = [r2]) ∨ (ws = [(r2,o2)] ∧ inn = [])))):=by
     intro T0 xs0 d vr vn hrow hDz hse hws
     subst hDz; subst hse
     simp only [Sigma.mk.injEq] at hs
     obtain ⟨rfl,hs⟩:=hs
     have hs:=eq_of_heq hs
     subst hs
     have hle : p.length ≤ d:=by
      obtain ⟨T1,xs1,d1,vr1,h1,h2,h3,h4,h5⟩:=Qy3i hR
      rw [hrow] at h1
      simp only [AObj.row.injEq] at h1
      omega
     obtain ⟨N1,Gs,ax,cap,h1,h2,h3,h4⟩:=frz r p ver R T0 xs0 d vr vn (bump vr vn) hrow hR (by have:=Qqck vr vn; omega) (fun N1 hL hS1=>by
      have hR1:=Qng8 hrow hR hle (Q3el hp r (.row T0 xs0 p.length vr vn .no))
      obtain ⟨_,_,_,_,_,_,_,_,_,_,_,B',_,hd⟩:=Q2c6 hC hS1.hr hR1 (hL.G _ _ _ _ hG)
      exact SlR.of_deep hC hd (.inl rfl))
     exact ⟨N1,_,[],Gs,ax,cap,h1,h2,h3,.inr ⟨r,_,by rw [hrow]; simp,by simp,rfl,h4,.inr ⟨hws,rfl⟩⟩⟩
    split at h
    ·rename_i T0 xs0 d vr vn hrow
     have hRd : ∀ R',rowAt C hp r p ver = some R' → R'.d = d - p.length:=fun R' hR'=>by
      obtain ⟨T1,xs1,d1,vr1,h1,h2,h3,h4,h5⟩:=Qy3i hR'
      rw [hrow] at h1
      simp only [AObj.row.injEq] at h1
      omega
     split at h
     ·split at h
      ·
       simp only [Option.some.injEq,Prod.mk.injEq] at h
       obtain ⟨rfl,rfl,rfl,_⟩:=h
       simp only [Sigma.mk.injEq] at hs
       obtain ⟨rfl,hs⟩:=hs
       have hs:=eq_of_heq hs
       subst hs
       obtain ⟨N1,h1,h2,h3,h4,h5⟩:=hS.freeze (vn':=vn) (d':=D) hC hrow hD (Nat.le_refl _)
       have hrow1 : setH hp r (.row T0 xs0 D vr vn .no) r = .row T0 xs0 D vr vn .no:=Q3el _ _ _
       have ho:=h1.hr.obj r
       rw [hrow1] at ho
       have hreg:=hS.hr.reg r [] ver vx hG
       rw [hrow] at hreg
       obtain ⟨T1,xs1,d1,vr1,e1,e2,e3,e4,e5⟩:=Qy3i hR
       rw [hrow] at e1
       simp only [AObj.row.injEq] at e1
       obtain ⟨rfl,e6,rfl,rfl,_,_⟩:=e1
       have e6:=eq_of_heq e6
       subst e6
       simp only [subA,Option.some.injEq,Sigma.mk.injEq] at e2
       obtain ⟨rfl,e2⟩:=e2
       have e2:=eq_of_heq e2
       have hv : vx = N1.ν r:=by rw [h3 r]; exact hreg.2 e5
       have hd : Deep C N1 w D mskNo (N1.F r) vx R.T R.xs:=by rw [hv,← e2]; exact ho.2
       obtain ⟨Gs,ax,cap,hsrc⟩:=SrcG.of_deep hC hd
       exact ⟨N1,_,[r],Gs,ax,cap,h1,h2,hsrc,.inr ⟨r,_,by rw [hrow]; simp,by simp,rfl,h5,.inl ⟨rfl,rfl⟩⟩⟩
      ·split at h
       ·rename_i hd0
        simp only [Option.some.injEq,Prod.mk.injEq] at h
        obtain ⟨rfl,rfl,rfl,_⟩:=h
        exact same0 R hR (by rw [hRd R hR]; omega) (by omega) rfl rfl
       ·simp only [Option.some.injEq,Prod.mk.injEq] at h
        obtain ⟨rfl,rfl,rfl,_⟩:=h
        exact fz0 T0 xs0 d vr vn hrow (by omega) rfl rfl
     ·split at h
      ·rename_i hd0
       simp only [Option.some.injEq,Prod.mk.injEq] at h
       obtain ⟨rfl,rfl,rfl,_⟩:=h
       exact same0 R hR (by rw [hRd R hR]; omega) (by omega) rfl rfl
      ·simp only [Option.some.injEq,Prod.mk.injEq] at h
       obtain ⟨rfl,rfl,rfl,_⟩:=h
       exact fz0 T0 xs0 d vr vn hrow (by omega) rfl rfl
    ·cases h
   ·
    rename_i r p ver wd lo n
    have hread':=hread
    simp only [readA] at hread
    split at hread
    case h_2=>cases hread
    rename_i R hR
    split at hread
    case isFalse=>cases hread
    rename_i hwd
    simp only [Option.some.injEq,Prod.mk.injEq] at hread
    obtain ⟨hse,_⟩:=hread
    split at h
    ·rename_i T0 xs0 d vr vn hrow
     have hRd : ∀ R',rowAt C hp r p ver = some R' → R'.d = d - p.length:=fun R' hR'=>by
      obtain ⟨T1,xs1,d1,vr1,h1,h2,h3,h4,h5⟩:=Qy3i hR'
      rw [hrow] at h1
      simp only [AObj.row.injEq] at h1
      omega
     split at h
     ·rename_i hd0
      simp only [Option.some.injEq,Prod.mk.injEq] at h
      obtain ⟨rfl,rfl,rfl,_⟩:=h
      obtain rfl : D = 0:=by omega
      have hsl:=Qpv0 hC hS.hr hx hread' (.inr (fun r1 p1 ver1 hh R1 hR1=>by
       rcases hh with hh | ⟨_,_,_,hh⟩
       ·cases hh
       ·simp only [AV.view.injEq] at hh
        obtain ⟨rfl,rfl,rfl,_⟩:=hh
        rw [hRd R1 hR1]; omega))
      obtain ⟨ax,cap,hsrc⟩:=SrcG.of_slR (P:=P) hC hsl
      exact ⟨N,hp,[],_,ax,cap,hS,Le.rfl',hsrc,.inl ⟨rfl,rfl,rfl⟩⟩
     ·simp only [Option.some.injEq,Prod.mk.injEq] at h
      obtain ⟨rfl,rfl,rfl,_⟩:=h
      obtain rfl : D = 0:=by omega
      simp only [Sigma.mk.injEq] at hse
      obtain ⟨rfl,hse⟩:=hse
      have hse:=eq_of_heq hse
      subst hse
      have hle : p.length ≤ d:=by
       obtain ⟨T1,xs1,d1,vr1,h1,h2,h3,h4,h5⟩:=Qy3i hR
       rw [hrow] at h1
       simp only [AObj.row.injEq] at h1
       omega
      obtain ⟨N1,Gs,ax,cap,h1,h2,h3,h4⟩:=frz r p ver R T0 xs0 d vr vn (bump vr vn) hrow hR (by have:=Qqck vr vn; omega) (fun N1 hL hS1=>by
       have hR1:=Qng8 hrow hR hle (Q3el hp r (.row T0 xs0 p.length vr vn .no))
       cases hx with
       | view _ _ _ _ lo m nn cp A hG hb =>
        obtain ⟨_,_,_,_,_,_,_,_,_,_,_,B',_,hd⟩:=Q2c6 hC hS1.hr hR1 (hL.G _ _ _ _ hG)
        have hwd : wd = C.sz R.T:=hwd
        subst hwd
        exact Qnx4 hC (SlR.of_deep hC hd (.inl rfl)) hb)
      exact ⟨N1,_,[],Gs,ax,cap,h1,h2,h3,.inr ⟨r,_,by rw [hrow]; simp,by simp,rfl,h4,.inr ⟨rfl,rfl⟩⟩⟩
    ·cases h
   ·cases h
end
end Lx
namespace Lx
open Go
section
variable {Ty : Type} {El : Ty → Type} {C : Cod Ty El} {P : Program}

theorem SimN.split (hC : CodOK P C) {X : Cx} {N : Nm} {tm : Nat → AV Ty El} {hp : Nat → AObj Ty El} {a : Act} {w : World} (hS : SimN C X N tm hp a w) {r f : Nat} {p : Path} {ver : Nat} {Q : Row Ty El} {T0 : Ty} {xs0 xs' : List (El T0)} {d vr vn : Nat} {u : Value}
    (hrow : hp r = .row T0 xs0 d vr vn .no) (hp0 : p ≠ []) (hR : rowAt C hp r p ver = some Q) (hG : N.G r p ver u) (hset : setA C T0 xs0 p Q.T [] = some xs') (hg : hp f = .gone) :
    ∃ N', SimN C X N' tm (setH (setH hp r (.row T0 xs' d vr (bump vr vn) (.hole p))) f (.row Q.T Q.xs Q.d 0 0 .no)) a w ∧ Le N N' w w ∧ N'.G f [] 0 u ∧ N'.ν f = u ∧ ∀ k, k ≠ r → k ≠ f → SameN N N' k := by
  have hne : f ≠ r := fun e => by rw [e, hrow] at hg; cases hg
  obtain ⟨T1, xs1, d1, vr1, h1, hsub, hpl, hd, hh, hdeep, _, _⟩ := Q2c6 hC hS.hr hR hG
  rw [hrow] at h1
  simp only [AObj.row.injEq] at h1
  obtain ⟨rfl, e, rfl, rfl, hvn, _⟩ := h1
  have e := eq_of_heq e
  subst e
  obtain ⟨B', hB', _, _, hone, hdR, _, hhole, _⟩ := hdeep.focus hC p d _ _ _ u T0 Q.T xs0 Q.xs (fun _ h => h) hpl hh hsub
  rw [← hd] at hdR
  let N' : Nm := { ν := fun k => if k = f then u else N.ν k, F := fun k b => if k = f then B' b else if k = r then N.F r b ∧ ¬ B' b else N.F k b,
                   G := fun k q v u' => N.G k q v u' ∨ (k = f ∧ rowG C w Q.T Q.xs u Q.d 0 0 .no q v u'), ro := N.ro }
  have hL : Le N N' w w := ⟨fun _ _ _ _ h => .inl h, fun _ h => h, fun _ _ => rfl⟩
  have hpr : setH (setH hp r (.row T0 xs' d vr (bump vr vn) (.hole p))) f (.row Q.T Q.xs Q.d 0 0 .no) r = .row T0 xs' d vr (bump vr vn) (.hole p) := by rw [Qte0 _ _ (fun e => hne e.symm), Q3el]
  have hpf : setH (setH hp r (.row T0 xs' d vr (bump vr vn) (.hole p))) f (.row Q.T Q.xs Q.d 0 0 .no) f = .row Q.T Q.xs Q.d 0 0 .no := Q3el _ _ _
  have hne' : r ≠ f := fun e => hne e.symm
  have hFr : ∀ b, N'.F r b ↔ N.F r b ∧ ¬ B' b := fun b => by simp [N', hne']
  have hFf : ∀ b, N'.F f b ↔ B' b := fun b => by simp [N']
  have hνr : N'.ν r = N.ν r := by simp [N', hne']
  have hνf : N'.ν f = u := by simp [N']
  have hob := hS.hr.obj r
  rw [hrow] at hob
  have hs : Step C (fun k => k = r ∨ k = f) N N' hp (setH (setH hp r (.row T0 xs' d vr (bump vr vn) (.hole p))) f (.row Q.T Q.xs Q.d 0 0 .no)) w w := by
    refine { same := fun k hk => ?_, G := hL.G, ro := hL.ro, roO := fun b hb => .inl hb, mem := fun _ _ _ => rfl, size := Nat.le_refl _, obj := fun k hk => ?_, reg := fun k hk q v u' hg' => ?_, full := fun k hk => ?_,
             one := fun k hk q v u' hg' => ?_, F := fun k b hk hb => ?_, dist := fun k k' b hk hk' hb hb' => ?_, roS := fun k b hk hb => ?_, roLt := fun b hb => hS.hr.roLt b hb, os := rfl, tape := rfl, output := rfl, ng := fun k hk => ?_ }
    · rw [not_or] at hk
      exact ⟨by rw [Qte0 _ _ hk.2, Qte0 _ _ hk.1], by simp [N', hk.2], fun b => by simp [N', hk.1, hk.2], fun q v u' => by simp [N', hk.2]⟩
    · rcases hk with rfl | rfl
      · rw [hpr]
        refine ⟨by rw [hνr]; exact hob.1, ?_⟩
        rw [hνr]
        exact (hhole hp0 N' w [] xs' hL (fun _ _ _ => rfl) hset).blkEq hFr
      · rw [hpf]
        refine ⟨by rw [hνf]; exact hone hp0, ?_⟩
        rw [hνf]
        exact (Deep.mono hC hL _ _ _ _ _ _ hdR (fun _ _ => rfl)).blkEq hFf
    · rcases hk with rfl | rfl
      · rw [hpr, hνr]
        rcases hg' with hg' | ⟨e, _⟩
        · have hreg := hS.hr.reg k q v u' hg'
          rw [hrow] at hreg
          have hb := (Qqck vr vn).2
          cases q with
          | nil => exact hreg
          | cons q0 q => exact ⟨by have := hreg.1; omega, fun e => by cases e⟩
        · exact absurd e.symm hne
      · rw [hpf, hνf]
        rcases hg' with hg' | ⟨_, hg'⟩
        · have hreg := hS.hr.reg k q v u' hg'
          rw [hg] at hreg
          exact hreg.elim
        · rcases hg' with ⟨rfl, rfl, rfl⟩ | ⟨h2, h3, h4, rfl, h5⟩
          · exact ⟨Nat.le_refl _, fun _ => rfl⟩
          · cases q with
            | nil => exact absurd rfl h2
            | cons q0 q => exact ⟨Nat.le_refl _, fun _ _ _ => h5⟩
    · rcases hk with rfl | rfl
      · rw [hpr]
        have hf := hS.hr.full k
        rw [hrow] at hf
        refine ⟨?_, fun q u' _ _ h => by cases h⟩
        rw [hνr]; exact .inl hf.1
      · rw [hpf]
        refine ⟨.inr ⟨rfl, .inl ⟨rfl, rfl, hνf⟩⟩, fun q u' h2 h3 h4 h5 => .inr ⟨rfl, .inr ⟨h2, h3, h4, rfl, by rwa [hνf] at h5⟩⟩⟩
    · rcases hg' with hg' | ⟨_, hg'⟩
      · exact hS.hr.one k q v u' hg'
      · rcases hg' with ⟨rfl, rfl, rfl⟩ | ⟨h2, h3, h4, rfl, h5⟩
        · exact hone hp0
        · exact Qgbe q _ _ _ u Q.T Q.xs u' hdR (fun _ h => h) (hone hp0) h3 h5
    · rcases hk with rfl | rfl
      · exact .inl ⟨k, .inl rfl, ((hFr b).1 hb).1⟩
      · exact .inl ⟨r, .inl rfl, hB' b ((hFf b).1 hb)⟩
    · rcases hk with rfl | rfl <;> rcases hk' with rfl | rfl
      · rfl
      · exact absurd ((hFf b).1 hb') ((hFr b).1 hb).2
      · exact absurd ((hFf b).1 hb) ((hFr b).1 hb').2
      · rfl
    · rcases hk with rfl | rfl
      · exact hS.hr.roNot k b ((hFr b).1 hb).1
      · exact hS.hr.roNot r b (hB' b ((hFf b).1 hb))
    · rcases hk with rfl | rfl
      · rw [hpr]; simp
      · rw [hpf]; simp
  refine ⟨N', hS.step hC hs (fun k hk hkm hst => ?_), hL, .inr ⟨rfl, .inl ⟨rfl, rfl, rfl⟩⟩, hνf, fun k h2 h3 => (hs.same k (by rw [not_or]; exact ⟨h2, h3⟩)).2⟩
  rcases hk with rfl | rfl
  · simp only [stays, hpr] at hst
    exact ⟨by simpa [stays, hrow] using hst, hνr⟩
  · exact absurd hg (hS.nog k hkm)

theorem Qidz {X : Cx} {N : Nm} {tm : Nat → AV Ty El} {hp : Nat → AObj Ty El} {a : Act} {w : World} (hC : CodOK P C) (hS : SimN C X N tm hp a w) {t ty : TypeId} {fresh : Nat} {vs vx : Value} {s x : AV Ty El} {r : OpRes Ty El}
    (hs : RepA C N w vs s) (hx : RepA C N w vx x) (h : Q67l P C t hp fresh s x = some r) (hg : r.g = true) (hf : hp fresh = .gone) :
    ∃ u N' w', (Builtin.append_ #[t, t] ty #[vs, vx]).run P w = .ok u w' ∧ SimN C X N' tm (updH hp r.wr) a w' ∧ RepA C N' w' u r.v := by
  unfold Q67l at h
  split at h
  · cases h
  rename_i e hse
  have hte : P.underlying t = some (.slice e) := by
    unfold Qtpu at hse
    split at hse
    · rename_i e' hu; simp only [Option.some.injEq] at hse; subst hse; exact hu
    · cases hse
  split at h
  · cases h
  rename_i T hT
  split at h
  · cases h
  rename_i S ys dz ws rd hsrc
  split at h
  · cases h
  rename_i zs hcast
  obtain ⟨rfl, hzs⟩ := Q9z4 hcast
  have hzs : ys = zs := hzs
  subst hzs

  have fin : ∀ (hp1 hp2 : Nat → AObj Ty El) (inn : List Nat) (r0 : Nat) (o : AObj Ty El) (l : List (Nat × AObj Ty El)), hp2 = updH hp1 l → (∀ k ∈ ws.map (·.1), k ≠ r0 ∧ k ∉ l.map (·.1)) →
      ((ws = [] ∧ inn = [] ∧ hp1 = hp) ∨ (∃ r2 o2, hp r2 ≠ .gone ∧ o2 ≠ .gone ∧ hp1 = setH hp r2 o2 ∧ ((ws = [(r2, .out)] ∧ inn = [r2]) ∨ (ws = [(r2, o2)] ∧ inn = [])))) →
      (∀ k, k ≠ r0 → k ∈ l.map (·.1) → k ∉ inn) → outs hp2 r0 o inn = updH hp (l ++ (r0, o) :: ws) := by
    intro hp1 hp2 inn r0 o l hl hk hcase hli
    subst hl
    rw [Qdoy]
    simp only [updH]
    have key : ∀ (l : List (Nat × AObj Ty El)) (hA hB : Nat → AObj Ty El) (k : Nat), hA k = hB k ∨ k ∈ l.map (·.1) → updH hA l k = updH hB l k := by
      intro l
      induction l with
      | nil => intro hA hB k h; exact h.elim id (fun h => by simp at h)
      | cons p l ih =>
        intro hA hB k h
        obtain ⟨r, o⟩ := p
        simp only [updH]
        refine ih _ _ k ?_
        by_cases e : k = r
        · subst e; left; simp [setH]
        · rcases h with h | h
          · left; simp [setH, e, h]
          · right; simpa [e] using h
    have nokey : ∀ (l : List (Nat × AObj Ty El)) (hA : Nat → AObj Ty El) (k : Nat), k ∉ l.map (·.1) → updH hA l k = hA k := by
      intro l
      induction l with
      | nil => intro hA k _; rfl
      | cons p l ih =>
        intro hA k h
        obtain ⟨r, o⟩ := p
        simp only [List.map_cons, List.mem_cons, not_or] at h
        simp only [updH]
        rw [ih _ k h.2]; simp [setH, h.1]
    funext k
    by_cases e1 : k = r0
    · subst e1
      have h2 : k ∉ ws.map (·.1) := fun h => (hk k h).1 rfl
      rw [nokey ws _ k h2]
      simp [outs, setH]
    · rcases hcase with ⟨rfl, rfl, rfl⟩ | ⟨r2, o2, _, _, rfl, hc⟩
      · simp [outs, e1, updH, setH]
      · rcases hc with ⟨rfl, rfl⟩ | ⟨rfl, rfl⟩
        · by_cases e2 : k = r2
          · subst e2; simp [outs, e1, updH, setH]
          · simp only [outs, e1, if_false, List.mem_singleton, e2, updH]
            rw [Qte0 _ _ e2, Qte0 _ _ e1]
            exact key l (setH hp r2 o2) hp k (.inl (by simp [setH, e2]))
        · by_cases e2 : k = r2
          · subst e2
            have h3 : k ∉ l.map (·.1) := (hk k (by simp)).2
            simp only [outs, e1, if_false, List.not_mem_nil, updH]
            rw [Q3el, nokey l _ k h3, Q3el]
          · simp only [outs, e1, if_false, List.not_mem_nil, updH]
            rw [Qte0 _ _ e2, Qte0 _ _ e1]
            exact key l (setH hp r2 o2) hp k (.inl (by simp [setH, e2]))
  split at h
  ·
    simp only [Option.some.injEq] at h
    subst h
    simp only [decide_eq_true_eq] at hg
    have hvs : vs = .slice none 0 0 := by cases hs; rfl
    subst hvs
    obtain ⟨N1, hp1, inn, Gs, ax, cap, h1, h2, h3, h4⟩ := Qb3s hC hS hx hsrc (Nat.le_refl dz)
    have hkeys : ∀ k ∈ ws.map (·.1), k ≠ fresh ∧ k ∉ ([] : List (Nat × AObj Ty El)).map (·.1) := fun k hk => by
      refine ⟨fun e => ?_, by simp⟩
      subst e
      rcases h4 with ⟨e, _⟩ | ⟨r2, o2, hn, _, _, _, hc⟩
      · rw [e] at hk; simp at hk
      · rcases hc with ⟨e, _⟩ | ⟨e, _⟩ <;> rw [e] at hk <;> simp at hk <;> subst hk <;> exact hn hf
    have hinn : ∀ k ∈ inn, k ≠ fresh ∧ hp1 k ≠ .gone := fun k hk => by
      rcases h4 with ⟨_, e, _⟩ | ⟨r2, o2, hn, ho, he, _, hc⟩
      · rw [e] at hk; simp at hk
      · rcases hc with ⟨_, e⟩ | ⟨_, e⟩
        · rw [e] at hk; simp at hk; subst hk
          exact ⟨fun e => hn (e ▸ hf), by rw [he, Q3el]; exact ho⟩
        · rw [e] at hk; simp at hk
    have hf1 : hp1 fresh = .gone := by
      rcases h4 with ⟨_, _, e⟩ | ⟨r2, o2, hn, _, he, _, _⟩
      · rw [e]; exact hf
      · rw [he, Qte0 _ _ (fun e => hn (by rw [← e]; exact hf))]; exact hf
    obtain ⟨u, N', w', hrun, h5, h6⟩ := Qze0 hC h1 (ty := ty) hte hT (r := fresh) (vr := 0) (vn := 0) (us := []) (Deep.nil hC dz mskNo S) h3 hinn (.inl ⟨hf1, fun _ h => h⟩) (by simpa using hg)
    refine ⟨u, N', w', hrun, ?_, h6⟩
    have := fin hp1 hp1 inn fresh (.row S ([] ++ ys) dz (bump 0 0) (bump 0 0) .no) [] rfl hkeys (h4.imp id (fun ⟨r2, o2, x1, x2, x3, _, x4⟩ => ⟨r2, o2, x1, x2, x3, x4⟩)) (fun k _ hk => by simp at hk)
    rw [this] at h5
    simpa using h5
  · rename_i r0 p ver
    split at h
    · cases h
    rename_i hnk
    split at h
    case h_2 => cases h
    rename_i R us d vr vn hrow
    have hnk' : r0 ∉ ws.map (·.1) := by simpa using hnk
    split at h
    ·
      split at h
      case isFalse => cases h
      rename_i hver
      subst hver
      split at h
      case h_2 => cases h
      rename_i us' hcast2
      obtain ⟨rfl, hus⟩ := Q9z4 hcast2
      have hus : us = us' := hus
      subst hus
      simp only [Option.some.injEq] at h
      subst h
      simp only [decide_eq_true_eq] at hg
      obtain ⟨N1, hp1, inn, Gs, ax, cap, h1, h2, h3, h4⟩ := Qb3s hC hS hx hsrc (Nat.min_le_right d dz)
      have hrow1 : hp1 r0 = .row R us d ver vn .no := by
        rcases h4 with ⟨_, _, e⟩ | ⟨r2, o2, hn, _, he, _, hc⟩
        · rw [e]; exact hrow
        · rw [he, Qte0 _ _ (fun e => hnk' (by rcases hc with ⟨e2, _⟩ | ⟨e2, _⟩ <;> rw [e2] <;> simp [e]))]; exact hrow
      have hr0in : r0 ∉ inn := fun hk => by
        rcases h4 with ⟨_, e, _⟩ | ⟨r2, o2, _, _, _, _, hc⟩
        · rw [e] at hk; simp at hk
        · rcases hc with ⟨e1, e2⟩ | ⟨_, e2⟩
          · rw [e2] at hk; simp at hk; exact hnk' (by rw [e1]; simp [hk])
          · rw [e2] at hk; simp at hk
      obtain ⟨N2, h7, h8, h9, _, h11⟩ := h1.freeze (vn' := vn) (d' := min d dz) hC hrow1 (Nat.min_le_left _ _) (Nat.le_refl _)
      have hrow2 : setH hp1 r0 (.row R us (min d dz) ver vn .no) r0 = .row R us (min d dz) ver vn .no := Q3el _ _ _
      have h3' := h3.mono hC h8 (fun k hk => h11 k (fun e => hr0in (e ▸ hk)))
      have hinn : ∀ k ∈ inn, k ≠ r0 ∧ setH hp1 r0 (.row R us (min d dz) ver vn .no) k ≠ .gone := fun k hk => by
        have hne : k ≠ r0 := fun e => hr0in (e ▸ hk)
        refine ⟨hne, ?_⟩
        rw [Qte0 _ _ hne]
        rcases h4 with ⟨_, e, _⟩ | ⟨r2, o2, hn, ho, he, _, hc⟩
        · rw [e] at hk; simp at hk
        · rcases hc with ⟨_, e⟩ | ⟨_, e⟩
          · rw [e] at hk; simp at hk; subst hk; rw [he, Q3el]; exact ho
          · rw [e] at hk; simp at hk
      have ho := h7.hr.obj r0
      rw [hrow2] at ho
      have hvs : vs = N2.ν r0 := by
        rw [h9 r0]
        cases hs with
        | own _ _ _ _ hG =>
          have := h1.hr.reg r0 [] ver vs (h2.G _ _ _ _ hG)
          rw [hrow1] at this
          exact this.2 rfl
      obtain ⟨u, N', w', hrun, h5, h6⟩ := Qze0 hC h7 (ty := ty) hte hT (r := r0) (vr := ver) (vn := vn) (us := us) (v := vs) (by rw [hvs]; exact ho.2) h3' hinn (.inr ⟨hrow2, fun _ => Iff.rfl⟩) hg
      refine ⟨u, N', w', hrun, ?_, h6⟩
      have e2 : outs (setH hp1 r0 (.row R us (min d dz) ver vn .no)) r0 (.row R (us ++ ys) (min d dz) (bump ver vn) (bump ver vn) .no) inn = outs hp1 r0 (.row R (us ++ ys) (min d dz) (bump ver vn) (bump ver vn) .no) inn := by
        funext k
        by_cases e : k = r0
        · simp [outs, e]
        · simp [outs, e, setH]
      rw [e2, fin hp1 hp1 inn r0 _ [] rfl (fun k hk => ⟨fun e => hnk' (e ▸ hk), by simp⟩) (h4.imp id (fun ⟨r2, o2, x1, x2, x3, _, x4⟩ => ⟨r2, o2, x1, x2, x3, x4⟩)) (fun k _ hk => by simp at hk)] at h5
      simpa using h5
    ·
      rename_i hpne
      have hp0 : p ≠ [] := fun e => hpne (by rw [e])
      split at h
      case h_2 => cases h
      rename_i Q hQ
      split at h
      case h_2 => cases h
      rename_i qs us' hcast2 hset
      obtain ⟨hQT, hqs⟩ := Q9z4 hcast2
      cases Q with
      | mk QT Qxs Qd Qvn =>
      simp only at hQT hqs hset h
      subst hQT
      have hqs : Qxs = qs := hqs
      subst hqs
      simp only [Option.some.injEq] at h
      subst h
      simp only [decide_eq_true_eq] at hg
      obtain ⟨N1, hp1, inn, Gs, ax, cap, h1, h2, h3, h4⟩ := Qb3s hC hS hx hsrc (Nat.min_le_right Qd dz)
      have hG : N1.G r0 p ver vs := h2.G _ _ _ _ (by cases hs; assumption)
      have hkw : ∀ k, k ∉ ws.map (·.1) → hp1 k = hp k := fun k hk => by
        rcases h4 with ⟨_, _, e⟩ | ⟨r2, o2, hn, _, he, _, hc⟩
        · rw [e]
        · rw [he, Qte0 _ _ (fun e => hk (by rcases hc with ⟨e2, _⟩ | ⟨e2, _⟩ <;> rw [e2] <;> simp [e]))]
      have hrow1 : hp1 r0 = .row R us d vr vn .no := (hkw r0 hnk').trans hrow
      have hwsg : ∀ k ∈ ws.map (·.1), hp k ≠ .gone := fun k hk => by
        rcases h4 with ⟨e, _⟩ | ⟨r2, o2, hn, _, _, _, hc⟩
        · rw [e] at hk; simp at hk
        · rcases hc with ⟨e, _⟩ | ⟨e, _⟩ <;> rw [e] at hk <;> simp at hk <;> subst hk <;> exact hn
      have hinw : ∀ k ∈ inn, k ∈ ws.map (·.1) := fun k hk => by
        rcases h4 with ⟨_, e, _⟩ | ⟨r2, o2, hn, ho, he, _, hc⟩
        · rw [e] at hk; simp at hk
        · rcases hc with ⟨e1, e⟩ | ⟨_, e⟩
          · rw [e] at hk; rw [e1]; simpa using hk
          · rw [e] at hk; simp at hk
      have hfw : fresh ∉ ws.map (·.1) := fun hk => hwsg fresh hk hf
      have hf1 : hp1 fresh = .gone := (hkw fresh hfw).trans hf
      have hrfne : fresh ≠ r0 := fun e => by rw [e, hrow1] at hf1; cases hf1
      have hQ1 : rowAt C hp1 r0 p ver = some ⟨QT, Qxs, Qd, Qvn⟩ := by
        have : rowAt C hp1 r0 p ver = rowAt C hp r0 p ver := by unfold rowAt; rw [hrow1, hrow]
        rw [this]; exact hQ
      obtain ⟨N2, h7, h8, h9, h10, h11⟩ := h1.split hC hrow1 hp0 hQ1 hG hset hf1
      have hr0in : r0 ∉ inn := fun hk => hnk' (hinw r0 hk)
      have hfin : fresh ∉ inn := fun hk => hfw (hinw fresh hk)
      generalize hhp2 : setH (setH hp1 r0 (.row R us' d vr (bump vr vn) (.hole p))) fresh (.row QT Qxs Qd 0 0 .no) = hp2 at h7
      have hrow2 : hp2 fresh = .row QT Qxs Qd 0 0 .no := by rw [← hhp2, Q3el]
      obtain ⟨N3, h12, h13, h14, _, h15⟩ := h7.freeze (vn' := 0) (d' := min Qd dz) hC hrow2 (Nat.min_le_left _ _) (Nat.le_refl _)
      have h3' := (h3.mono hC h8 (fun k hk => h11 k (fun e => hr0in (e ▸ hk)) (fun e => hfin (e ▸ hk)))).mono hC h13 (fun k hk => h15 k (fun e => hfin (e ▸ hk)))
      have hrow3 : setH hp2 fresh (.row QT Qxs (min Qd dz) 0 0 .no) fresh = .row QT Qxs (min Qd dz) 0 0 .no := Q3el _ _ _
      have ho := h12.hr.obj fresh
      rw [hrow3] at ho
      have hvs : vs = N3.ν fresh := by rw [h14 fresh, h10]
      have hinn : ∀ k ∈ inn, k ≠ fresh ∧ setH hp2 fresh (.row QT Qxs (min Qd dz) 0 0 .no) k ≠ .gone := fun k hk => by
        have hne : k ≠ fresh := fun e => hfin (e ▸ hk)
        have hne2 : k ≠ r0 := fun e => hr0in (e ▸ hk)
        refine ⟨hne, ?_⟩
        rw [Qte0 _ _ hne, ← hhp2, Qte0 _ _ hne, Qte0 _ _ hne2]
        rcases h4 with ⟨_, e, _⟩ | ⟨r2, o2, hn, ho, he, _, hc⟩
        · rw [e] at hk; simp at hk
        · rcases hc with ⟨_, e⟩ | ⟨_, e⟩
          · rw [e] at hk; simp at hk; subst hk; rw [he, Q3el]; exact ho
          · rw [e] at hk; simp at hk
      obtain ⟨u, N', w', hrun, h5, h6⟩ := Qze0 hC h12 (ty := ty) hte hT (r := fresh) (vr := 0) (vn := 0) (us := Qxs) (v := vs) (by rw [hvs]; exact ho.2) h3' hinn (.inr ⟨hrow3, fun _ => Iff.rfl⟩) hg
      refine ⟨u, N', w', hrun, ?_, h6⟩
      have e2 : outs (setH hp2 fresh (.row QT Qxs (min Qd dz) 0 0 .no)) fresh (.row QT (Qxs ++ ys) (min Qd dz) (bump 0 0) (bump 0 0) .no) inn = outs (updH hp1 [(r0, .row R us' d vr (bump vr vn) (.hole p))]) fresh (.row QT (Qxs ++ ys) (min Qd dz) (bump 0 0) (bump 0 0) .no) inn := by
        funext k
        by_cases e : k = fresh
        · simp [outs, e]
        · simp [outs, e, setH, ← hhp2, updH]
      rw [e2, fin hp1 _ inn fresh _ [(r0, .row R us' d vr (bump vr vn) (.hole p))] rfl (fun k hk => ⟨fun e => hfw (e ▸ hk), by simp; exact fun e => hnk' (e ▸ hk)⟩) (h4.imp id (fun ⟨r2, o2, x1, x2, x3, _, x4⟩ => ⟨r2, o2, x1, x2, x3, x4⟩)) (fun k _ hk => by simp at hk; rw [hk]; exact hr0in)] at h5
      simpa using h5
  · cases h
end
end Lx
namespace Lx
open Go
section
variable {Ty : Type} {El : Ty → Type} {C : Cod Ty El} {P : Program}

theorem Qpka {N : Nm} {hp : Nat → AObj Ty El} {w : World} (hC : CodOK P C) (hH : HR C N hp w) {s d : TypeId} {v : Value} {y : AV Ty El} {r : OpRes Ty El}
  (h : (match P.underlying s,P.underlying d,y with
  | some _,some (.int k),.int _ n=>okr (.int k (k.wrap n))
  | some _,some .string,.str l=>okr (.str l)
  | some (.slice e),some .string,v=>match readA C hp v with
   | some (⟨T,xs⟩,rd)=>match C.u8 T with
    | some f=>match P.underlying e with
     | some (.int .u8)=>if Qucw P C s T then some ⟨true,.str ((xs.map f).map fun n=>UInt8.ofNat n.toNat),[],rd⟩ else none
     | _=>none
    | none=>none
   | none=>none
  | _,_,_=>none : Option (OpRes Ty El)) = some r) (hv : RepA C N w v y) : ∃ u,(convert s d v).run P w = .ok u w ∧ RepA C N w u r.v ∧ r.wr = []:=by
 split at h
 ·rename_i ds k k' n hs hd
  simp only [okr,Option.some.injEq] at h
  subst h
  rw [hv.inv_int]
  refine ⟨.int k (k.wrap n), ?_,.int _ _,rfl⟩
  unfold convert
  simp only [Sem.run_bind,run_underlying hs,run_underlying hd,Result.andThen_ok]
  rfl
 ·rename_i ds l hs hd
  simp only [okr,Option.some.injEq] at h
  subst h
  obtain ⟨sb,rfl,hl⟩:=hv.inv_str
  refine ⟨.string sb, ?_,.str _ _ hl,rfl⟩
  unfold convert
  simp only [Sem.run_bind,run_underlying hs,run_underlying hd,Result.andThen_ok]
  rfl
 ·rename_i e hs hd _
  split at h
  ·rename_i T xs rd hread
   split at h
   ·rename_i f hf
    split at h
    ·rename_i he
     split at h
     ·simp only [Option.some.injEq] at h
      subst h
      obtain ⟨a,cap,rfl,hle,hcc⟩:=Qpv0 hC hH hv hread (.inl (hC.u80 _ _ hf))
      have hsz : C.sz T = 1:=by rw [← hC.len T (C.dflt T),hC.u8 T f hf]; rfl
      rcases Nat.eq_zero_or_pos xs.length with h0 | h0
      ·have hx : xs = []:=List.eq_nil_of_length_eq_zero h0
       subst hx
       refine ⟨.string ByteArray.empty, ?_,.str _ _ rfl,rfl⟩
       rw [run_convert_bytes_string w s d e _ _ _ hs he hd]
       cases a <;> simp [Conv.bytesToString,loadCells,loadCellsFrom]
      ·obtain ⟨b,o,rfl,hcell⟩:=hcc h0
       refine ⟨.string (strOfNums (xs.map f)),run_convert_bytes_arg w s e hs he b o xs.length cap (xs.map f) (by simp) (fun i hi=>?_) d hd,.str _ _ (strOfNums_data _),rfl⟩
       have hrow:=hC.u8 T f hf (xs.getD i (C.dflt T))
       obtain ⟨u,hu,hr⟩:=hcell i 0 (.int .u8 (f (xs.getD i (C.dflt T)))) hi (by rw [hrow]; rfl)
       rw [hsz,Nat.mul_one,Nat.add_zero] at hu
       rw [hu,hr.inv_int]
       congr 2
       simp [List.getD,hi]
     ·cases h
    ·cases h
   ·cases h
  ·cases h
 ·cases h

theorem Qf8e {N : Nm} {w : World} (isMax : Bool) : ∀ (l : List Value) (as : List (AV Ty El)) (k : IntKind) (a : Int) (r : AV Ty El),l.length = as.length → (∀ (j : Nat) v c,l[j]? = some v → as[j]? = some c → RepA C N w v c) →
  foldI (if isMax then max2A else min2A) k a as = some r → ∃ n,r = .int k n ∧ (l.foldlM (if isMax then Builtin.max2 else Builtin.min2) (.int k a)).run P w = .ok (.int k n) w:=by
 intro l
 induction l with
 | nil =>
  intro as k a r hl _ h
  cases as with
  | nil=>simp only [foldI,Option.some.injEq] at h; exact ⟨a,h.symm,rfl⟩
  | cons b as=>simp at hl
 | cons v l ih =>
  intro as k a r hl hr h
  cases as with
  | nil=>simp at hl
  | cons b as =>
   have hb:=hr 0 v b rfl rfl
   cases b with
   | int k' n =>
    simp only [foldI] at h
    split at h
    ·rename_i hk
     subst hk
     obtain ⟨m,hm,hrun⟩:=ih as k _ r (by simpa using hl) (fun j v c h1 h2=>hr (j + 1) v c (by simpa using h1) (by simpa using h2)) h
     refine ⟨m,hm, ?_⟩
     rw [hb.inv_int]
     simp only [List.foldlM_cons,Sem.run_bind]
     cases isMax
     ·simp only [Bool.false_eq_true,if_false,Builtin.min2,Sem.run_pure,Result.andThen_ok] at hrun ⊢
      exact hrun
     ·simp only [if_true,Builtin.max2,Sem.run_pure,Result.andThen_ok] at hrun ⊢
      exact hrun
    ·cases h
   | _=>simp [foldI] at h

def Qko3 (P : Program) (C : Cod Ty El) (X : Cx) (o : Oper) (a : Act) (w : World) (tm : Nat → AV Ty El) (hp : Nat → AObj Ty El) (r : OpRes Ty El) : Prop :=
 ∀ (next : Act → World → Prop) (Q : Exit → Act → World → Prop),(∀ v N' w',SimN C X N' (updT X.n tm o.dst r.v) (updH hp r.wr) (a.put o.dst v) w' → next (a.put o.dst v) w') → o.wp P a w next Q

theorem Qqcy {X : Cx} {N' : Nm} {tm : Nat → AV Ty El} {hp : Nat → AObj Ty El} {a : Act} {w w' : World} {o : Oper} {r : OpRes Ty El} {v : Value} (hrun : (execOp a.eval o).run P w = .ok (.value v) w')
  (hS : SimN C X N' tm (updH hp r.wr) a w') (hv : RepA C N' w' v r.v) : Qko3 P C X o a w tm hp r :=
 fun next Q hn=>Qo7a hrun (hn v N' w' (hS.put hv o.dst))
theorem Qzaa {X : Cx} {N : Nm} {tm : Nat → AV Ty El} {hp : Nat → AObj Ty El} {a : Act} {w : World} {o : Oper} {r : OpRes Ty El} {v : Value} (hS : SimN C X N tm hp a w) (hrun : (execOp a.eval o).run P w = .ok (.value v) w)
  (hv : RepA C N w v r.v) (hw : r.wr = []) : Qko3 P C X o a w tm hp r :=
 Qqcy hrun (by rw [hw]; exact hS) hv
theorem Qssv {X : Cx} {N' : Nm} {tm : Nat → AV Ty El} {hp : Nat → AObj Ty El} {a : Act} {w w' : World} {o : Oper} {r : OpRes Ty El} (hrun : (execOp a.eval o).run P w = .ok .skip w')
  (hS : SimN C X N' tm (updH hp r.wr) a w') (hv : r.v = Qp2e) : Qko3 P C X o a w tm hp r :=
 fun next Q hn=>Q9ng hrun (hn undef N' w' (hS.put (by rw [hv]; exact .tup #[] [] rfl (fun j v c h=>by simp at h)) o.dst))

theorem Qkhf {X : Cx} {N : Nm} {tm : Nat → AV Ty El} {hp : Nat → AObj Ty El} {a : Act} {w : World} (hC : CodOK P C) (hS : SimN C X N tm hp a w) (hout : ∀ t,X.n ≤ t → tm t = .dead) {b : Builtin} {ats : Array TypeId} {args : Array Operand} {fresh : Nat} {r : OpRes Ty El} {ty : TypeId} {consts : Array Bool}
  (h : Q3m4 P C b ats (args.toList.map (evalO tm)) fresh hp = some r) (hg : r.g = true) (hf : b = .append → hp fresh = .gone) :
  ∃ u N' w',(builtin b ats ty consts (args.map a.eval)).run P w = .ok (.value u) w' ∧ SimN C X N' tm (updH hp r.wr) a w' ∧ RepA C N' w' u r.v:=by
 have hargs : ∀ (j : Nat) c,(args.toList.map (evalO tm))[j]? = some c → ∃ x,(args.map a.eval)[j]? = some (a.eval x) ∧ c = evalO tm x:=by
  intro j c hc
  rw [List.getElem?_map,Option.map_eq_some_iff] at hc
  obtain ⟨x,hx,rfl⟩:=hc
  exact ⟨x,by simp only [Array.getElem?_toList] at hx; simp [hx],rfl⟩
 have hsize : (args.map a.eval).size = (args.toList.map (evalO tm)).length:=by simp
 unfold Q3m4 at h
 split at h
 ·
  rename_i x hl
  obtain ⟨ox,ho,hxo⟩:=hargs 0 x (by rw [hl]; rfl)
  have hv:=hS.evalO hout ox
  rw [← hxo] at hv
  have hone : args.map a.eval = #[a.eval ox]:=by
   apply Array.ext'
   have hs : (args.map a.eval).toList.length = 1:=by rw [Array.length_toList,hsize,hl]; rfl
   obtain ⟨y,hy⟩:=List.length_eq_one_iff.1 hs
   rw [hy]
   rw [← Array.getElem?_toList,hy] at ho
   simp only [List.getElem?_cons_zero,Option.some.injEq] at ho
   rw [ho]
  rw [hone]
  split at h
  ·rename_i n rd t hlen hats
   have hat : ats = #[t]:=by apply Array.ext'; exact hats
   subst hat
   split at h
   ·split at h
    ·rename_i s ht
     simp only [Option.some.injEq] at h
     subst h
     obtain ⟨sb,hsb,hs⟩:=hv.inv_str
     simp only [lenA,Option.some.injEq,Prod.mk.injEq] at hlen
     obtain ⟨rfl,_⟩:=hlen
     rw [hsb]
     refine ⟨_,N,w, ?_,hS,.int .i64 _⟩
     have h1:=run_len_string (P:=P) w t ty sb (Qybp ht)
     have h2 : sb.size = s.length:=by rw [← hs]; rfl
     rw [h2] at h1
     simp only [builtin,Sem.run_bind,h1,Result.andThen_ok,Sem.run_pure]
     rfl
    ·cases h
   ·rename_i hns
    split at h
    ·rename_i ht
     simp only [Option.some.injEq] at h
     subst h
     obtain ⟨e,hte⟩:=Q4qe ht
     obtain ⟨A,m,cap,hA,rfl⟩:=Qpoo hC hS.hr hv hlen hns
     rw [hA]
     refine ⟨.int .i64 (m : Int),N,w, ?_,hS,.int .i64 _⟩
     simp [builtin,Builtin.len_,run_underlying hte,goInt]
    ·cases h
  ·cases h
 ·
  rename_i s x hl
  obtain ⟨os,hos,hso⟩:=hargs 0 s (by rw [hl]; rfl)
  obtain ⟨ox,hox,hxo⟩:=hargs 1 x (by rw [hl]; rfl)
  have hvs:=hS.evalO hout os
  have hvx:=hS.evalO hout ox
  rw [← hso] at hvs
  rw [← hxo] at hvx
  have htwo : args.map a.eval = #[a.eval os,a.eval ox]:=by
   apply Array.ext'
   have hs : (args.map a.eval).toList.length = 2:=by rw [Array.length_toList,hsize,hl]; rfl
   rw [← Array.getElem?_toList] at hos hox
   revert hs hos hox
   generalize (args.map a.eval).toList = L
   intro hos hox hs
   match L,hs with
   | [p,q],_ =>
    simp only [List.getElem?_cons_zero,List.getElem?_cons_succ,Option.some.injEq] at hos hox
    subst hos; subst hox; rfl
  rw [htwo]
  split at h
  ·rename_i t t' hats
   split at h
   ·rename_i htt
    subst htt
    have hat : ats = #[t,t]:=by apply Array.ext'; exact hats
    subst hat
    obtain ⟨u,N',w',hrun,h1,h2⟩:=Qidz (ty:=ty) hC hS hvs hvx h hg (hf rfl)
    exact ⟨u,N',w',by simp only [builtin,Sem.run_bind,hrun,Result.andThen_ok,Sem.run_pure],h1,h2⟩
   ·cases h
  ·cases h
 ·
  rename_i k n l hl
  split at h
  ·rename_i v hv
   simp only [okr,Option.some.injEq] at h
   subst h
   obtain ⟨ox,ho,hxo⟩:=hargs 0 (.int k n) (by rw [hl]; rfl)
   have hv0:=hS.evalO hout ox
   rw [← hxo] at hv0
   have hlist : ∃ rest,(args.map a.eval).toList = .int k n :: rest ∧ rest.length = l.length ∧ ∀ (j : Nat) v c,rest[j]? = some v → l[j]? = some c → RepA C N w v c:=by
    have hs : (args.map a.eval).toList.length = l.length + 1:=by rw [Array.length_toList,hsize,hl]; rfl
    cases hL : (args.map a.eval).toList with
    | nil=>rw [hL] at hs; simp at hs
    | cons p rest =>
     rw [← Array.getElem?_toList,hL] at ho
     simp only [List.getElem?_cons_zero,Option.some.injEq] at ho
     refine ⟨rest,by rw [ho,hv0.inv_int],by rw [hL] at hs; simpa using hs,fun j v c h1 h2=>?_⟩
     obtain ⟨oy,hoy,hyo⟩:=hargs (j + 1) c (by rw [hl]; simpa using h2)
     rw [← Array.getElem?_toList,hL] at hoy
     simp only [List.getElem?_cons_succ] at hoy
     rw [hoy] at h1
     simp only [Option.some.injEq] at h1
     rw [← h1,hyo]
     exact hS.evalO hout oy
   obtain ⟨rest,hL,hlen,hrep⟩:=hlist
   obtain ⟨m,rfl,hrun⟩:=Qf8e (P:=P) true rest l k n v hlen hrep hv
   refine ⟨.int k m,N,w, ?_,hS,.int _ _⟩
   simp only [if_true] at hrun
   simp only [builtin,Builtin.max_,hL,Sem.run_bind,hrun,Result.andThen_ok,Sem.run_pure]
  ·cases h
 ·
  rename_i k n l hl
  split at h
  ·rename_i v hv
   simp only [okr,Option.some.injEq] at h
   subst h
   obtain ⟨ox,ho,hxo⟩:=hargs 0 (.int k n) (by rw [hl]; rfl)
   have hv0:=hS.evalO hout ox
   rw [← hxo] at hv0
   have hlist : ∃ rest,(args.map a.eval).toList = .int k n :: rest ∧ rest.length = l.length ∧ ∀ (j : Nat) v c,rest[j]? = some v → l[j]? = some c → RepA C N w v c:=by
    have hs : (args.map a.eval).toList.length = l.length + 1:=by rw [Array.length_toList,hsize,hl]; rfl
    cases hL : (args.map a.eval).toList with
    | nil=>rw [hL] at hs; simp at hs
    | cons p rest =>
     rw [← Array.getElem?_toList,hL] at ho
     simp only [List.getElem?_cons_zero,Option.some.injEq] at ho
     refine ⟨rest,by rw [ho,hv0.inv_int],by rw [hL] at hs; simpa using hs,fun j v c h1 h2=>?_⟩
     obtain ⟨oy,hoy,hyo⟩:=hargs (j + 1) c (by rw [hl]; simpa using h2)
     rw [← Array.getElem?_toList,hL] at hoy
     simp only [List.getElem?_cons_succ] at hoy
     rw [hoy] at h1
     simp only [Option.some.injEq] at h1
     rw [← h1,hyo]
     exact hS.evalO hout oy
   obtain ⟨rest,hL,hlen,hrep⟩:=hlist
   obtain ⟨m,rfl,hrun⟩:=Qf8e (P:=P) false rest l k n v hlen hrep hv
   refine ⟨.int k m,N,w, ?_,hS,.int _ _⟩
   simp only [Bool.false_eq_true,if_false] at hrun
   simp only [builtin,Builtin.min_,hL,Sem.run_bind,hrun,Result.andThen_ok,Sem.run_pure]
  ·cases h
 ·cases h
end
end Lx
namespace Lx
open Go
section
variable {Ty : Type} {El : Ty → Type} {C : Cod Ty El} {P : Program}

theorem Qo9s {x : AV Ty El} (h : Qvgi x = true) (n : Nat) : rf (n + 1) x = true:=by
 cases x <;> first | rfl | (simp [Qvgi] at h; done)

theorem RepA.rfm (hC : CodOK P C) {N N' : Nm} {w w' : World} (hro : ∀ b,N.ro b → N'.ro b) (hw : ∀ b,N.ro b → w'.heap[b]? = w.heap[b]?) {v : Value} {x : AV Ty El} (h : RepA C N w v x) : ∀ n,rf n x = true → RepA C N' w' v x:=by
 induction h with
 | int k n=>exact fun _ _=>.int k n
 | bool b=>exact fun _ _=>.bool b
 | str s l h=>exact fun _ _=>.str s l h
 | sl0 T a cap=>exact fun _ _=>.sl0 T a cap
 | sl T xs b o n cap f hn hc hr hcell _ ih =>
  exact fun _ _=>.sl T xs b o n cap f hn hc (hro b hr) (fun i j hi hj=>(Q9r2 (hw b hr)).trans (hcell i j hi hj))
   (fun i j c hi hc=>ih i j c hi hc 1 (Qo9s (hC.cell T _ c (List.mem_of_getElem? hc)) 0))
 | nils=>exact fun _ _=>.nils
 | own r p ver v h=>intro n hn; cases n <;> simp [rf] at hn
 | view r p ver wd lo m n cap a h hb=>intro n hn; cases n <;> simp [rf] at hn
 | ptr r b off h=>intro n hn; cases n <;> simp [rf] at hn
 | eptr r p ver wd i j b n cap h hi=>intro n hn; cases n <;> simp [rf] at hn
 | rop cs b o off f hr hcell _ ih =>
  intro n hn
  cases n with
  | zero=>simp [rf] at hn
  | succ n =>
   simp only [rf,List.all_eq_true] at hn
   exact .rop cs b o off f (hro b hr) (fun j hj=>(Q9r2 (hw b hr)).trans (hcell j hj)) (fun j c hc=>ih j c hc n (hn c (List.mem_of_getElem? hc)))
 | nilp=>exact fun _ _=>.nilp
 | mapr r b h=>intro n hn; cases n <;> simp [rf] at hn
 | agg vs cs hl _ ih =>
  intro n hn
  cases n with
  | zero=>simp [rf] at hn
  | succ n=>simp only [rf,List.all_eq_true] at hn; exact .agg vs cs hl (fun j v c hv hc=>ih j v c hv hc n (hn c (List.mem_of_getElem? hc)))
 | tup vs cs hl _ ih =>
  intro n hn
  cases n with
  | zero=>simp [rf] at hn
  | succ n=>simp only [rf,List.all_eq_true] at hn; exact .tup vs cs hl (fun j v c hv hc=>ih j v c hv hc n (hn c (List.mem_of_getElem? hc)))
 | fn f vs cs hl _ ih =>
  intro n hn
  cases n with
  | zero=>simp [rf] at hn
  | succ n=>simp only [rf,List.all_eq_true] at hn; exact .fn f vs cs hl (fun j v c hv hc=>ih j v c hv hc n (hn c (List.mem_of_getElem? hc)))
 | dead v=>exact fun _ _=>.dead v

theorem RepA.closed (hC : CodOK P C) {N N' : Nm} {w w' : World} {v : Value} {x : AV Ty El} (h : RepA C N w v x) : ∀ n m,rf n x = true → noRO m x = true → RepA C N' w' v x:=by
 induction h with
 | int k n=>exact fun _ _ _ _=>.int k n
 | bool b=>exact fun _ _ _ _=>.bool b
 | str s l h=>exact fun _ _ _ _=>.str s l h
 | sl0 T a cap=>intro n m hn hm; cases m <;> simp [noRO] at hm
 | sl T xs b o n cap f hn hc hr hcell _ ih=>intro n m hn hm; cases m <;> simp [noRO] at hm
 | nils=>exact fun _ _ _ _=>.nils
 | own r p ver v h=>intro n m hn; cases n <;> simp [rf] at hn
 | view r p ver wd lo m n cap a h hb=>intro n m hn; cases n <;> simp [rf] at hn
 | ptr r b off h=>intro n m hn; cases n <;> simp [rf] at hn
 | eptr r p ver wd i j b n cap h hi=>intro n m hn; cases n <;> simp [rf] at hn
 | rop cs b o off f hr hcell _ ih=>intro n m hn hm; cases m <;> simp [noRO] at hm
 | nilp=>exact fun _ _ _ _=>.nilp
 | mapr r b h=>intro n m hn; cases n <;> simp [rf] at hn
 | agg vs cs hl _ ih =>
  intro n m hn hm
  cases n <;> cases m <;> simp only [rf,noRO,List.all_eq_true,Bool.false_eq_true] at hn hm
  exact .agg vs cs hl (fun j v c hv hc=>ih j v c hv hc _ _ (hn c (List.mem_of_getElem? hc)) (hm c (List.mem_of_getElem? hc)))
 | tup vs cs hl _ ih =>
  intro n m hn hm
  cases n <;> cases m <;> simp only [rf,noRO,List.all_eq_true,Bool.false_eq_true] at hn hm
  exact .tup vs cs hl (fun j v c hv hc=>ih j v c hv hc _ _ (hn c (List.mem_of_getElem? hc)) (hm c (List.mem_of_getElem? hc)))
 | fn f vs cs hl _ ih =>
  intro n m hn hm
  cases n <;> cases m <;> simp only [rf,noRO,List.all_eq_true,Bool.false_eq_true] at hn hm
  exact .fn f vs cs hl (fun j v c hv hc=>ih j v c hv hc _ _ (hn c (List.mem_of_getElem? hc)) (hm c (List.mem_of_getElem? hc)))
 | dead v=>exact fun _ _ _ _=>.dead v

theorem Qd6l {α β : Type} {f : α → Option β} : ∀ {l : List α} {m : List β},omap f l = some m → m.length = l.length ∧ ∀ (j : Nat) b,m[j]? = some b → ∃ a,l[j]? = some a ∧ f a = some b
 | [],m,h=>by simp only [omap,Option.some.injEq] at h; subst h; exact ⟨rfl,fun j b hb=>by simp at hb⟩
 | a :: l,m,h=>by
  simp only [omap] at h
  split at h
  ·rename_i b hb
   split at h
   ·rename_i m' hm
    simp only [Option.some.injEq] at h
    subst h
    obtain ⟨h1,h2⟩:=Qd6l hm
    refine ⟨by simp [h1],fun j c hc=>?_⟩
    cases j with
    | zero=>simp only [List.getElem?_cons_zero,Option.some.injEq] at hc; subst hc; exact ⟨a,rfl,hb⟩
    | succ j=>exact h2 j c (by simpa using hc)
   ·cases h
  ·cases h


theorem Deep.cast (hC : CodOK P C) {N N' : Nm} {w w' : World} (hro : ∀ b,N.ro b → N'.ro b) (hw0 : ∀ b,N.ro b → w'.heap[b]? = w.heap[b]?) : ∀ (d : Nat) (m : Path → Prop) (B : Nat → Prop) (v : Value) (S : Ty) (ys : List (El S)),Deep C N w d m B v S ys →
  (∀ b,B b → w'.heap[b]? = w.heap[b]?) → Deep C N' w' d m B v S ys:=by
 have flat : ∀ {u : Value} {c : AV Ty El} {F : Nat → Prop},Qvgi c = true → flatK C N w u c F → flatK C N' w' u c F:=fun hc h=>⟨h.1.rfm hC hro hw0 1 (Qo9s hc 0),h.2⟩
 have key : ∀ {K K' : Nat → Nat → Value → AV Ty El → (Nat → Prop) → Prop} {B : Nat → Prop} {v : Value} {S : Ty} {ys : List (El S)},RowD C w K B v S ys → (∀ b,B b → w'.heap[b]? = w.heap[b]?) → (∀ i j u c F,Qvgi c = true → (∀ b,F b → B b) → K i j u c F → K' i j u c F) → RowD C w' K' B v S ys:=by
  intro K K' B v S ys h hw hK
  obtain ⟨e,cells,Fs,h⟩:=h
  refine ⟨e,cells,Fs,h.ty, ?_,h.one,h.blk,h.sep0,h.sep,fun i j c hi hj=>?_⟩
  ·refine ⟨h.own.1, ?_⟩
   rcases h.own.2 with hn | ⟨g,cap,cur,hv,hg,hh,rest⟩
   ·exact .inl hn
   ·exact .inr ⟨g,cap,cur,hv,hg,(hw g ((h.blk g).2 (.inl (by simp [hv,Value.ownBlock])))).trans hh,rest⟩
  ·obtain ⟨u,hu,hk⟩:=h.cell i j c hi hj
   exact ⟨u,hu,hK i j u c _ (hC.cell _ _ c (List.mem_of_getElem? hj)) (fun b hb=>(h.blk b).2 (.inr ⟨i,j,hi,RowI.sz hC hj,hb⟩)) hk⟩
 intro d
 induction d with
 | zero=>exact fun m B v S ys h hw=>key h hw (fun i j u c F hc _ hk=>flat hc hk)
 | succ d ih =>
  refine fun m B v S ys h hw=>key h hw (fun i j u c F hc hF hk=>?_)
  cases c with
  | sl U zs=>exact hk.imp id (fun hk=>⟨hk.1,ih _ F u U zs hk.2 (fun b hb=>hw b (hF b hb))⟩)
  | _=>exact flat hc hk

theorem Deep.slR (hC : CodOK P C) {N N' : Nm} {w : World} (hro : ∀ b,N.ro b → N'.ro b) {d : Nat} {B : Nat → Prop} {v : Value} {S : Ty} {ys : List (El S)} (h : Deep C N w d mskNo B v S ys) (hB : ∀ b,B b → N'.ro b) : RepA C N' w v (.sl S ys):=by
 have h1:=Deep.sl hC (N:=N) (N':={ N with ro:=N'.ro }) ⟨fun _ _ _ _ h=>h,hro,fun _ _=>rfl⟩ d _ _ _ _ _ h (fun _ h=>h) hB
 exact RepA.rfm (N:={ N with ro:=N'.ro }) (N':=N') (w:=w) (w':=w) hC (fun b hb=>hb) (fun _ _=>rfl) h1 4 rfl

theorem RepA.sl_at (hC : CodOK P C) {N : Nm} {w : World} {v : Value} {T : Ty} {xs : List (El T)} (h : RepA C N w v (.sl T xs)) {b o n cap i : Nat} (hv : v = .slice (some ⟨b,o,none⟩) n cap) (hi : i < n) (j : Nat) :
  RepA C N w (.pointer (some ⟨b,(o + i * C.sz T) + j,none⟩)) (.rop (C.row T (xs.getD i (C.dflt T))) j):=by
 cases h with
 | sl0 T A k=>simp only [Value.slice.injEq] at hv; omega
 | sl T xs b' o' n' cap' f hn hc hro hcell hrep =>
  simp only [Value.slice.injEq,Option.some.injEq,Addr.mk.injEq,and_true] at hv
  obtain ⟨⟨rfl,rfl⟩,rfl,rfl⟩:=hv
  exact .rop _ _ _ j (fun j=>f i j) hro (fun j hj=>by rw [Nat.add_assoc]; exact hcell i j hi (by rw [hC.len] at hj; exact hj)) (fun j c hj=>hrep i j c hi hj)

theorem Q8vp (hC : CodOK P C) {N N' : Nm} {hp : Nat → AObj Ty El} {w : World} (hH : HR C N hp w) (hro : ∀ b,N.ro b → N'.ro b) {ok : Nat → Prop} (hok : ∀ r b,ok r → N.F r b → N'.ro b) :
  ∀ (n : Nat) (x y : AV Ty El) (v : Value),RepA C N w v x → lend C hp n x = some y → (∀ r ∈ Qgsz hp n x,ok r) → RepA C N' w v y:=by
 intro n
 induction n with
 | zero=>intro x y v _ h; simp [lend] at h
 | succ n ih =>
  intro x y v hv h href
  have plain : (if rf 4 x then some x else none : Option (AV Ty El)) = some y → RepA C N' w v y:=by
   intro h
   split at h
   ·rename_i hr
    simp only [Option.some.injEq] at h
    subst h
    exact hv.rfm hC hro (fun _ _=>rfl) 4 hr
   ·cases h
  have kids : ∀ (cs ds : List (AV Ty El)),omap (lend C hp n) cs = some ds → (∀ r ∈ cs.flatMap (Qgsz hp n),ok r) → ∀ (vs : Nat → Value),(∀ (j : Nat) c,cs[j]? = some c → RepA C N w (vs j) c) → ∀ (j : Nat) d,ds[j]? = some d → RepA C N' w (vs j) d:=by
   intro cs ds ho hr vs hvs j d hd
   obtain ⟨_,h2⟩:=Qd6l ho
   obtain ⟨c,hc,hcd⟩:=h2 j d hd
   exact ih c d _ (hvs j c hc) hcd (fun r hm=>hr r (List.mem_flatMap.2 ⟨c,List.mem_of_getElem? hc,hm⟩))
  have full : ∀ (r : Nat) (p : Path) (ver : Nat) (R : Row Ty El) (u : Value),ok r → rowAt C hp r p ver = some R → N.G r p ver u → RepA C N' w u (.sl R.T R.xs):=by
   intro r p ver R u hr hR hG
   obtain ⟨_,_,_,_,_,_,_,_,_,_,_,B',hB',hd⟩:=Q2c6 hC hH hR hG
   exact Deep.slR hC hro hd (fun b hb=>hok r b hr (hB' b hb))
  cases x with
  | own r p ver =>
   simp only [lend] at h
   split at h
   ·rename_i R hR
    simp only [Option.some.injEq] at h
    subst h
    cases hv with
    | own _ _ _ _ hG=>exact full r p ver R _ (href r (by simp [Qgsz])) hR hG
   ·cases h
  | view r p ver wd lo m =>
   simp only [lend] at h
   split at h
   ·rename_i R hR
    split at h
    ·rename_i hwd
     simp only [Option.some.injEq] at h
     subst h
     have hwd : wd = C.sz R.T:=hwd
     subst hwd
     cases hv with
     | view _ _ _ _ lo m nn cp aa hG hb =>
      have hsl:=full r p ver R _ (href r (by simp [Qgsz])) hR hG
      have hs:=Qnx4 hC (SlR.of_sl hC hsl) hb
      refine RepA.of_SlR hC hs fun b o k cap' hv' hk=>?_
      simp only [Value.slice.injEq] at hv'
      obtain ⟨h1,rfl,_⟩:=hv'
      obtain ⟨A,cap2,he,hle,hz,hat⟩:=Qtys hC hH hR hG
      simp only [Value.slice.injEq] at he
      obtain ⟨rfl,rfl,rfl⟩:=he
      rw [if_neg (by omega)] at h1
      cases aa with
      | none=>cases h1
      | some ad =>
       obtain ⟨b2,rfl,hF⟩:=hat ad rfl
       simp only [Option.map_some,Qimv,Option.some.injEq,Addr.mk.injEq,and_true] at h1
       rw [← h1.1]
       exact hok r b2 (href r (by simp [Qgsz])) hF
    ·cases h
   ·cases h
  | ptr r off =>
   simp only [lend] at h
   split at h
   ·rename_i cs hbox
    split at h
    ·rename_i ds hds
     simp only [Option.some.injEq] at h
     subst h
     have ho:=hH.obj r
     rw [hbox] at ho
     have hF:=ho
     obtain ⟨b,hν,hcells⟩:=Qvol ho
     obtain ⟨b0,_,_,hν0,_,_,_,_,hFb⟩:=hF
     cases hv with
     | ptr r b' off hG =>
      have hreg:=hH.reg r _ _ _ hG
      rw [hbox] at hreg
      have hν':=hreg rfl rfl
      rw [hν] at hν' hν0
      simp only [Value.pointer.injEq,Option.some.injEq,Addr.mk.injEq,and_true] at hν' hν0
      subst hν'
      have hlen:=(Qd6l hds).1
      have:=RepA.rop (C:=C) (N:=N') (w:=w) ds b' 0 off (fun j=>(w.cell? ⟨b',0 + j,none⟩).getD undef) (hok r b' (href r (by simp [Qgsz])) ((hFb b').2 hν0))
       (fun j hj=>by
        obtain ⟨u,hu,_⟩:=hcells j _ (List.getElem?_eq_getElem (by rw [← hlen]; exact hj))
        rw [hu]; rfl)
       (kids cs ds hds (fun r' hr'=>href r' (by simp only [Qgsz,hbox]; exact List.mem_cons_of_mem _ hr')) _ (fun j c hc=>by
        obtain ⟨u,hu,hr⟩:=hcells j c hc
        rw [hu]; exact hr))
      simpa using this
    ·cases h
   ·cases h
  | eptr r p ver wd i j =>
   simp only [lend] at h
   split at h
   ·rename_i R hR
    split at h
    ·rename_i hwd
     simp only [Option.some.injEq] at h
     subst h
     have hwd : wd = C.sz R.T:=hwd
     subst hwd
     cases hv with
     | eptr _ _ _ _ i j b n cap hG hi =>
      have hsl:=full r p ver R _ (href r (by simp [Qgsz])) hR hG
      have:=hsl.sl_at hC rfl hi j
      simpa using this
    ·cases h
   ·cases h
  | agg cs =>
   simp only [lend] at h
   split at h
   ·rename_i ds hds
    simp only [Option.some.injEq] at h
    subst h
    obtain ⟨vs,rfl,hl,hcs⟩:=hv.inv_agg
    have hlen:=(Qd6l hds).1
    refine .agg vs ds (by rw [hl,hlen]) fun j u d hu hd=>?_
    have:=kids cs ds hds (fun r' hr'=>href r' (by simpa only [Qgsz] using hr')) (fun j=>vs.getD j undef) (fun j c hc=>by
     have hlt : j < vs.size:=by rw [hl]; exact (List.getElem?_eq_some_iff.1 hc).1
     have hu : vs[j]? = some vs[j]:=by simp [hlt]
     have:=hcs j _ c hu hc
     simpa [Array.getD,hlt] using this) j d hd
    have hlt : j < vs.size:=(Array.getElem?_eq_some_iff.1 hu).1
    rw [Array.getElem?_eq_getElem hlt] at hu
    simp only [Option.some.injEq] at hu
    subst hu
    simpa [Array.getD,hlt] using this
   ·cases h
  | fn f cs =>
   simp only [lend] at h
   split at h
   ·rename_i ds hds
    simp only [Option.some.injEq] at h
    subst h
    cases hv with
    | fn f vs cs hl hcs =>
     have hlen:=(Qd6l hds).1
     refine .fn f vs ds (by rw [hl,hlen]) fun j u d hu hd=>?_
     have:=kids cs ds hds (fun r' hr'=>href r' (by simpa only [Qgsz] using hr')) (fun j=>vs.getD j undef) (fun j c hc=>by
      have hlt : j < vs.size:=by rw [hl]; exact (List.getElem?_eq_some_iff.1 hc).1
      have hu : vs[j]? = some vs[j]:=by simp [hlt]
      have:=hcs j _ c hu hc
      simpa [Array.getD,hlt] using this) j d hd
     have hlt : j < vs.size:=(Array.getElem?_eq_some_iff.1 hu).1
     rw [Array.getElem?_eq_getElem hlt] at hu
     simp only [Option.some.injEq] at hu
     subst hu
     simpa [Array.getD,hlt] using this
   ·cases h
  | tup cs=>simp [lend] at h
  | dead=>simp [lend] at h
  | _=>exact plain h
end
end Lx
namespace Lx
open Go
section
variable {Ty : Type} {El : Ty → Type} {C : Cod Ty El} {P : Program}

def hpOf (H : List (AObj Ty El)) : Nat → AObj Ty El := fun k => H.getD k .gone

def Qewq (P : Program) (C : Cod Ty El) (g : FuncId) (args : List (AV Ty El)) (H : List (AObj Ty El)) (res : AV Ty El) (H' : List (AObj Ty El)) : Prop :=
  ∀ (w : World) (N : Nm) (vs : Array Value), HR C N (hpOf H) w → vs.size = args.length → (∀ (j : Nat) v x, vs[j]? = some v → args[j]? = some x → RepA C N w v x) →
    Calls P g vs w fun en w' => ∃ v N', en = .returned v ∧ HR C N' (hpOf H') w' ∧ RepA C N' w' v res ∧ (∀ k, k < H.length → stays (hpOf H') k = true → N'.ν k = N.ν k) ∧
      (∀ b, N.ro b → N'.ro b) ∧ (∀ b, N'.ro b → N.ro b ∨ w.heap.size ≤ b ∨ ∃ k, N.F k b) ∧ Fr w w' (fun b => ∃ k, N.F k b) ∧
      (∀ k b, N'.F k b → w.heap.size ≤ b ∨ ∃ k', N.F k' b)

structure EntOK (P : Program) (C : Cod Ty El) (g : FuncId) (e : Ent Ty El) : Prop where
  body : ∃ fn, P.funcs[g]? = some fn ∧ (fn.name == "runtime.NumGoroutine") = false ∧ fn.body.isNone = false
  ok : ∀ args H res H', e.sum args H = some (true, res, H') → Qewq P C g args H res H'
def TabOK (P : Program) (C : Cod Ty El) (E : Tab Ty El) : Prop := ∀ g e, E.find g = some e → EntOK P C g e

theorem TabOK.nil : TabOK P C ([] : Tab Ty El) := fun g e h => by simp [Tab.find] at h
theorem TabOK.cons {g : FuncId} {e : Ent Ty El} {E : Tab Ty El} (h : EntOK P C g e) (hE : TabOK P C E) : TabOK P C ((g, e) :: E) := fun g' e' h' => by
  simp only [Tab.find] at h'
  split at h'
  · rename_i hg; simp only [Option.some.injEq] at h'; subst hg; subst h'; exact h
  · exact hE g' e' h'

inductive HandV (C : Cod Ty El) (hp : Nat → AObj Ty El) (hs : List Hnd) (nl : Bool) : AV Ty El → AV Ty El → Prop
  | lent (x y : AV Ty El) (h : lend C hp 4 x = some y) (hr : ∀ r ∈ Qgsz hp 4 x, r ∉ hs.map Hnd.r) (hn : nl = true → rf 4 x = true) : HandV C hp hs nl x y
  | own (r : Nat) (p : Path) (ver n : Nat) (R : Row Ty El) (hn : hs[n]? = some (.row r p)) (hR : rowAt C hp r p ver = some R) : HandV C hp hs nl (.own r p ver) (.own n [] 0)
  | eptr (r : Nat) (p : Path) (ver w i j n : Nat) (R : Row Ty El) (hn : hs[n]? = some (.row r p)) (hR : rowAt C hp r p ver = some R) : HandV C hp hs nl (.eptr r p ver w i j) (.eptr n [] 0 w i j)
  | ptr (r n : Nat) (cs : List (AV Ty El)) (hn : hs[n]? = some (.box r)) (hb : hp r = .box cs) : HandV C hp hs nl (.ptr r 0) (.ptr n 0)
  | agg (cs ds : List (AV Ty El)) (k : Nat) (hd : Qlqh C hp cs k = some ds) (ho : ∀ (j : Nat) h, (ownsL cs)[j]? = some h → hs[k + j]? = some h) : HandV C hp hs nl (.agg cs) (.agg ds)

theorem Qddz {r : Nat} : ∀ {l : List Hnd} {k n : Nat}, alIdx r l k = some n → k ≤ n ∧ l[n - k]? = some (.row r [])
  | [], k, n, h => by simp [alIdx] at h
  | h0 :: l, k, n, h => by
    have next : alIdx r l (k + 1) = some n → k ≤ n ∧ (h0 :: l)[n - k]? = some (.row r []) := fun h => by
      obtain ⟨h1, h2⟩ := Qddz h
      refine ⟨by omega, ?_⟩
      rw [show n - k = (n - (k + 1)) + 1 by omega, List.getElem?_cons_succ]; exact h2
    unfold alIdx at h
    split at h
    · split at h
      · rename_i r' e
        subst e
        simp only [Option.some.injEq] at h
        subst h
        simp
      · exact next h
    · exact next h

def HndOK (C : Cod Ty El) (N : Nm) (hp : Nat → AObj Ty El) : Hnd → Prop
  | .row r p => ∃ ver R u, rowAt C hp r p ver = some R ∧ N.G r p ver u
  | .box r => ∃ cs, hp r = .box cs

theorem Qi2q {N : Nm} {hp : Nat → AObj Ty El} {w : World} {vs : Nat → Value} : ∀ (cs : List (AV Ty El)) (k : Nat) (ds : List (AV Ty El)), Qlqh C hp cs k = some ds → (∀ (j : Nat) c, cs[j]? = some c → ∃ u, RepA C N w u c) → ∀ (h : Hnd), h ∈ ownsL cs → HndOK C N hp h
  | [], k, ds, _, _, h, hh => by simp [ownsL] at hh
  | c :: cs, k, ds, hc, hr, h, hh => by
    have rest : ∀ k ds, Qlqh C hp cs k = some ds → h ∈ ownsL cs → HndOK C N hp h := fun k ds h1 h2 => Qi2q (vs := vs) cs k ds h1 (fun j c hj => hr (j + 1) c (by simpa using hj)) h h2
    have other : ∀ (_ : ∀ r p v, c ≠ .own r p v), HndOK C N hp h := by
      intro hne
      have e : ownsL (c :: cs) = ownsL cs := by cases c <;> first | rfl | exact absurd rfl (hne _ _ _)
      rw [e] at hh
      have : ∃ ds', Qlqh C hp cs k = some ds' := by
        cases c <;> first | exact absurd rfl (hne _ _ _) | (simp only [Qlqh] at hc; split at hc; rename_i ds' h1; exact ⟨ds', h1⟩; cases hc)
      obtain ⟨ds', h1⟩ := this
      exact rest k ds' h1 hh
    cases c with
    | own r p ver =>
      simp only [Qlqh] at hc
      split at hc
      · rename_i R ds' hR h1
        simp only [ownsL, List.mem_cons] at hh
        rcases hh with rfl | hh
        · obtain ⟨u, hu⟩ := hr 0 _ rfl
          cases hu with
          | own _ _ _ _ hG => exact ⟨ver, R, u, hR, hG⟩
        · exact rest _ _ h1 hh
      · cases hc
    | _ => exact other (fun r p v => by simp)

theorem Qqye {hp : Nat → AObj Ty El} : ∀ (hs : List Hnd) (k : Nat) (H : List (AObj Ty El)), Qdpt C hp hs k = some H → H.length = hs.length ∧ ∀ (n : Nat) h, hs[n]? = some h → ∃ o, H[n]? = some o ∧
    ((∃ r p T xs d vr vn R, h = .row r p ∧ hp r = .row T xs d vr vn .no ∧ rowAt C hp r p (verAt p vr vn) = some R ∧ o = .row R.T R.xs (min R.d (C.hgt R.T)) 0 0 .no) ∨
     (∃ r cs ds, h = .box r ∧ hp r = .box cs ∧ Qlqh C hp cs (k + n + 1) = some ds ∧ o = .box ds))
  | [], k, H, h => by simp only [Qdpt, Option.some.injEq] at h; subst h; exact ⟨rfl, fun n h hn => by simp at hn⟩
  | h :: hs, k, H, hh => by
    simp only [Qdpt] at hh
    split at hh
    · rename_i o os ho hos
      simp only [Option.some.injEq] at hh
      subst hh
      obtain ⟨h1, h2⟩ := Qqye hs (k + 1) os hos
      refine ⟨by simp [h1], fun n h' hn => ?_⟩
      cases n with
      | zero =>
        simp only [List.getElem?_cons_zero, Option.some.injEq] at hn
        subst hn
        refine ⟨o, rfl, ?_⟩
        split at ho
        · rename_i r p
          split at ho
          · rename_i T xs d vr vn hr
            split at ho
            · rename_i R hR
              simp only [Option.some.injEq] at ho
              exact .inl ⟨r, p, T, xs, d, vr, vn, R, rfl, hr, hR, ho.symm⟩
            · cases ho
          · cases ho
        · rename_i r
          split at ho
          · rename_i cs hr
            split at ho
            · rename_i ds hds
              simp only [Option.some.injEq] at ho
              exact .inr ⟨r, cs, ds, rfl, hr, hds, ho.symm⟩
            · cases ho
          · cases ho
      | succ n =>
        obtain ⟨o', h3, h4⟩ := h2 n h' (by simpa using hn)
        exact ⟨o', by simpa using h3, by rw [show k + (n + 1) + 1 = k + 1 + n + 1 by omega]; exact h4⟩
    · cases hh

theorem Qjeq {N : Nm} {hp : Nat → AObj Ty El} {w : World} (hH : HR C N hp w) {hs : List Hnd} {H : List (AObj Ty El)} (hO : Qdpt C hp hs 0 = some H) (nl : Bool) : ∀ (args : List (AV Ty El)) (ms : List Md) (pre l suf : List Hnd) (xs : List (AV Ty El)), handL C hp ms args = some l → hs = pre ++ (l ++ suf) → Qa5i C hp hs ms args pre.length = some xs →
    Q3h4 hp (hs.map Hnd.r) ms args = true → (nl = true → Qmtv ms args = true) → (∀ x ∈ args, ∃ u, RepA C N w u x) → xs.length = args.length ∧ (∀ h ∈ l, HndOK C N hp h) ∧ (∀ n r cs, l[n]? = some (.box r) → hp r = .box cs → ∀ (j : Nat) h, (ownsL cs)[j]? = some h → l[n + 1 + j]? = some h) ∧
    ∀ (j : Nat) x, args[j]? = some x → ∃ y, xs[j]? = some y ∧ HandV C hp hs nl x y := by
  intro args
  induction args with
  | nil =>
    intro ms pre l suf xs h _ hA _ _ _
    have e1 : l = [] := by cases ms <;> simp [handL] at h <;> first | exact h | exact h.symm
    have e2 : xs = [] := by cases ms <;> simp [Qa5i] at hA <;> first | exact hA | exact hA.symm
    subst e1; subst e2
    exact ⟨rfl, fun h hh => by simp at hh, fun n r cs hn => by simp at hn, fun j x hx => by simp at hx⟩
  | cons v vs ih =>
    intro ms pre l suf xs h he hA hlo hnl hr
    have hrv := hr v (by simp)
    have hrs : ∀ x ∈ vs, ∃ u, RepA C N w u x := fun x hx => hr x (by simp [hx])

    have nohand : ∀ (ms' : List Md) (y : AV Ty El), handL C hp ms' vs = some l → Q3h4 hp (hs.map Hnd.r) ms' vs = true → (nl = true → Qmtv ms' vs = true) → HandV C hp hs nl v y → (∃ xs', Qa5i C hp hs ms' vs pre.length = some xs' ∧ xs = y :: xs') → xs.length = (v :: vs).length ∧ (∀ h ∈ l, HndOK C N hp h) ∧ (∀ n r cs, l[n]? = some (.box r) → hp r = .box cs → ∀ (j : Nat) h, (ownsL cs)[j]? = some h → l[n + 1 + j]? = some h) ∧
        ∀ (j : Nat) x, (v :: vs)[j]? = some x → ∃ y, xs[j]? = some y ∧ HandV C hp hs nl x y := by
      rintro ms' y h1 hl1 hn1 h2 ⟨xs', h3, rfl⟩
      obtain ⟨e1, e2, e3, e4⟩ := ih ms' pre l suf xs' h1 he h3 hl1 hn1 hrs
      refine ⟨by simp [e1], e2, e3, fun j x hx => ?_⟩
      cases j with
      | zero => simp only [List.getElem?_cons_zero, Option.some.injEq] at hx; subst hx; exact ⟨y, rfl, h2⟩
      | succ j => exact e4 j x (by simpa using hx)
    cases ms with
    | nil =>
      simp only [handL, Option.some.injEq] at h
      subst h
      simp only [Qa5i] at hA
      split at hA
      · rename_i y xs' hy hxs
        simp only [Option.some.injEq] at hA
        simp only [Q3h4, Bool.and_eq_true] at hlo
        simp only [Qmtv, Bool.and_eq_true] at hnl
        refine nohand [] y (by cases vs <;> rfl) hlo.2 (fun h => (hnl h).2) (.lent v y hy (fun r hr => by have := List.all_eq_true.1 hlo.1 r hr; simpa using this) (fun h => (hnl h).1)) ⟨xs', hxs, hA.symm⟩
      · cases hA
    | cons m ms =>
      simp only [handL] at h
      split at h
      · cases h
      rename_i l' hl'
      cases m with
      | ro =>
        simp only [Option.some.injEq] at h
        subst h
        simp only [Qa5i] at hA
        split at hA
        · rename_i y xs' hy hxs
          simp only [Option.some.injEq] at hA
          simp only [Q3h4, Bool.and_eq_true] at hlo
          simp only [Qmtv, Bool.and_eq_true] at hnl
          exact nohand ms y hl' hlo.2 (fun h => (hnl h).2) (.lent v y hy (fun r hr => by have := List.all_eq_true.1 hlo.1 r hr; simpa using this) (fun h => (hnl h).1)) ⟨xs', hxs, hA.symm⟩
        · cases hA
      | al =>
        simp only [Option.some.injEq] at h
        subst h
        simp only [Qa5i] at hA
        split at hA
        · rename_i r ver
          split at hA
          · rename_i R n xs' hR hn hxs
            simp only [Option.some.injEq] at hA
            have := (Qddz hn).2
            exact nohand ms _ hl' (by simpa [Q3h4] using hlo) (fun h => by simpa [Qmtv] using hnl h) (.own r [] ver n R (by simpa using this) hR) ⟨xs', hxs, hA.symm⟩
          · cases hA
        · rename_i r ver w i j
          split at hA
          · rename_i R n xs' hR hn hxs
            simp only [Option.some.injEq] at hA
            have := (Qddz hn).2
            exact nohand ms _ hl' (by simpa [Q3h4] using hlo) (fun h => by simpa [Qmtv] using hnl h) (.eptr r [] ver w i j n R (by simpa using this) hR) ⟨xs', hxs, hA.symm⟩
          · cases hA
        · cases hA
      | io =>

        have one : ∀ (h0 : Hnd) (y : AV Ty El), (∀ r, h0 ≠ .box r) → l = h0 :: l' → HndOK C N hp h0 → (hs[pre.length]? = some h0 → HandV C hp hs nl v y) → (∃ xs', Qa5i C hp hs ms vs (pre.length + 1) = some xs' ∧ xs = y :: xs') → xs.length = (v :: vs).length ∧ (∀ h ∈ l, HndOK C N hp h) ∧ (∀ n r cs, l[n]? = some (.box r) → hp r = .box cs → ∀ (j : Nat) h, (ownsL cs)[j]? = some h → l[n + 1 + j]? = some h) ∧
            ∀ (j : Nat) x, (v :: vs)[j]? = some x → ∃ y, xs[j]? = some y ∧ HandV C hp hs nl x y := by
          rintro h0 y hnb rfl h2 h3 ⟨xs', h4, rfl⟩
          have hat : hs[pre.length]? = some h0 := by rw [he]; simp
          obtain ⟨e1, e2, e3, e4⟩ := ih ms (pre ++ [h0]) l' suf xs' hl' (by rw [he]; simp) (by simpa using h4) (by simpa [Q3h4] using hlo) (fun h => by simpa [Qmtv] using hnl h) hrs
          refine ⟨by simp [e1], fun h hh => ?_, fun n r cs hn hb j h hj => ?_, fun j x hx => ?_⟩
          · simp only [List.mem_cons] at hh
            exact hh.elim (fun e => e ▸ h2) (e2 h)
          · cases n with
            | zero => simp only [List.getElem?_cons_zero, Option.some.injEq] at hn; exact absurd hn (hnb r)
            | succ n =>
              rw [show n + 1 + 1 + j = (n + 1 + j) + 1 by omega, List.getElem?_cons_succ]
              exact e3 n r cs (by simpa using hn) hb j h hj
          · cases j with
            | zero => simp only [List.getElem?_cons_zero, Option.some.injEq] at hx; subst hx; exact ⟨y, rfl, h3 hat⟩
            | succ j => exact e4 j x (by simpa using hx)
        simp only at h
        split at h
        · rename_i r p ver
          simp only [Option.some.injEq] at h
          simp only [Qa5i] at hA
          split at hA
          · rename_i R xs' hR hxs
            simp only [Option.some.injEq] at hA
            obtain ⟨u, hu⟩ := hrv
            have hG : N.G r p ver u := by cases hu; assumption
            exact one (.row r p) _ (fun r => by simp) h.symm ⟨ver, R, u, hR, hG⟩ (fun hat => .own r p ver _ R hat hR) ⟨xs', hxs, hA.symm⟩
          · cases hA
        · rename_i r p ver w i j
          simp only [Option.some.injEq] at h
          simp only [Qa5i] at hA
          split at hA
          · rename_i R xs' hR hxs
            simp only [Option.some.injEq] at hA
            obtain ⟨u, hu⟩ := hrv
            have hG : ∃ u, N.G r p ver u := by cases hu; exact ⟨_, by assumption⟩
            obtain ⟨u', hG⟩ := hG
            exact one (.row r p) _ (fun r => by simp) h.symm ⟨ver, R, u', hR, hG⟩ (fun hat => .eptr r p ver w i j _ R hat hR) ⟨xs', hxs, hA.symm⟩
          · cases hA
        · rename_i r
          split at h
          · rename_i cs hbox
            simp only [Option.some.injEq] at h
            subst h
            simp only [Qa5i, hbox] at hA
            split at hA
            · rename_i xs' hxs
              simp only [Option.some.injEq] at hA
              subst hA
              have hat : hs[pre.length]? = some (.box r) := by rw [he]; simp
              obtain ⟨e1, e2, e3, e4⟩ := ih ms (pre ++ (.box r :: ownsL cs)) l' suf xs' hl' (by rw [he]; simp) (by simp only [List.length_append, List.length_cons]; rw [show pre.length + ((ownsL cs).length + 1) = pre.length + 1 + (ownsL cs).length by omega]; exact hxs) (by simpa [Q3h4] using hlo) (fun h => by simpa [Qmtv] using hnl h) hrs
              have hown : ∀ h ∈ ownsL cs, HndOK C N hp h := by
                obtain ⟨_, hinv⟩ := Qqye hs 0 H hO
                obtain ⟨o, _, hc⟩ := hinv _ _ hat
                rcases hc with ⟨r', p', T, xs, d, vr, vn, R, e, _⟩ | ⟨r', cs', ds, e, hb', hds, _⟩
                · cases e
                · simp only [Hnd.box.injEq] at e
                  subst e
                  rw [hbox] at hb'
                  simp only [AObj.box.injEq] at hb'
                  subst hb'
                  have ho := hH.obj r
                  rw [hbox] at ho
                  obtain ⟨b, _, hcells⟩ := Qvol ho
                  exact Qi2q (w := w) (vs := fun _ => undef) cs _ ds hds (fun j c hj => by obtain ⟨u, _, hu⟩ := hcells j c hj; exact ⟨u, hu⟩)
              refine ⟨by simp [e1], fun h hh => ?_, fun n r' cs' hn hb j h hj => ?_, fun j x hx => ?_⟩
              · simp only [List.mem_cons, List.mem_append] at hh
                rcases hh with rfl | hh | hh
                · exact ⟨cs, hbox⟩
                · exact hown h hh
                · exact e2 h hh
              · cases n with
                | zero =>
                  simp only [List.getElem?_cons_zero, Option.some.injEq, Hnd.box.injEq] at hn
                  subst hn
                  rw [hbox] at hb
                  simp only [AObj.box.injEq] at hb
                  subst hb
                  rw [show 0 + 1 + j = j + 1 by omega, List.getElem?_cons_succ, List.getElem?_append_left (List.getElem?_eq_some_iff.1 hj).1]
                  exact hj
                | succ n =>
                  simp only [List.getElem?_cons_succ] at hn
                  have hnge : (ownsL cs).length ≤ n := by
                    rcases Nat.lt_or_ge n (ownsL cs).length with h1 | h1
                    · rw [List.getElem?_append_left h1] at hn
                      have : ∀ (cs : List (AV Ty El)) (r : Nat), Hnd.box r ∉ ownsL cs := by
                        intro cs
                        induction cs with
                        | nil => intro r; simp [ownsL]
                        | cons c cs ihc => intro r; cases c <;> simp [ownsL, ihc]
                      exact absurd (List.mem_of_getElem? hn) (this cs r')
                    · exact h1
                  rw [List.getElem?_append_right hnge] at hn
                  rw [show n + 1 + 1 + j = (n + 1 + j) + 1 by omega, List.getElem?_cons_succ, List.getElem?_append_right (by omega), show n + 1 + j - (ownsL cs).length = (n - (ownsL cs).length) + 1 + j by omega]
                  exact e3 _ r' cs' hn hb j h hj
              · cases j with
                | zero => simp only [List.getElem?_cons_zero, Option.some.injEq] at hx; subst hx; exact ⟨_, rfl, .ptr r pre.length cs hat hbox⟩
                | succ j => exact e4 j x (by simpa using hx)
            · cases hA
          · cases h
        · rename_i cs
          simp only [Option.some.injEq] at h
          subst h
          simp only [Qa5i] at hA
          split at hA
          · rename_i ds xs' hds hxs
            simp only [Option.some.injEq] at hA
            subst hA
            obtain ⟨e1, e2, e3, e4⟩ := ih ms (pre ++ ownsL cs) l' suf xs' hl' (by rw [he]; simp) (by simpa using hxs) (by simpa [Q3h4] using hlo) (fun h => by simpa [Qmtv] using hnl h) hrs
            have hown : ∀ h ∈ ownsL cs, HndOK C N hp h := by
              obtain ⟨u, hu⟩ := hrv
              obtain ⟨vs0, _, hsz, hh⟩ := hu.inv_agg
              exact Qi2q (w := w) (vs := fun _ => undef) cs _ ds hds (fun j c hj => by
                have hlt : j < vs0.size := by rw [hsz]; exact (List.getElem?_eq_some_iff.1 hj).1
                exact ⟨vs0[j], hh j _ c (by simp [hlt]) hj⟩)
            have hat : ∀ (j : Nat) h, (ownsL cs)[j]? = some h → hs[pre.length + j]? = some h := fun j h hj => by
              rw [he, List.getElem?_append_right (by omega), show pre.length + j - pre.length = j by omega, List.append_assoc, List.getElem?_append_left (List.getElem?_eq_some_iff.1 hj).1]
              exact hj
            refine ⟨by simp [e1], fun h hh => ?_, fun n r' cs' hn hb j h hj => ?_, fun j x hx => ?_⟩
            · simp only [List.mem_append] at hh
              exact hh.elim (hown h) (e2 h)
            · have hnge : (ownsL cs).length ≤ n := by
                rcases Nat.lt_or_ge n (ownsL cs).length with h1 | h1
                · rw [List.getElem?_append_left h1] at hn
                  have : ∀ (cs : List (AV Ty El)) (r : Nat), Hnd.box r ∉ ownsL cs := by
                    intro cs
                    induction cs with
                    | nil => intro r; simp [ownsL]
                    | cons c cs ihc => intro r; cases c <;> simp [ownsL, ihc]
                  exact absurd (List.mem_of_getElem? hn) (this cs r')
                · exact h1
              rw [List.getElem?_append_right hnge] at hn
              rw [List.getElem?_append_right (by omega), show n + 1 + j - (ownsL cs).length = (n - (ownsL cs).length) + 1 + j by omega]
              exact e3 _ r' cs' hn hb j h hj
            · cases j with
              | zero => simp only [List.getElem?_cons_zero, Option.some.injEq] at hx; subst hx; exact ⟨_, rfl, .agg cs ds pre.length hds hat⟩
              | succ j => exact e4 j x (by simpa using hx)
          · cases hA
        · cases h
end
end Lx
namespace Lx
open Go
section
variable {Ty : Type} {El : Ty → Type} {C : Cod Ty El} {P : Program}

theorem Deep.closed (hC : CodOK P C) {N N' : Nm} {w : World} : ∀ (d : Nat) (m : Path → Prop) (B : Nat → Prop) (v : Value) (S : Ty) (ys : List (El S)),C.hgt S ≤ d → Deep C N w d m B v S ys → Deep C N' w d m B v S ys:=by
 have flat : ∀ {u : Value} {c : AV Ty El} {F : Nat → Prop},Qvgi c = true → (∀ U zs,c ≠ .sl U zs) → flatK C N w u c F → flatK C N' w u c F:=fun {u c F} hc hs h=>⟨h.1.closed hC 1 1 (Qo9s hc 0) (by
  cases c <;> first | rfl | (exact absurd rfl (hs _ _)) | (simp [Qvgi] at hc; done)),h.2⟩
 intro d
 induction d with
 | zero =>
  intro m B v S ys hd h
  obtain ⟨e,cells,Fs,h⟩:=h
  refine ⟨e,cells,Fs,h.ty,h.own,h.one,h.blk,h.sep0,h.sep,fun i j c hi hj=>?_⟩
  obtain ⟨u,hu,hk⟩:=h.cell i j c hi hj
  have hm:=List.mem_of_getElem? hj
  refine ⟨u,hu,flat (hC.cell _ _ c hm) (fun U zs e=>?_) hk⟩
  subst e
  have:=hC.hgt _ _ _ _ hm; omega
 | succ d ih =>
  intro m B v S ys hd h
  obtain ⟨e,cells,Fs,h⟩:=h
  refine ⟨e,cells,Fs,h.ty,h.own,h.one,h.blk,h.sep0,h.sep,fun i j c hi hj=>?_⟩
  obtain ⟨u,hu,hk⟩:=h.cell i j c hi hj
  have hm:=List.mem_of_getElem? hj
  refine ⟨u,hu, ?_⟩
  cases c with
  | sl U zs =>
   have:=hC.hgt _ _ _ _ hm
   exact hk.imp id (fun hk=>⟨hk.1,ih _ _ _ _ _ (by omega) hk.2⟩)
  | _=>exact flat (hC.cell _ _ _ hm) (fun U zs=>by simp) hk

theorem Deep.norm (hC : CodOK P C) {N : Nm} {w : World} {d d' : Nat} {B : Nat → Prop} {v : Value} {S : Ty} {ys : List (El S)} (h : Deep C N w d mskNo B v S ys) (h1 : d' = d ∨ (C.hgt S ≤ d ∧ C.hgt S ≤ d')) : Deep C N w d' mskNo B v S ys:=by
 rcases h1 with rfl | ⟨h1,h2⟩
 ·exact h
 ·exact Deep.hgt hC _ _ _ _ _ _ _ h1 h2 (fun _ h=>h) h

theorem RepA.inv_own {N : Nm} {w : World} {u : Value} {r : Nat} {p : Path} {v : Nat} (h : RepA C N w u (.own r p v)) : N.G r p v u:=by cases h; assumption

theorem Qqk9 (hC : CodOK P C) {N N' : Nm} {w : World} {f : Nat → Option Tgt} (hf : ∀ k q u t,f k = some t → q.length ≤ t.mx → N.G k q 0 u → N'.G t.r (t.p ++ q) (verAt (t.p ++ q) t.vr t.vn) u)
  (hf0 : ∀ k t p,f k = some t → N.G k [] 0 (.pointer p) → N'.G t.r [] 0 (.pointer p)) :
  ∀ (n : Nat) (x y : AV Ty El) (v : Value),RepA C N w v x → ren f n x = some y → ((∀ b,N.ro b → N'.ro b) ∨ ∃ m,noRO m x = true) → RepA C N' w v y:=by
 intro n
 induction n with
 | zero=>intro x y v _ h; simp [ren] at h
 | succ n ih =>
  intro x y v hv h hro
  have plain : (if rf 4 x then some x else none : Option (AV Ty El)) = some y → RepA C N' w v y:=by
   intro h
   split at h
   ·rename_i hr
    simp only [Option.some.injEq] at h
    subst h
    rcases hro with hro | ⟨m,hm⟩
    ·exact hv.rfm hC hro (fun _ _=>rfl) 4 hr
    ·exact hv.closed hC 4 m hr hm
   ·cases h
  have kidsRO : ∀ cs : List (AV Ty El),((∀ b,N.ro b → N'.ro b) ∨ ∃ m,cs.all (noRO m) = true) → ∀ c ∈ cs,((∀ b,N.ro b → N'.ro b) ∨ ∃ m,noRO m c = true):=by
   intro cs h c hc
   rcases h with h | ⟨m,hm⟩
   ·exact .inl h
   ·exact .inr ⟨m,List.all_eq_true.1 hm c hc⟩
  have kids : ∀ (cs ds : List (AV Ty El)) (vs : Array Value),omap (ren f n) cs = some ds → ((∀ b,N.ro b → N'.ro b) ∨ ∃ m,cs.all (noRO m) = true) → (∀ (j : Nat) v c,vs[j]? = some v → cs[j]? = some c → RepA C N w v c) → ∀ (j : Nat) v d,vs[j]? = some v → ds[j]? = some d → RepA C N' w v d:=by
   intro cs ds vs ho hr hvs j v d hv hd
   obtain ⟨_,h2⟩:=Qd6l ho
   obtain ⟨c,hc,hcd⟩:=h2 j d hd
   exact ih c d _ (hvs j v c hv hc) hcd (kidsRO cs hr c (List.mem_of_getElem? hc))
  have sub : ∀ (cs : List (AV Ty El)),(∀ m,noRO m x = true → ∃ m',cs.all (noRO m') = true) → ((∀ b,N.ro b → N'.ro b) ∨ ∃ m,cs.all (noRO m) = true):=fun cs hs=>hro.imp id (fun ⟨m,hm⟩=>hs m hm)
  cases x with
  | own r q ver =>
   simp only [ren] at h
   split at h
   ·rename_i t hfr
    split at h
    ·rename_i hc
     simp only [Option.some.injEq] at h
     subst h
     obtain ⟨rfl,hmx⟩:=hc
     cases hv with
     | own _ _ _ _ hG=>exact .own _ _ _ _ (hf r q v t hfr hmx hG)
    ·cases h
   ·cases h
  | ptr r off =>
   simp only [ren] at h
   split at h
   ·rename_i t hfr
    simp only [Option.some.injEq] at h
    subst h
    cases hv with
    | ptr r b off hG=>exact .ptr _ b off (hf0 r t _ hfr hG)
   ·cases h
  | view r p ver wd lo m=>simp [ren] at h
  | eptr r p ver wd i j=>simp [ren] at h
  | agg cs =>
   simp only [ren] at h
   split at h
   ·rename_i ds hds
    simp only [Option.some.injEq] at h
    subst h
    cases hv with
    | agg vs cs hl hh =>
     exact .agg vs ds (by rw [hl,(Qd6l hds).1]) (kids cs ds vs hds (sub cs (fun m hm=>by cases m <;> simp only [noRO,Bool.false_eq_true] at hm; exact ⟨_,hm⟩)) hh)
   ·cases h
  | tup cs =>
   simp only [ren] at h
   split at h
   ·rename_i ds hds
    simp only [Option.some.injEq] at h
    subst h
    cases hv with
    | tup vs cs hl hh =>
     exact .tup vs ds (by rw [hl,(Qd6l hds).1]) (kids cs ds vs hds (sub cs (fun m hm=>by cases m <;> simp only [noRO,Bool.false_eq_true] at hm; exact ⟨_,hm⟩)) hh)
   ·cases h
  | fn g cs =>
   simp only [ren] at h
   split at h
   ·rename_i ds hds
    simp only [Option.some.injEq] at h
    subst h
    cases hv with
    | fn g vs cs hl hh =>
     exact .fn g vs ds (by rw [hl,(Qd6l hds).1]) (kids cs ds vs hds (sub cs (fun m hm=>by cases m <;> simp only [noRO,Bool.false_eq_true] at hm; exact ⟨_,hm⟩)) hh)
   ·cases h
  | _=>exact plain h

def HSpec (C : Cod Ty El) (N : Nm) (hp : Nat → AObj Ty El) (w : World) (U : Value) (B : Nat → Prop) : Hnd → Prop
 | .row r p=>∃ T xs d vr vn R,hp r = .row T xs d vr vn .no ∧ rowAt C hp r p (verAt p vr vn) = some R ∧ subA C T xs p = some ⟨R.T,R.xs⟩ ∧ p.length ≤ d ∧ R.d = d - p.length ∧ N.G r p (verAt p vr vn) U ∧ U.oneCell' = true ∧ hdr C w T xs (N.ν r) p = some U ∧ (∀ b,B b → N.F r b) ∧ Deep C N w R.d mskNo B U R.T R.xs ∧
   (p = [] → U = N.ν r ∧ ∀ b,N.F r b → B b) ∧
   (∀ (N' : Nm) (w' : World) (B'' : Nat → Prop) (ys' : List (El R.T)) (xs' : List (El T)),Le N N' w w' → (∀ b,N.F r b → ¬ B b → w'.heap[b]? = w.heap[b]?) → setA C T xs p R.T ys' = some xs' → Deep C N' w' (d - p.length) mskNo B'' U R.T ys' → (∀ b,B'' b → B b ∨ ¬ N.F r b) →
    Deep C N' w' d mskNo (fun b=>(N.F r b ∧ ¬ B b) ∨ B'' b) (N.ν r) T xs') ∧
   (p ≠ [] → ∀ (N' : Nm) (w' : World) (ys' : List (El R.T)) (xs' : List (El T)),Le N N' w w' → (∀ b,N.F r b → ¬ B b → w'.heap[b]? = w.heap[b]?) → setA C T xs p R.T ys' = some xs' → Deep C N' w' d (fun q=>q = p) (fun b=>N.F r b ∧ ¬ B b) (N.ν r) T xs') ∧
   (∀ (w' : World) (ys' : List (El R.T)) (xs' : List (El T)),(∀ b,N.F r b → ¬ B b → w'.heap[b]? = w.heap[b]?) → setA C T xs p R.T ys' = some xs' → hdr C w' T xs' (N.ν r) p = some U ∧ subA C T xs' p = some ⟨R.T,ys'⟩)
 | .box r=>U = N.ν r ∧ (∀ b,B b ↔ N.F r b) ∧ N.G r [] 0 U ∧ ∃ cs,hp r = .box cs

theorem HSpec.ex (hC : CodOK P C) {N : Nm} {hp : Nat → AObj Ty El} {w : World} (hH : HR C N hp w) {h : Hnd} (hk : HndOK C N hp h) : ∃ U B,HSpec C N hp w U B h:=by
 cases h with
 | box r =>
  obtain ⟨cs,hb⟩:=hk
  have hf:=hH.full r
  rw [hb] at hf
  exact ⟨N.ν r,N.F r,rfl,fun _=>Iff.rfl,hf,cs,hb⟩
 | row r p =>
  obtain ⟨ver,R,u,hR,hG⟩:=hk
  obtain ⟨T,xs,d,vr,hr,hs,hl,hd,hv⟩:=Qy3i hR
  obtain ⟨T1,xs1,d1,vr1,hr1,hs1,hl1,hd1,hh,hdeep,hroot,_⟩:=Q2c6 hC hH hR hG
  rw [hr] at hr1
  simp only [AObj.row.injEq] at hr1
  obtain ⟨rfl,e,rfl,rfl,_,_⟩:=hr1
  have e:=eq_of_heq e
  subst e
  obtain ⟨B',hB',hB0,hBn,hone,hdR,hreb,hhole,hsame⟩:=hdeep.focus hC p d _ _ _ u T R.T xs R.xs (fun _ h=>h) hl hh hs
  subst hv
  refine ⟨u,B',T,xs,d,vr,R.vn,R,hr,hR,hs,hl,hd,hG,hH.one _ _ _ _ hG,hh,hB',by rw [hd]; exact hdR,fun hp0=>⟨hroot hp0,hB0 hp0⟩,hreb,hhole,hsame⟩

def objG (C : Cod Ty El) (w : World) (ν : Value) : AObj Ty El → Path → Nat → Value → Prop
 | .box _,p,v,u=>p = [] ∧ v = 0 ∧ u = ν
 | .mp ..,p,v,u=>p = [] ∧ v = 0 ∧ u = ν
 | .row T xs d vr vn m,p,v,u=>rowG C w T xs ν d vr vn m p v u
 | _,_,_,_=>False

theorem Qr5d {w : World} {ν : Value} {o : AObj Ty El} {p : Path} {v : Nat} {u : Value} (h : objG C w ν o p v u) : refOK C w ν p v u o:=by
 cases o with
 | box cs=>exact fun _ _=>h.2.2
 | mp K V es=>exact fun _ _=>h.2.2
 | row T xs d vr vn m =>
  rcases h with ⟨rfl,rfl,rfl⟩ | ⟨h2,h3,h4,rfl,h5⟩
  ·exact ⟨Nat.le_refl _,fun _=>rfl⟩
  ·cases p with
   | nil=>exact absurd rfl h2
   | cons q p=>exact ⟨Nat.le_refl _,fun _ _ _=>h5⟩
 | gone=>exact h.elim
 | out=>trivial
theorem Q6y7 {N : Nm} {w : World} {r : Nat} {o : AObj Ty El} (h : ∀ p v u,objG C w (N.ν r) o p v u → N.G r p v u) : Qamb C N w r o:=by
 cases o with
 | box cs=>exact h _ _ _ ⟨rfl,rfl,rfl⟩
 | mp K V es=>exact h _ _ _ ⟨rfl,rfl,rfl⟩
 | row T xs d vr vn m=>exact ⟨h _ _ _ (.inl ⟨rfl,rfl,rfl⟩),fun p u h1 h2 h3 h4=>h _ _ _ (.inr ⟨h1,h2,h3,rfl,h4⟩)⟩
 | gone=>trivial
 | out=>trivial
theorem Qtc3 {N : Nm} {w : World} {r : Nat} {o : AObj Ty El} (ho : ObjOK C N w r o) {p : Path} {v : Nat} {u : Value} (h : objG C w (N.ν r) o p v u) : u.oneCell' = true:=by
 cases o with
 | box cs =>
  obtain ⟨b,_,_,hv,_⟩:=ho
  rw [h.2.2,hv]; rfl
 | mp K V es =>
  obtain ⟨b,_,_,hv,_⟩:=ho
  rw [h.2.2,hv]; rfl
 | row T xs d vr vn m =>
  rcases h with ⟨rfl,rfl,rfl⟩ | ⟨h2,h3,h4,rfl,h5⟩
  ·exact ho.1
  ·subst h4; exact Qgbe p d _ _ _ T xs u ho.2 (fun _ h=>h) ho.1 h3 h5
 | gone=>exact h.elim
 | out=>exact h.elim

def subN (C : Cod Ty El) (w : World) (H : List (AObj Ty El)) (m : Nat) (U : Nat → Value) (B : Nat → Nat → Prop) (ro : Nat → Prop) : Nm :=
 {ν:=U,F:=fun n b=>n < m ∧ B n b,G:=fun n q v u=>n < m ∧ objG C w (U n) (hpOf H n) q v u,ro:=ro }

theorem Qirx {H : List (AObj Ty El)} {n : Nat} {o : AObj Ty El} (h : H[n]? = some o) : hpOf H n = o:=by simp [hpOf,List.getD,h]

theorem Qggw {N : Nm} {hp : Nat → AObj Ty El} {w : World} {Nc : Nm} {hs : List Hnd} (hcl : ∀ v c,rf 3 c = true → RepA C N w v c → RepA C Nc w v c) (hown : ∀ n r p ver u,hs[n]? = some (.row r p) → (∃ R,rowAt C hp r p ver = some R) → N.G r p ver u → Nc.G n [] 0 u) :
  ∀ (cs : List (AV Ty El)) (k : Nat) (ds : List (AV Ty El)),Qlqh C hp cs k = some ds → (∀ (j : Nat) h,(ownsL cs)[j]? = some h → hs[k + j]? = some h) → ds.length = cs.length ∧ ∀ (vs : Nat → Value),(∀ (j : Nat) c,cs[j]? = some c → RepA C N w (vs j) c) → ∀ (j : Nat) d,ds[j]? = some d → RepA C Nc w (vs j) d
 | [],k,ds,h,_=>by simp only [Qlqh,Option.some.injEq] at h; subst h; exact ⟨rfl,fun vs _ j d hd=>by simp at hd⟩
 | c :: cs,k,ds,h,ho=>by
  have other : (∀ r p v,c ≠ .own r p v) → (match Qlqh C hp cs k with
   | some ds=>if rf 3 c then some (c :: ds) else none
   | none=>none) = some ds → ds.length = (c :: cs).length ∧ ∀ (vs : Nat → Value),(∀ (j : Nat) c',(c :: cs)[j]? = some c' → RepA C N w (vs j) c') → ∀ (j : Nat) d,ds[j]? = some d → RepA C Nc w (vs j) d:=by
   intro hne h
   split at h
   ·rename_i ds' hds
    split at h
    ·rename_i hrf
     simp only [Option.some.injEq] at h
     subst h
     have e : ownsL (c :: cs) = ownsL cs:=by cases c <;> first | rfl | exact absurd rfl (hne _ _ _)
     rw [e] at ho
     obtain ⟨h1,h2⟩:=Qggw hcl hown cs k ds' hds ho
     refine ⟨by simp [h1],fun vs hvs j d hd=>?_⟩
     cases j with
     | zero=>simp only [List.getElem?_cons_zero,Option.some.injEq] at hd; subst hd; exact hcl _ _ hrf (hvs 0 c rfl)
     | succ j=>exact h2 (fun j=>vs (j + 1)) (fun j c' hc'=>hvs (j + 1) c' (by simpa using hc')) j d (by simpa using hd)
    ·cases h
   ·cases h
  cases c with
  | own r p ver =>
   simp only [Qlqh] at h
   split at h
   ·rename_i R ds' hR hds
    simp only [Option.some.injEq] at h
    subst h
    obtain ⟨h1,h2⟩:=Qggw hcl hown cs (k + 1) ds' hds (fun j h hj=>by
     have:=ho (j + 1) h (by simpa [ownsL] using hj)
     rwa [show k + 1 + j = k + (j + 1) by omega])
    refine ⟨by simp [h1],fun vs hvs j d hd=>?_⟩
    cases j with
    | zero =>
     simp only [List.getElem?_cons_zero,Option.some.injEq] at hd
     subst hd
     have hv:=hvs 0 _ rfl
     have hat : hs[k]? = some (.row r p):=by have:=ho 0 (.row r p) (by simp [ownsL]); simpa using this
     exact .own _ _ _ _ (hown k r p ver _ hat ⟨R,hR⟩ hv.inv_own)
    | succ j=>exact h2 (fun j=>vs (j + 1)) (fun j c' hc'=>hvs (j + 1) c' (by simpa using hc')) j d (by simpa using hd)
   ·cases h
  | _=>exact other (fun _ _ _=>by simp) h

theorem HSpec.F {N : Nm} {hp : Nat → AObj Ty El} {w : World} {U : Value} {B : Nat → Prop} {h : Hnd} (hs : HSpec C N hp w U B h) : ∀ b,B b → N.F h.r b:=by
 cases h with
 | row r p=>obtain ⟨T,xs,d,vr,vn,R,_,_,_,_,_,_,_,_,h1,_⟩:=hs; exact h1
 | box r=>exact fun b hb=>(hs.2.1 b).1 hb

theorem Qeqi {r : Nat} : ∀ {l : List Nat} {k k' : Nat},l.Nodup → l[k]? = some r → l[k']? = some r → k = k'
 | [],k,k',_,h,_=>by simp at h
 | a :: l,k,k',hn,h,h'=>by
  rw [List.nodup_cons] at hn
  cases k with
  | zero =>
   cases k' with
   | zero=>rfl
   | succ k' =>
    simp only [List.getElem?_cons_zero,Option.some.injEq] at h
    subst h
    exact absurd (List.mem_of_getElem? (by simpa using h')) hn.1
  | succ k =>
   cases k' with
   | zero =>
    simp only [List.getElem?_cons_zero,Option.some.injEq] at h'
    subst h'
    exact absurd (List.mem_of_getElem? (by simpa using h)) hn.1
   | succ k'=>exact congrArg (· + 1) (Qeqi (r:=r) hn.2 (by simpa using h) (by simpa using h'))

theorem Qmf3 (hC : CodOK P C) {N : Nm} {hp : Nat → AObj Ty El} {w : World} (hH : HR C N hp w) {hs : List Hnd} (hnd : (hs.map Hnd.r).Nodup) {H : List (AObj Ty El)} (hO : Qdpt C hp hs 0 = some H) {U : Nat → Value} {B : Nat → Nat → Prop} (hS : ∀ (n : Nat) h,hs[n]? = some h → HSpec C N hp w (U n) (B n) h)
  (hbx : ∀ n r cs,hs[n]? = some (.box r) → hp r = .box cs → ∀ (j : Nat) h,(ownsL cs)[j]? = some h → hs[n + 1 + j]? = some h) {ro : Nat → Prop}
  (h1 : ∀ b,N.ro b → ro b) (h2 : ∀ b,ro b → N.ro b ∨ ∃ r,r ∉ hs.map Hnd.r ∧ N.F r b) :
  HR C (subN C w H hs.length U B ro) (hpOf H) w ∧ (∀ n r p ver u,hs[n]? = some (.row r p) → (∃ R,rowAt C hp r p ver = some R) → N.G r p ver u → u = U n ∧ (subN C w H hs.length U B ro).G n [] 0 u):=by
 obtain ⟨hlen,hinv⟩:=Qqye hs 0 H hO
 have hgone : ∀ k,hs.length ≤ k → hpOf H k = .gone:=fun k hk=>by simp [hpOf,List.getD,List.getElem?_eq_none (show H.length ≤ k by omega)]
 have hown : ∀ n r p ver u,hs[n]? = some (.row r p) → (∃ R,rowAt C hp r p ver = some R) → N.G r p ver u → u = U n ∧ (subN C w H hs.length U B ro).G n [] 0 u:=by
  intro n r p ver u hn ⟨R,hR⟩ hG
  have hsp:=hS n _ hn
  obtain ⟨T,xs,d,vr,vn,R',hr,hR',hsub,hl,hd,hGU,hone,hh,_⟩:=hsp
  obtain ⟨T1,xs1,d1,vr1,hr1,hs1,hl1,hd1,hh1,_,_,_⟩:=Q2c6 hC hH hR hG
  rw [hr] at hr1
  simp only [AObj.row.injEq] at hr1
  obtain ⟨rfl,e,_⟩:=hr1
  have e:=eq_of_heq e
  subst e
  have hu : u = U n:=by rw [hh] at hh1; exact (Option.some.inj hh1).symm
  refine ⟨hu,(List.getElem?_eq_some_iff.1 hn).1, ?_⟩
  obtain ⟨o,ho,hc⟩:=hinv n _ hn
  rw [Qirx ho]
  rcases hc with ⟨r',p',T,xs,d,vr,vn,R2,e,_,_,rfl⟩ | ⟨r',cs',ds,e,_⟩
  ·exact .inl ⟨rfl,rfl,hu⟩
  ·cases e
 have hobj : ∀ n,ObjOK C (subN C w H hs.length U B ro) w n (hpOf H n):=by
  intro n
  by_cases hn : n < hs.length
  ·have hn':=List.getElem?_eq_getElem hn
   obtain ⟨o,ho,hc⟩:=hinv n _ hn'
   rw [Qirx ho]
   have hsp:=hS n _ hn'
   rcases hc with ⟨r,p,T,xs,d,vr,vn,R,e,hr,hR,rfl⟩ | ⟨r,cs,ds,e,hb,hds,rfl⟩
   ·rw [e] at hsp
    obtain ⟨T1,xs1,d1,vr1,vn1,R1,hr1,hR1,hsub,hl,hd,hGU,hone,hh,hBF,hdeep,_⟩:=hsp
    rw [hr] at hr1
    simp only [AObj.row.injEq] at hr1
    obtain ⟨rfl,e2,rfl,rfl,rfl,_⟩:=hr1
    have e2:=eq_of_heq e2
    subst e2
    rw [hR] at hR1
    obtain rfl:=Option.some.inj hR1
    refine ⟨hone, ?_⟩
    have hcast:=Deep.cast (N':=subN C w H hs.length U B ro) hC h1 (fun _ _=>rfl) _ _ _ _ _ _ hdeep (fun _ _=>rfl)
    refine (hcast.norm hC (d':=min R.d (C.hgt R.T)) (by omega)).blkEq (fun b=>?_)
    exact ⟨fun h=>h.2,fun h=>⟨hn,h⟩⟩
   ·rw [e] at hsp
    obtain ⟨hU,hBF,hGU,cs',hb'⟩:=hsp
    have ho':=hH.obj r
    rw [hb] at ho'
    obtain ⟨b,arr,t,hv,hh,hs',hone,hcc,hF⟩:=ho'
    obtain ⟨hdl,hds'⟩:=Qggw (N:=N) (Nc:=subN C w H hs.length U B ro) (w:=w) (hs:=hs) (fun v c hrf hr=>hr.rfm hC h1 (fun _ _=>rfl) 3 hrf) (fun n r p ver u h3 h4 h5=>(hown n r p ver u h3 h4 h5).2) cs (0 + n + 1) ds hds
     (fun j h hj=>by rw [show 0 + n + 1 + j = n + 1 + j by omega]; exact hbx n r cs (by rw [hn',e]) hb j h hj)
    refine ⟨b,arr,t,by show U n = _; rw [hU]; exact hv,hh,by rw [hdl]; exact hs',hone,fun j v d hj hd=>?_,fun b'=>?_⟩
    ·have hlt : j < arr.size:=(Array.getElem?_eq_some_iff.1 hj).1
     have:=hds' (fun j=>arr.getD j undef) (fun j c hc=>by
      have hlt : j < arr.size:=by rw [hs']; exact (List.getElem?_eq_some_iff.1 hc).1
      have:=hcc j arr[j] c (by simp [hlt]) hc
      simpa [Array.getD,hlt] using this) j d hd
     rw [Array.getElem?_eq_getElem hlt] at hj
     simp only [Option.some.injEq] at hj
     subst hj
     simpa [Array.getD,hlt] using this
    ·exact ⟨fun h=>(hF b').1 ((hBF b').1 h.2),fun h=>⟨hn,(hBF b').2 ((hF b').2 h)⟩⟩
  ·rw [hgone n (by omega)]
   exact fun b hb=>hn hb.1
 refine ⟨⟨hobj,fun n q v u hg=>Qr5d hg.2,fun n=>?_,fun n q v u hg=>Qtc3 (N:=subN C w H hs.length U B ro) (hobj n) hg.2,fun n n' b hb hb'=>?_,fun n b hb hr=>?_,fun b hb=>?_⟩,hown⟩
 ·by_cases hn : n < hs.length
  ·exact Q6y7 (fun p v u h=>⟨hn,h⟩)
  ·rw [hgone n (by omega)]; trivial
 ·have hbn : n < hs.length:=hb.1
  have hbn' : n' < hs.length:=hb'.1
  have e1:=List.getElem?_eq_getElem hbn
  have e2:=List.getElem?_eq_getElem hbn'
  have:=hH.dist _ _ b ((hS n _ e1).F b hb.2) ((hS n' _ e2).F b hb'.2)
  exact Qeqi (r:=hs[n].r) hnd (by rw [List.getElem?_map,e1]; rfl) (by rw [List.getElem?_map,e2,this]; rfl)
 ·have hbn : n < hs.length:=hb.1
  have e1:=List.getElem?_eq_getElem hbn
  have hF:=(hS n _ e1).F b hb.2
  rcases h2 b hr with h3 | ⟨r,h3,h4⟩
  ·exact hH.roNot _ b hF h3
  ·have:=hH.dist _ _ b hF h4
   exact h3 (by rw [← this]; exact List.mem_map.2 ⟨hs[n],List.getElem_mem hbn,rfl⟩)
 ·rcases h2 b hb with h3 | ⟨r,_,h4⟩
  ·exact hH.roLt b h3
  ·exact (hH.obj r).lt hC h4
end
end Lx
namespace Lx
open Go
section
variable {Ty : Type} {El : Ty → Type} {C : Cod Ty El} {P : Program}

theorem Q4ee {r : Nat} : ∀ {l : List Nat} {k n : Nat},idxOf r l k = some n → k ≤ n ∧ l[n - k]? = some r
 | [],k,n,h=>by simp [idxOf] at h
 | a :: l,k,n,h=>by
  simp only [idxOf] at h
  split at h
  ·rename_i e
   simp only [Option.some.injEq] at h
   subst h; subst e
   simp
  ·obtain ⟨h1,h2⟩:=Q4ee h
   exact ⟨by omega,by rw [show n - k = (n - (k + 1)) + 1 by omega,List.getElem?_cons_succ]; exact h2⟩
theorem Qq0l {r : Nat} : ∀ {l : List Nat} {k : Nat},idxOf r l k = none → r ∉ l
 | [],_,_=>by simp
 | a :: l,k,h=>by
  simp only [idxOf] at h
  split at h
  ·cases h
  ·rename_i hne
   have:=Qq0l h
   simp only [List.mem_cons,not_or]
   exact ⟨fun e=>hne e.symm,this⟩

theorem Qbem {hp : Nat → AObj Ty El} {f : Nat → Option Tgt} : ∀ (hs : List Hnd) (H' : List (AObj Ty El)) (ws : List (Nat × AObj Ty El)) (news : List (AObj Ty El)),Qohv C hp f hs H' = some (ws,news) →
  ws.map (·.1) = hs.map Hnd.r ∧ H'.length = hs.length + news.length ∧ (∀ i,H'[hs.length + i]? = news[i]?) ∧ ∀ (k : Nat) h,hs[k]? = some h → ∃ o o',H'[k]? = some o ∧ Q9az C hp f h o = some o' ∧ ws[k]? = some (h.r,o')
 | [],H',ws,news,h=>by
  simp only [Qohv,Option.some.injEq,Prod.mk.injEq] at h
  obtain ⟨rfl,rfl⟩:=h
  exact ⟨rfl,by simp,fun i=>by simp,fun k r hk=>by simp at hk⟩
 | r :: io,[],ws,news,h=>by simp [Qohv] at h
 | r :: io,o :: H',ws,news,h=>by
  simp only [Qohv] at h
  split at h
  ·rename_i o' ho'
   split at h
   ·rename_i ws' H'' hh
    simp only [Option.some.injEq,Prod.mk.injEq] at h
    obtain ⟨rfl,rfl⟩:=h
    obtain ⟨h1,h2,h3,h4⟩:=Qbem io H' ws' H'' hh
    refine ⟨by simp [h1],by simp [h2]; omega,fun i=>?_,fun k r' hk=>?_⟩
    ·rw [List.length_cons,show io.length + 1 + i = (io.length + i) + 1 by omega,List.getElem?_cons_succ]; exact h3 i
    ·cases k with
     | zero=>simp only [List.getElem?_cons_zero,Option.some.injEq] at hk; subst hk; exact ⟨o,o',rfl,ho',rfl⟩
     | succ k=>exact h4 k r' (by simpa using hk)
   ·cases h
  ·cases h

theorem Qswq {f : Nat → Option Tgt} : ∀ (news : List (AObj Ty El)) (fresh : Nat) (ws : List (Nat × AObj Ty El)),Qhs7 f fresh news = some ws →
  ws.length = news.length ∧ ∀ (i : Nat) o,news[i]? = some o → ∃ o',Qdkg f o = some o' ∧ ws[i]? = some (fresh + i,o')
 | [],fresh,ws,h=>by
  simp only [Qhs7,Option.some.injEq] at h
  subst h
  exact ⟨rfl,fun i o ho=>by simp at ho⟩
 | o :: news,fresh,ws,h=>by
  simp only [Qhs7] at h
  split at h
  ·rename_i o' ho'
   split at h
   ·rename_i ws' hh
    simp only [Option.some.injEq] at h
    subst h
    obtain ⟨h1,h2⟩:=Qswq news (fresh + 1) ws' hh
    refine ⟨by simp [h1],fun i x hx=>?_⟩
    cases i with
    | zero=>simp only [List.getElem?_cons_zero,Option.some.injEq] at hx; subst hx; exact ⟨o',ho',rfl⟩
    | succ i =>
     obtain ⟨o'',h3,h4⟩:=h2 i x (by simpa using hx)
     exact ⟨o'',h3,by rw [List.getElem?_cons_succ,h4]; congr 2; omega⟩
   ·cases h
  ·cases h

theorem Qmrw {hp : Nat → AObj Ty El} : ∀ (ws : List (Nat × AObj Ty El)) {hp : Nat → AObj Ty El} {r : Nat},r ∉ ws.map (·.1) → updH hp ws r = hp r
 | [],_,_,_=>rfl
 | (r0,o) :: ws,hp,r,h=>by
  simp only [List.map_cons,List.mem_cons,not_or] at h
  rw [updH,Qmrw (hp:=hp) ws h.2]
  simp [setH,h.1]
theorem Q4hj : ∀ (ws : List (Nat × AObj Ty El)) {hp : Nat → AObj Ty El} {r : Nat} {o : AObj Ty El},(ws.map (·.1)).Nodup → (r,o) ∈ ws → updH hp ws r = o
 | [],_,_,_,_,h=>by simp at h
 | (r0,o0) :: ws,hp,r,o,hn,h=>by
  simp only [List.map_cons,List.nodup_cons] at hn
  rw [updH]
  simp only [List.mem_cons,Prod.mk.injEq] at h
  rcases h with ⟨rfl,rfl⟩ | h
  ·rw [Qmrw (hp:=hp) ws hn.1]; simp [setH]
  ·exact Q4hj ws hn.2 h
theorem Q83v {ws : List (Nat × AObj Ty El)} {fresh : Nat} (h : ∀ (i : Nat) p,ws[i]? = some p → p.1 = fresh + i) : (ws.map (·.1)).Nodup ∧ ∀ r ∈ ws.map (·.1),fresh ≤ r ∧ r < fresh + ws.length:=by
 have e : ws.map (·.1) = (List.range ws.length).map (fresh + ·):=by
  apply List.ext_getElem?
  intro i
  rw [List.getElem?_map,List.getElem?_map]
  by_cases hi : i < ws.length
  ·rw [List.getElem?_range hi,List.getElem?_eq_getElem hi]
   simp only [Option.map_some,Option.some.injEq]
   exact h i _ (List.getElem?_eq_getElem hi)
  ·rw [List.getElem?_eq_none (by omega),List.getElem?_eq_none (by simp; omega)]; rfl
 rw [e]
 refine ⟨List.Pairwise.map _ (fun a b hab he=>hab (Nat.add_left_cancel he)) List.nodup_range,fun r hr=>?_⟩
 simp only [List.mem_map,List.mem_range] at hr
 obtain ⟨i,hi,rfl⟩:=hr
 omega

theorem Q6ws : ∀ (p : Path) (T S S0 : Ty) (xs : List (El T)) (ys : List (El S)) (ys0 : List (El S0)) (xs' : List (El T)),setA C T xs p S ys = some xs' → subA C T xs p = some ⟨S0,ys0⟩ → S = S0
 | [],T,S,S0,xs,ys,ys0,xs',h,hs=>by
  simp only [setA] at h
  simp only [subA,Option.some.injEq,Sigma.mk.injEq] at hs
  obtain ⟨e,_⟩:=Q9z4 h
  exact e.trans hs.1
 | (i,j) :: p,T,S,S0,xs,ys,ys0,xs',h,hs=>by
  simp only [setA] at h
  simp only [subA] at hs
  split at hs
  ·rename_i U zs hc
   rw [hc] at h
   simp only at h
   split at h
   ·rename_i zs' hz
    exact Q6ws p U S S0 zs ys ys0 zs' hz hs
   ·cases h
  ·cases hs

theorem Q7b6 {hp : Nat → AObj Ty El} {f : Nat → Option Tgt} {h : Hnd} {o o' : AObj Ty El} (hb : Q9az C hp f h o = some o') :
  (∃ r T xs d vr vn S ys d',h = .row r [] ∧ hp r = .row T xs d vr vn .no ∧ o = .row S ys d' 0 0 .no ∧ o' = .row S ys d' vr (bump vr vn) .no) ∨
  (∃ r p T xs xs' d vr vn S ys d',h = .row r p ∧ p ≠ [] ∧ hp r = .row T xs d vr vn .no ∧ o = .row S ys d' 0 0 .no ∧ min (d - p.length) (C.hgt S) ≤ d' ∧ d' ≤ d - p.length ∧ setA C T xs p S ys = some xs' ∧ o' = .row T xs' d vr (bump vr vn) .no) ∨
  (∃ r,h = .row r [] ∧ (∃ T xs d vr vn,hp r = .row T xs d vr vn .no) ∧ o = .out ∧ o' = .out) ∨
  (∃ r p T xs xs' d vr vn s,h = .row r p ∧ p ≠ [] ∧ hp r = .row T xs d vr vn .no ∧ o = .out ∧ subA C T xs p = some s ∧ setA C T xs p s.1 [] = some xs' ∧ o' = .row T xs' d vr (bump vr vn) (.hole p)) ∨
  (∃ r cs0 cs ds,h = .box r ∧ hp r = .box cs0 ∧ o = .box cs ∧ omap (ren f 3) cs = some ds ∧ o' = .box ds):=by
 unfold Q9az at hb
 split at hb
 ·rename_i r p
  split at hb
  ·rename_i T xs d vr vn hr
   split at hb
   ·rename_i S ys d'
    split at hb
    ·simp only [Option.some.injEq] at hb
     exact .inl ⟨r,T,xs,d,vr,vn,S,ys,d',rfl,hr,rfl,hb.symm⟩
    ·rename_i hp0
     split at hb
     ·rename_i hc
      split at hb
      ·rename_i xs' hset
       simp only [Option.some.injEq] at hb
       exact .inr (.inl ⟨r,p,T,xs,xs',d,vr,vn,S,ys,d',rfl,fun e=>hp0 e,hr,rfl,hc.1,hc.2,hset,hb.symm⟩)
      ·cases hb
     ·cases hb
   ·split at hb
    ·simp only [Option.some.injEq] at hb
     exact .inr (.inr (.inl ⟨r,rfl,⟨T,xs,d,vr,vn,hr⟩,rfl,hb.symm⟩))
    ·rename_i q p
     split at hb
     ·rename_i s hs
      split at hb
      ·rename_i xs' hset
       simp only [Option.some.injEq] at hb
       exact .inr (.inr (.inr (.inl ⟨r,q :: p,T,xs,xs',d,vr,vn,s,rfl,by simp,hr,rfl,hs,hset,hb.symm⟩)))
      ·cases hb
     ·cases hb
   ·cases hb
  ·cases hb
 ·rename_i r
  split at hb
  ·rename_i cs0 cs hr
   split at hb
   ·rename_i ds hds
    simp only [Option.some.injEq] at hb
    exact .inr (.inr (.inr (.inr ⟨r,cs0,cs,ds,rfl,hr,rfl,hds,hb.symm⟩)))
   ·cases hb
  ·cases hb

theorem Qs65 {hp : Nat → AObj Ty El} {hs : List Hnd} {H' : List (AObj Ty El)} {fresh k : Nat} {t : Tgt} (h : backF hp hs H' fresh k = some t) :
  (∃ S,∃ ys : List (El S),∃ d r p T,∃ xs : List (El T),∃ d0 vr vn m,H'[k]? = some (.row S ys d 0 0 .no) ∧ hs[k]? = some (.row r p) ∧ hp r = .row T xs d0 vr vn m ∧ t = ⟨r,p,vr,bump vr vn,d⟩) ∨
  (∃ S,∃ ys : List (El S),∃ d,H'[k]? = some (.row S ys d 0 0 .no) ∧ hs.length ≤ k ∧ t = ⟨fresh + (k - hs.length),[],0,0,d⟩) ∨
  (∃ cs r,H'[k]? = some (.box cs) ∧ hs[k]? = some (.box r) ∧ t = ⟨r,[],0,0,0⟩) ∨
  (∃ cs,H'[k]? = some (.box cs) ∧ hs.length ≤ k ∧ t = ⟨fresh + (k - hs.length),[],0,0,0⟩):=by
 unfold backF at h
 split at h
 ·rename_i S ys d ho
  split at h
  ·split at h
   ·rename_i r p hk
    split at h
    ·rename_i T xs d0 vr vn m hr
     simp only [Option.some.injEq] at h
     exact .inl ⟨S,ys,d,r,p,T,xs,d0,vr,vn,m,ho,hk,hr,h.symm⟩
    ·cases h
   ·cases h
  ·rename_i hk
   simp only [Option.some.injEq] at h
   exact .inr (.inl ⟨S,ys,d,ho,by omega,h.symm⟩)
 ·rename_i cs ho
  split at h
  ·split at h
   ·rename_i r hk
    simp only [Option.some.injEq] at h
    exact .inr (.inr (.inl ⟨cs,r,ho,hk,h.symm⟩))
   ·cases h
  ·rename_i hk
   simp only [Option.some.injEq] at h
   exact .inr (.inr (.inr ⟨cs,ho,by omega,h.symm⟩))
 ·cases h
end
end Lx
namespace Lx
open Go
section
variable {Ty : Type} {El : Ty → Type} {C : Cod Ty El} {P : Program}

def backN (C : Cod Ty El) (N N' : Nm) (w w' : World) (rs : List Nat) (fresh K : Nat) (B : Nat → Nat → Prop) (hpc : Nat → AObj Ty El) : Nm :=
  let ν : Nat → Value := fun r => if fresh ≤ r ∧ r < fresh + K then N'.ν (rs.length + (r - fresh)) else N.ν r
  { ν := ν
    F := fun r b => if fresh ≤ r ∧ r < fresh + K then N'.F (rs.length + (r - fresh)) b else match idxOf r rs 0 with
      | some n => (N.F r b ∧ ¬ B n b) ∨ N'.F n b
      | none => N.F r b
    G := fun r p v u => N.G r p v u ∨ ((r ∈ rs ∨ (fresh ≤ r ∧ r < fresh + K)) ∧ objG C w' (ν r) (hpc r) p v u)
    ro := fun b => N.ro b ∨ (N'.ro b ∧ (w.heap.size ≤ b ∨ ∃ n, n < rs.length ∧ B n b)) }

theorem Q0ua (hC : CodOK P C) {E : Tab Ty El} (hE : TabOK P C E) {X : Cx} {N : Nm} {tm : Nat → AV Ty El} {hp : Nat → AObj Ty El} {a : Act} {w : World} (hS : SimN C X N tm hp a w) {g : FuncId} {args : List (AV Ty El)} {fresh : Nat} {r : OpRes Ty El} {vs : Array Value}
    (h : callA C E g args fresh hp = some r) (hg : r.g = true) (hfr : ∀ e, E.find g = some e → ∀ k, k < e.need → hp (fresh + k) = .gone)
    (hsz : vs.size = args.length) (hvs : ∀ (j : Nat) v x, vs[j]? = some v → args[j]? = some x → RepA C N w v x) :
    Calls P g vs w fun en w' => ∃ v N', en = .returned v ∧ SimN C X N' tm (updH hp r.wr) a w' ∧ RepA C N' w' v r.v := by
  unfold callA at h
  split at h
  · cases h
  rename_i e he
  split at h
  · cases h
  rename_i hs hhL
  split at h
  case h_2 => cases h
  rename_i xs H hxs hO
  split at h
  · cases h
  rename_i c res H' hsum
  split at h
  case h_2 => cases h
  rename_i ws news v hback hren
  split at h
  case h_2 => cases h
  rename_i ws' hnew
  split at h
  case isFalse => cases h
  rename_i hcond
  obtain ⟨hneed, hnd0, hlent, hro⟩ := hcond
  simp only [Option.some.injEq] at h
  subst h
  simp only at hg
  subst hg
  have hnd := Qpqi hnd0
  have hargEx : ∀ x ∈ args, ∃ u, RepA C N w u x := fun x hx => by
    obtain ⟨j, hj⟩ := List.getElem?_of_mem hx
    have hlt : j < vs.size := by rw [hsz]; exact (List.getElem?_eq_some_iff.1 hj).1
    exact ⟨vs[j], hvs j _ x (by simp [hlt]) hj⟩
  obtain ⟨hxl, hHok, hbx, hHV⟩ := Qjeq hS.hr hO (Qmtv e.mode args) args e.mode [] hs [] xs hhL (by simp) hxs hlent (fun h => h) hargEx
  have hEnt := hE g e he
  have hfresh := hfr e he
  have exUB : ∀ n : Nat, ∃ UB : Value × (Nat → Prop), ∀ h, hs[n]? = some h → HSpec C N hp w UB.1 UB.2 h := by
    intro n
    cases hn : hs[n]? with
    | none => exact ⟨(undef, fun _ => False), fun h hh => by cases hh⟩
    | some h =>
      obtain ⟨U, B, hUB⟩ := HSpec.ex hC hS.hr (hHok h (List.mem_of_getElem? hn))
      exact ⟨(U, B), fun h' hh => by rw [Option.some.inj hh] at hUB; exact hUB⟩
  let U : Nat → Value := fun n => (Classical.choose (exUB n)).1
  let B : Nat → Nat → Prop := fun n => (Classical.choose (exUB n)).2
  have hSp : ∀ (n : Nat) h, hs[n]? = some h → HSpec C N hp w (U n) (B n) h := fun n => Classical.choose_spec (exUB n)
  let roS : Nat → Prop := fun b => N.ro b ∨ ((Qmtv e.mode args) = false ∧ ∃ r, r ∉ hs.map Hnd.r ∧ N.F r b)
  obtain ⟨hHs, hown⟩ := Qmf3 hC hS.hr hnd hO hSp hbx (ro := roS) (fun b hb => .inl hb) (fun b hb => hb.imp id (fun h => h.2))
  obtain ⟨hHl, hHinv⟩ := Qqye hs 0 H hO
  have hargS : ∀ (j : Nat) u y, vs[j]? = some u → xs[j]? = some y → RepA C (subN C w H hs.length U B roS) w u y := by
    intro j u y hu hy
    have hj : j < args.length := by rw [← hxl]; exact (List.getElem?_eq_some_iff.1 hy).1
    obtain ⟨y', hy', hh⟩ := hHV j args[j] (List.getElem?_eq_getElem hj)
    rw [hy] at hy'; simp only [Option.some.injEq] at hy'; subst hy'
    have hrx := hvs j u args[j] hu (List.getElem?_eq_getElem hj)
    generalize args[j] = x at hh hrx
    cases hh with
    | lent x y hl hrefs hn =>
      by_cases hall : Qmtv e.mode args = true
      · refine Q8vp hC hS.hr (N' := subN C w H hs.length U B roS) (fun b hb => Or.inl hb) (ok := fun r => False) (fun r b hok => hok.elim) 4 x y u hrx hl (fun r hr => ?_)
        have none : ∀ (n : Nat) (x : AV Ty El), rf n x = true → Qgsz hp n x = [] := by
          intro n
          induction n with
          | zero => intro x hx; simp [rf] at hx
          | succ n ih =>
            intro x hx
            cases x <;> simp only [rf, Qgsz, Bool.false_eq_true] at hx ⊢
            all_goals
              simp only [List.all_eq_true] at hx
              exact List.flatMap_eq_nil_iff.2 fun c hc => ih c (hx c hc)
        rw [none 4 _ (hn hall)] at hr
        simp at hr
      · exact Q8vp hC hS.hr (N' := subN C w H hs.length U B roS) (fun b hb => Or.inl hb) (ok := fun r => r ∉ hs.map Hnd.r) (fun r b hok hb => Or.inr ⟨by simpa using hall, r, hok, hb⟩) 4 x y u hrx hl hrefs
    | own r p ver n R hn hR => exact .own _ _ _ _ (hown n r p ver u hn ⟨R, hR⟩ hrx.inv_own).2
    | eptr r p ver wd i j n R hn hR =>
      cases hrx with
      | eptr _ _ _ _ _ _ b nn cap hG hi => exact .eptr n [] 0 wd i j b nn cap (hown n r p ver _ hn ⟨R, hR⟩ hG).2 hi
    | ptr r n cs hn hb =>
      cases hrx with
      | ptr r b off hG =>
        obtain ⟨hU, _, hGU, _⟩ := hSp n _ hn
        have hreg := hS.hr.reg r _ _ _ hG
        rw [hb] at hreg
        have hν := hreg rfl rfl
        refine .ptr n b 0 ⟨(List.getElem?_eq_some_iff.1 hn).1, ?_⟩
        obtain ⟨o, ho, hc⟩ := hHinv n _ hn
        rw [Qirx ho]
        rcases hc with ⟨r', p', T, xs, d, vr, vn, R2, e, _⟩ | ⟨r', cs', ds, e, _, _, rfl⟩
        · cases e
        · exact ⟨rfl, rfl, by rw [hν]; exact hU.symm⟩
    | agg cs ds k hd ho =>
      obtain ⟨vs0, rfl, hsz0, hh0⟩ := hrx.inv_agg
      obtain ⟨hdl, hds'⟩ := Qggw (N := N) (Nc := subN C w H hs.length U B roS) (w := w) (hs := hs) (fun v c hrf hr => RepA.rfm (N' := subN C w H hs.length U B roS) hC (fun b hb => Or.inl hb) (fun _ _ => rfl) hr 3 hrf) (fun n r p ver u h3 h4 h5 => (hown n r p ver u h3 h4 h5).2) cs k ds hd ho
      refine .agg vs0 ds (by rw [hdl]; exact hsz0) (fun j v d hj hd' => ?_)
      have hlt : j < vs0.size := (Array.getElem?_eq_some_iff.1 hj).1
      have := hds' (fun j => vs0.getD j undef) (fun j c hc => by
        have hlt : j < vs0.size := by rw [hsz0]; exact (List.getElem?_eq_some_iff.1 hc).1
        have := hh0 j vs0[j] c (by simp [hlt]) hc
        simpa [Array.getD, hlt] using this) j d hd'
      rw [Array.getElem?_eq_getElem hlt] at hj
      simp only [Option.some.injEq] at hj
      subst hj
      simpa [Array.getD, hlt] using this
  refine (hEnt.ok xs H res H' hsum w _ vs hHs (by rw [hsz, hxl]) hargS).mono ?_
  rintro en w' ⟨u, N', rfl, hH', hu, hio, hroI, hroO, hfr', hF'⟩
  obtain ⟨hb1, hb2, hb3, hb4⟩ := Qbem hs H' ws news hback
  obtain ⟨hn1, hn2⟩ := Qswq news fresh ws' hnew
  have hgoneF : ∀ i, i < news.length → hp (fresh + i) = .gone := fun i hi => hfresh i (by omega)
  have hrsl : (hs.map Hnd.r).length = hs.length := by simp
  have hrsAt : ∀ (n : Nat) (h : Hnd), hs[n]? = some h → (hs.map Hnd.r)[n]? = some h.r := fun n h hn => by rw [List.getElem?_map, hn]; rfl
  have hrsInv : ∀ r, r ∈ hs.map Hnd.r → ∃ (n : Nat) (h : Hnd), hs[n]? = some h ∧ h.r = r := fun r hr => by
    obtain ⟨n, hn⟩ := List.getElem?_of_mem hr
    rw [List.getElem?_map, Option.map_eq_some_iff] at hn
    obtain ⟨h, h1, h2⟩ := hn
    exact ⟨n, h, h1, h2⟩
  have hrsNe : ∀ r, r ∈ hs.map Hnd.r → hp r ≠ .gone := fun r hr => by
    obtain ⟨n, h, h1, rfl⟩ := hrsInv r hr
    have := hSp n h h1
    cases h with
    | row r p => obtain ⟨T, xs, d, vr, vn, R, hr, _⟩ := this; show hp r ≠ _; rw [hr]; simp
    | box r => obtain ⟨_, _, _, cs, hr⟩ := this; show hp r ≠ _; rw [hr]; simp
  have hrsOld : ∀ r, r ∈ hs.map Hnd.r → ¬ (fresh ≤ r ∧ r < fresh + news.length) := by
    intro r hr hnew'
    refine hrsNe r hr ?_
    have := hgoneF (r - fresh) (by omega)
    rwa [show fresh + (r - fresh) = r by omega] at this
  obtain ⟨hnd', hkeys'⟩ := Q83v (ws := ws') (fresh := fresh) (fun i p hp' => by
    have hi : i < news.length := by rw [← hn1]; exact (List.getElem?_eq_some_iff.1 hp').1
    obtain ⟨o', _, h2⟩ := hn2 i _ (List.getElem?_eq_getElem hi)
    rw [hp'] at h2; simp only [Option.some.injEq] at h2; rw [h2])
  rw [hn1] at hkeys'
  have hkeysNd : ((ws ++ ws').map (·.1)).Nodup := by
    rw [List.map_append, List.nodup_append, hb1]
    exact ⟨hnd, hnd', fun x hx y hy hxy => by subst hxy; exact hrsOld x hx (hkeys' x hy)⟩
  have hpcIo : ∀ (n : Nat) (h : Hnd), hs[n]? = some h → ∃ o o', H'[n]? = some o ∧ Q9az C hp (backF hp hs H' fresh) h o = some o' ∧ updH hp (ws ++ ws') h.r = o' := by
    intro n h hn
    obtain ⟨o, o', h1, h2, h3⟩ := hb4 n h hn
    exact ⟨o, o', h1, h2, Q4hj _ hkeysNd (List.mem_append_left _ (List.mem_of_getElem? h3))⟩
  have hpcNew : ∀ i, i < news.length → ∃ o o', H'[hs.length + i]? = some o ∧ Qdkg (backF hp hs H' fresh) o = some o' ∧ updH hp (ws ++ ws') (fresh + i) = o' := by
    intro i hi
    obtain ⟨o', h2, h3⟩ := hn2 i _ (List.getElem?_eq_getElem hi)
    exact ⟨news[i], o', by rw [hb3]; exact List.getElem?_eq_getElem hi, h2, Q4hj _ hkeysNd (List.mem_append_right _ (List.mem_of_getElem? h3))⟩
  have hpcOld : ∀ r, r ∉ hs.map Hnd.r → ¬ (fresh ≤ r ∧ r < fresh + news.length) → updH hp (ws ++ ws') r = hp r := by
    intro r h1 h2
    refine Qmrw (hp := hp) _ ?_
    rw [List.map_append, List.mem_append, hb1]
    exact fun h => h.elim h1 (fun h => h2 (hkeys' r h))
  generalize hpcE : updH hp (ws ++ ws') = hpc at hpcIo hpcNew hpcOld
  generalize hNc : backN C N N' w w' (hs.map Hnd.r) fresh news.length B hpc = Nc
  have cν : ∀ r, Nc.ν r = if fresh ≤ r ∧ r < fresh + news.length then N'.ν (hs.length + (r - fresh)) else N.ν r := fun r => by rw [← hNc]; simp [backN]
  have cνo : ∀ r, ¬ (fresh ≤ r ∧ r < fresh + news.length) → Nc.ν r = N.ν r := fun r h => by rw [cν, if_neg h]
  have cνn : ∀ i, i < news.length → Nc.ν (fresh + i) = N'.ν (hs.length + i) := fun i hi => by rw [cν, if_pos (by omega), show fresh + i - fresh = i by omega]
  have cFh : ∀ (n : Nat) (h : Hnd), hs[n]? = some h → ∀ b, Nc.F h.r b ↔ (N.F h.r b ∧ ¬ B n b) ∨ N'.F n b := fun n h hn b => by
    have hmem : h.r ∈ hs.map Hnd.r := List.mem_of_getElem? (hrsAt n h hn)
    have hidx : idxOf h.r (hs.map Hnd.r) 0 = some n := by
      cases hi : idxOf h.r (hs.map Hnd.r) 0 with
      | none => exact absurd hmem (Qq0l hi)
      | some n' =>
        have e := Qeqi (r := h.r) hnd (by simpa using (Q4ee hi).2) (hrsAt n h hn)
        rw [e]
    rw [← hNc]
    simp only [backN]
    rw [if_neg (hrsOld _ hmem), hidx]
  have cFn : ∀ i, i < news.length → ∀ b, Nc.F (fresh + i) b ↔ N'.F (hs.length + i) b := fun i hi b => by
    rw [← hNc]
    simp only [backN]
    rw [if_pos (by omega), show fresh + i - fresh = i by omega, hrsl]
  have cFo : ∀ r, r ∉ hs.map Hnd.r → ¬ (fresh ≤ r ∧ r < fresh + news.length) → ∀ b, Nc.F r b ↔ N.F r b := fun r h1 h2 b => by
    have hidx : idxOf r (hs.map Hnd.r) 0 = none := by
      cases hi : idxOf r (hs.map Hnd.r) 0 with
      | none => rfl
      | some n' => exact absurd (List.mem_of_getElem? (Q4ee hi).2) h1
    rw [← hNc]
    simp only [backN]
    rw [if_neg h2, hidx]
  have cG : ∀ r p v u, Nc.G r p v u ↔ N.G r p v u ∨ ((r ∈ hs.map Hnd.r ∨ (fresh ≤ r ∧ r < fresh + news.length)) ∧ objG C w' (Nc.ν r) (hpc r) p v u) := fun r p v u => by rw [← hNc]; rfl
  have cro : ∀ b, Nc.ro b ↔ N.ro b ∨ (N'.ro b ∧ (w.heap.size ≤ b ∨ ∃ n, n < hs.length ∧ B n b)) := fun b => by rw [← hNc]; simp [backN]

  have Blt : ∀ (n : Nat) b, n < hs.length → B n b → b < w.heap.size ∧ ∃ h : Hnd, hs[n]? = some h ∧ N.F h.r b := fun n b hn hb => by
    have h1 := List.getElem?_eq_getElem hn
    have := (hSp n _ h1).F b hb
    exact ⟨(hS.hr.obj _).lt hC this, hs[n], h1, this⟩
  have mineB : ∀ b, (∃ k, (subN C w H hs.length U B roS).F k b) ↔ ∃ n, n < hs.length ∧ B n b := fun b => Iff.rfl
  have keep : ∀ b, b < w.heap.size → (∀ n, n < hs.length → ¬ B n b) → w'.heap[b]? = w.heap[b]? := fun b hb hn => hfr'.block b hb (fun ⟨k, hk⟩ => hn k hk.1 hk.2)
  have backLt : ∀ n b, N'.F n b → w.heap.size ≤ b ∨ ∃ k, k < hs.length ∧ B k b := fun n b hb => hF' n b hb
  have roKeep : ∀ b, N.ro b → w'.heap[b]? = w.heap[b]? := fun b hb => keep b (hS.hr.roLt b hb) (fun n hn hB => by
    obtain ⟨_, h, _, hF⟩ := Blt n b hn hB
    exact hS.hr.roNot _ b hF hb)
  have hL : Le N Nc w w' := ⟨fun r p v u h => (cG r p v u).2 (.inl h), fun b h => (cro b).2 (.inl h), roKeep⟩
  have hroC : Qmtv e.mode args = true → ∀ b, N'.ro b → Nc.ro b := by
    intro hall b hb
    rw [cro]
    rcases hroO b hb with (h1 | ⟨h1, _⟩) | h1
    · exact .inl h1
    · rw [hall] at h1; cases h1
    · exact .inr ⟨hb, h1⟩
  have closedOf : ∀ o, o ∈ H' → Qmtv e.mode args = true ∨ Q8y6 C o = true := by
    intro o ho
    rcases hro with h1 | h1
    · exact .inl h1
    · simp only [Bool.and_eq_true, List.all_eq_true] at h1
      exact .inr (h1.2 o ho)
  have deepBack : ∀ S (ys : List (El S)) d (Bx : Nat → Prop) vv, Qmtv e.mode args = true ∨ Q8y6 C (AObj.row S ys d 0 0 .no) = true → Deep C N' w' d mskNo Bx vv S ys → Deep C Nc w' d mskNo Bx vv S ys := by
    intro S ys d Bx vv hc hd
    rcases hc with hc | hc
    · exact Deep.cast hC (hroC hc) (fun _ _ => rfl) _ _ _ _ _ _ hd (fun _ _ => rfl)
    · exact Deep.closed hC d _ _ _ _ _ (by simpa [Q8y6] using hc) hd
  have atH' : ∀ (k : Nat) o, H'[k]? = some o → hpOf H' k = o := fun k o ho => Qirx ho
  have rowSame : ∀ (n : Nat) h S ys d', hs[n]? = some h → H'[n]? = some (.row S ys d' 0 0 .no) → N'.ν n = U n := by
    intro n h S ys d' hn ho
    have hlt : n < H.length := by rw [hHl]; exact (List.getElem?_eq_some_iff.1 hn).1
    exact hio n hlt (by simp [stays, atH' n _ ho])
  have boxSame : ∀ (n : Nat) h cs, hs[n]? = some h → H'[n]? = some (.box cs) → N'.ν n = U n := by
    intro n h cs hn ho
    have hlt : n < H.length := by rw [hHl]; exact (List.getElem?_eq_some_iff.1 hn).1
    exact hio n hlt (by simp [stays, atH' n _ ho])

  have lenH : ∀ k o, H'[k]? = some o → k < hs.length + news.length := fun k o ho => by rw [← hb2]; exact (List.getElem?_eq_some_iff.1 ho).1
  have sliceNe : ∀ (d : Nat) (m : Path → Prop) (Bx : Nat → Prop) (vv : Value) (S : Ty) (ys : List (El S)) (p : Option Addr), Deep C N' w' d m Bx vv S ys → vv ≠ .pointer p := fun d m Bx vv S ys p hd e => by
    obtain ⟨a, cap, hv, _⟩ := hd.head
    rw [hv] at e; cases e
  have keepF : ∀ (n : Nat) (h : Hnd), hs[n]? = some h → ∀ b, N.F h.r b → ¬ B n b → w'.heap[b]? = w.heap[b]? := fun n h hn b hb hnb => keep b ((hS.hr.obj _).lt hC hb) (fun k hk hB => by
    obtain ⟨_, h', hn', hF⟩ := Blt k b hk hB
    have e := hS.hr.dist _ _ b hF hb
    have e2 := Qeqi (r := h.r) hnd (by rw [← e]; exact hrsAt k h' hn') (hrsAt n h hn)
    exact hnb (e2 ▸ hB))

  have renF : ∀ k q u t, backF hp hs H' fresh k = some t → q.length ≤ t.mx → N'.G k q 0 u → Nc.G t.r (t.p ++ q) (verAt (t.p ++ q) t.vr t.vn) u := by
    intro k q u t hf hmx hG
    have hreg := hH'.reg k q 0 u hG
    rcases Qs65 hf with ⟨S, ys, d, r, p, T, xs, d0, vr, vn, m, ho, hk, hr, rfl⟩ | ⟨S, ys, d, ho, hk, rfl⟩ | ⟨cs, r, ho, hk, rfl⟩ | ⟨cs, ho, hk, rfl⟩
    · rw [atH' k _ ho] at hreg
      have hν := rowSame k _ S ys d hk ho
      obtain ⟨T1, xs1, d1, vr1, vn1, R1, hr1, hR1, hsub, hl, hd, hGU, hone, hh, hBF, hdeep, hroot, hreb, hhole, hsame⟩ := hSp k _ hk
      obtain ⟨o, o', ho2, hbk, hpc'⟩ := hpcIo k _ hk
      rw [ho] at ho2
      obtain rfl := Option.some.inj ho2
      have hnew := hrsOld r (List.mem_of_getElem? (hrsAt k _ hk))
      have hmem : r ∈ hs.map Hnd.r := List.mem_of_getElem? (hrsAt k _ hk)
      rw [hr] at hr1
      simp only [AObj.row.injEq] at hr1
      obtain ⟨rfl, e, rfl, rfl, rfl, rfl⟩ := hr1
      have e := eq_of_heq e
      subst e
      rcases Q7b6 hbk with ⟨r2, T2, xs2, d2, vr2, vn2, S2, ys2, d2', e1, e2, e3, rfl⟩ | ⟨r2, p2, T2, xs2, xs2', d2, vr2, vn2, S2, ys2, d2', e1, hp0, e2, e3, hm1, hm2, hset, rfl⟩ | ⟨_, _, _, e3, _⟩ | ⟨_, _, _, _, _, _, _, _, _, _, _, _, e3, _⟩ | ⟨_, _, _, _, _, _, e3, _⟩
      · simp only [Hnd.row.injEq] at e1
        obtain ⟨rfl, rfl⟩ := e1
        rw [hr] at e2
        simp only [AObj.row.injEq] at e2
        obtain ⟨rfl, e, rfl, rfl, rfl, _⟩ := e2
        have e := eq_of_heq e
        subst e
        simp only [AObj.row.injEq] at e3
        obtain ⟨rfl, e, rfl, _⟩ := e3
        have e := eq_of_heq e
        subst e
        rw [List.nil_append]
        have hpc2 : hpc r = .row S ys d vr (bump vr vn) .no := hpc'
        rw [cG, hpc2]
        refine .inr ⟨.inl hmem, ?_⟩
        have hνr : Nc.ν r = N'.ν k := by rw [cνo r hnew, hν]; exact (hroot rfl).1.symm
        rw [hνr]
        cases q with
        | nil => exact .inl ⟨rfl, rfl, hreg.2 rfl⟩
        | cons q0 q => exact .inr ⟨by simp, hmx, rfl, rfl, hreg.2 rfl rfl hmx⟩
      · simp only [Hnd.row.injEq] at e1
        obtain ⟨rfl, rfl⟩ := e1
        rw [hr] at e2
        simp only [AObj.row.injEq] at e2
        obtain ⟨rfl, e, rfl, rfl, rfl, _⟩ := e2
        have e := eq_of_heq e
        subst e
        simp only [AObj.row.injEq] at e3
        obtain ⟨rfl, e, rfl, _⟩ := e3
        have e := eq_of_heq e
        subst e
        have hpc2 : hpc r = .row T xs2' d0 vr (bump vr vn) .no := hpc'
        have hST := Q6ws p T S R1.T xs ys R1.xs xs2' hset hsub
        subst hST
        obtain ⟨e5, e6⟩ := hsame w' ys xs2' (keepF k _ hk) hset
        rw [cG, hpc2]
        refine .inr ⟨.inl hmem, .inr ⟨by simp [hp0], by simp only [List.length_append]; simp only at hmx; omega, rfl, ?_, ?_⟩⟩
        · cases p with
          | nil => exact absurd rfl hp0
          | cons p0 p => rfl
        · rw [cνo r hnew, Qif0 p q T R1.T xs2' ys _ _ e5 e6]
          cases q with
          | nil => rw [hreg.2 rfl, hν]; cases U k <;> rfl
          | cons q0 q => have := hreg.2 rfl rfl hmx; rwa [hν] at this
      · cases e3
      · cases e3
      · cases e3
    · rw [atH' k _ ho] at hreg
      have hi : k - hs.length < news.length := by have := lenH k _ ho; omega
      obtain ⟨o, o', ho2, hren', hpc'⟩ := hpcNew (k - hs.length) hi
      rw [show hs.length + (k - hs.length) = k by omega, ho] at ho2
      obtain rfl := Option.some.inj ho2
      simp only [Qdkg, Option.some.injEq] at hren'
      rw [List.nil_append, cG, hpc', ← hren', cνn _ hi, show hs.length + (k - hs.length) = k by omega]
      refine .inr ⟨.inr ⟨by simp, by simp only; omega⟩, ?_⟩
      cases q with
      | nil => exact .inl ⟨rfl, rfl, hreg.2 rfl⟩
      | cons q0 q => exact .inr ⟨by simp, hmx, rfl, rfl, hreg.2 rfl rfl hmx⟩
    · rw [atH' k _ ho] at hreg
      have hq : q = [] := List.eq_nil_of_length_eq_zero (by simpa using hmx)
      subst hq
      have hν := boxSame k _ cs hk ho
      obtain ⟨hU, hBF, hGU, _⟩ := hSp k _ hk
      rw [List.nil_append, hreg rfl rfl, hν]
      exact (cG _ _ _ _).2 (.inl hGU)
    · rw [atH' k _ ho] at hreg
      have hq : q = [] := List.eq_nil_of_length_eq_zero (by simpa using hmx)
      subst hq
      have hi : k - hs.length < news.length := by have := lenH k _ ho; omega
      obtain ⟨o, o', ho2, hren', hpc'⟩ := hpcNew (k - hs.length) hi
      rw [show hs.length + (k - hs.length) = k by omega, ho] at ho2
      obtain rfl := Option.some.inj ho2
      simp only [Qdkg] at hren'
      split at hren'
      · rename_i ds hds
        simp only [Option.some.injEq] at hren'
        rw [List.nil_append, cG, hpc', ← hren', cνn _ hi, show hs.length + (k - hs.length) = k by omega]
        exact .inr ⟨.inr ⟨by simp, by simp only; omega⟩, rfl, rfl, hreg rfl rfl⟩
      · cases hren'
  have renF0 : ∀ k t p, backF hp hs H' fresh k = some t → N'.G k [] 0 (.pointer p) → Nc.G t.r [] 0 (.pointer p) := by
    intro k t p hf hG
    have h1 := renF k [] _ t hf (Nat.zero_le _) hG
    have hreg := hH'.reg k [] 0 _ hG
    have hobj := hH'.obj k
    rcases Qs65 hf with ⟨S, ys, d, r, p, T, xs, d0, vr, vn, m, ho, hk, hr, rfl⟩ | ⟨S, ys, d, ho, hk, rfl⟩ | ⟨cs, r, ho, hk, rfl⟩ | ⟨cs, ho, hk, rfl⟩
    · rw [atH' k _ ho] at hreg hobj
      exact absurd (hreg.2 rfl).symm (sliceNe _ _ _ _ _ _ _ hobj.2)
    · rw [atH' k _ ho] at hreg hobj
      exact absurd (hreg.2 rfl).symm (sliceNe _ _ _ _ _ _ _ hobj.2)
    · exact h1
    · exact h1
  have Qv4t : ∀ (cs ds : List (AV Ty El)), Qmtv e.mode args = true ∨ Q8y6 C (AObj.box cs) = true → omap (ren (backF hp hs H' fresh) 3) cs = some ds → ds.length = cs.length ∧ ∀ (j : Nat) v c d, cs[j]? = some c → RepA C N' w' v c → ds[j]? = some d → RepA C Nc w' v d := by
    intro cs ds hcl hds
    obtain ⟨h1, h2⟩ := Qd6l hds
    refine ⟨h1, fun j v c d hc hv hd => ?_⟩
    obtain ⟨c', hc', hcd⟩ := h2 j d hd
    rw [hc] at hc'
    obtain rfl := Option.some.inj hc'
    refine Qqk9 hC renF renF0 3 c d v hv hcd ?_
    rcases hcl with h5 | h5
    · exact .inl (hroC h5)
    · exact .inr ⟨3, List.all_eq_true.1 h5 c (List.mem_of_getElem? hc)⟩

  have objH : ∀ (n : Nat) (h : Hnd), hs[n]? = some h → ObjOK C Nc w' h.r (hpc h.r) ∧ (∀ p v u, N.G h.r p v u → refOK C w' (Nc.ν h.r) p v u (hpc h.r)) ∧ hpc h.r ≠ .gone ∧ (stays hpc h.r = true → stays hp h.r = true) := by
    intro n h hn
    obtain ⟨o, o', ho, hbk, hpc'⟩ := hpcIo n h hn
    have hmem : h.r ∈ hs.map Hnd.r := List.mem_of_getElem? (hrsAt n h hn)
    have hνr := cνo h.r (hrsOld h.r hmem)
    have hobj := hH'.obj n
    rw [atH' n o ho] at hobj
    have hcl := closedOf o (List.mem_of_getElem? ho)
    have hold := fun p v u => hS.hr.reg h.r p v u
    have hsp := hSp n h hn
    have hst : stays hpc h.r = stays (fun _ => o') 0 := by unfold stays; rw [hpc']
    rw [hpc', hνr]
    rcases Q7b6 hbk with ⟨r, T, xs, d, vr, vn, S, ys, d', rfl, hr, rfl, rfl⟩ | ⟨r, p, T, xs, xs', d, vr, vn, S, ys, d', rfl, hp0, hr, rfl, hm1, hm2, hset, rfl⟩ | ⟨r, rfl, ⟨T, xs, d, vr, vn, hr⟩, rfl, rfl⟩ | ⟨r, p, T, xs, xs', d, vr, vn, s, rfl, hp0, hr, rfl, hs2, hset, rfl⟩ | ⟨r, cs0, cs, ds, rfl, hr, rfl, hds, rfl⟩
    · have hν := rowSame n _ S ys d' hn ho
      obtain ⟨T1, xs1, d1, vr1, vn1, R1, hr1, hR1, hsub, hl, hd, hGU, hone, hh, hBF, hdeep, hroot, hreb, hhole, hsame⟩ := hsp
      have hb := Qqck vr vn
      refine ⟨⟨?_, ?_⟩, fun p v u hg => ?_, by simp, fun h => ?_⟩
      · have := hobj.1
        rw [hν, (hroot rfl).1] at this
        rw [hνr]; exact this
      · have := deepBack S ys d' _ _ hcl hobj.2
        rw [hν, (hroot rfl).1] at this
        rw [hνr]
        refine this.blkEq (fun b => ?_)
        rw [cFh n _ hn b]
        exact ⟨fun h => h.elim (fun h => absurd ((hroot rfl).2 b h.1) h.2) id, .inr⟩
      · have := hold p v u hg
        simp only [Hnd.r] at this
        rw [hr] at this
        cases p with
        | nil => exact this
        | cons q p => exact ⟨by have := this.1; omega, fun _ e => by have := this.1; omega⟩
      · rw [hst] at h
        simp only [stays] at h
        simp only [Hnd.r, stays, hr]
        exact h
    · have hν := rowSame n _ S ys d' hn ho
      obtain ⟨T1, xs1, d1, vr1, vn1, R1, hr1, hR1, hsub, hl, hd, hGU, hone, hh, hBF, hdeep, hroot, hreb, hhole, hsame⟩ := hsp
      rw [hr] at hr1
      simp only [AObj.row.injEq] at hr1
      obtain ⟨rfl, e, rfl, rfl, rfl, _⟩ := hr1
      have e := eq_of_heq e
      subst e
      have hST := Q6ws p T S R1.T xs ys R1.xs xs' hset hsub
      subst hST
      have hb := Qqck vr vn
      have hor := hS.hr.obj r
      rw [hr] at hor
      refine ⟨⟨?_, ?_⟩, fun q v u hg => ?_, by simp, fun h => ?_⟩
      · rw [hνr]; exact hor.1
      · rw [hνr]
        have hd1 := deepBack R1.T ys d' _ _ hcl hobj.2
        rw [hν] at hd1
        have hd2 := hd1.norm hC (d' := d - p.length) (by omega)
        have := hreb Nc w' (N'.F n) ys xs' hL (keepF n _ hn) hset hd2 (fun b hb => by
          rcases backLt n b hb with h1 | ⟨k, hk, hB⟩
          · exact .inr (fun hF => by have := (hS.hr.obj r).lt hC hF; omega)
          · by_cases hBn : B n b
            · exact .inl hBn
            · refine .inr (fun hF => hBn ?_)
              obtain ⟨_, h', hn', hF'⟩ := Blt k b hk hB
              have e := hS.hr.dist _ _ b hF' hF
              have e2 := Qeqi (r := r) hnd (by rw [← e]; exact hrsAt k h' hn') (hrsAt n _ hn)
              exact e2 ▸ hB)
        exact this.blkEq (cFh n _ hn)
      · have := hold q v u hg
        simp only [Hnd.r] at this
        rw [hr] at this
        cases q with
        | nil => exact this
        | cons q0 q => exact ⟨by have := this.1; omega, fun _ e => by have := this.1; omega⟩
      · rw [hst] at h
        simp only [stays] at h
        simp only [Hnd.r, stays, hr]
        exact h
    · obtain ⟨T1, xs1, d1, vr1, vn1, R1, hr1, hR1, hsub, hl, hd, hGU, hone, hh, hBF, hdeep, hroot, hreb, hhole, hsame⟩ := hsp
      refine ⟨fun b hb => ?_, fun p v u _ => trivial, by simp, fun h => ?_⟩
      · rcases (cFh n _ hn b).1 hb with h1 | h1
        · exact h1.2 ((hroot rfl).2 b h1.1)
        · exact hobj b h1
      · rw [hst] at h; simp [stays] at h
    · obtain ⟨T1, xs1, d1, vr1, vn1, R1, hr1, hR1, hsub, hl, hd, hGU, hone, hh, hBF, hdeep, hroot, hreb, hhole, hsame⟩ := hsp
      rw [hr] at hr1
      simp only [AObj.row.injEq] at hr1
      obtain ⟨rfl, e, rfl, rfl, rfl, _⟩ := hr1
      have e := eq_of_heq e
      subst e
      rw [hsub] at hs2
      simp only [Option.some.injEq] at hs2
      subst hs2
      have hb := Qqck vr vn
      have hor := hS.hr.obj r
      rw [hr] at hor
      refine ⟨⟨?_, ?_⟩, fun q v u hg => ?_, by simp, fun h => ?_⟩
      · rw [hνr]; exact hor.1
      · rw [hνr]
        have := hhole hp0 Nc w' [] xs' hL (keepF n _ hn) hset
        refine this.blkEq (fun b => ?_)
        rw [cFh n _ hn b]
        exact ⟨fun h => h.elim id (fun h => absurd h (hobj b)), .inl⟩
      · have := hold q v u hg
        simp only [Hnd.r] at this
        rw [hr] at this
        cases q with
        | nil => exact this
        | cons q0 q => exact ⟨by have := this.1; omega, fun e => by cases e⟩
      · rw [hst] at h
        simp only [stays] at h
        simp only [Hnd.r, stays, hr]
        exact h
    · have hν := boxSame n _ cs hn ho
      obtain ⟨hU, hBF, hGU, _⟩ := hsp
      obtain ⟨b, arr, t, hv, hh, hsz', hone, hcc, hFb⟩ := hobj
      obtain ⟨hdl, hdc⟩ := Qv4t cs ds hcl hds
      refine ⟨⟨b, arr, t, ?_, hh, by rw [hdl]; exact hsz', hone, fun j v d hj hd => ?_, fun b' => ?_⟩, fun q v u hg => ?_, by simp, fun _ => ?_⟩
      · rw [hνr]; rw [hν, hU] at hv; exact hv
      · have hlt : j < cs.length := by rw [← hdl]; exact (List.getElem?_eq_some_iff.1 hd).1
        exact hdc j v _ d (List.getElem?_eq_getElem hlt) (hcc j v _ hj (List.getElem?_eq_getElem hlt)) hd
      · rw [cFh n _ hn b']
        exact ⟨fun h => h.elim (fun h => absurd ((hBF b').2 h.1) h.2) (fun h => (hFb b').1 h), fun h => .inr ((hFb b').2 h)⟩
      · have := hold q v u hg
        simp only [Hnd.r] at this
        rw [hr] at this
        exact this
      · simp [Hnd.r, stays, hr]
  have objNew : ∀ i, i < news.length → ObjOK C Nc w' (fresh + i) (hpc (fresh + i)) ∧ hpc (fresh + i) ≠ .gone := by
    intro i hi
    obtain ⟨o, o', ho, hro', hpc'⟩ := hpcNew i hi
    have hobj := hH'.obj (hs.length + i)
    rw [atH' _ o ho] at hobj
    have hcl := closedOf o (List.mem_of_getElem? ho)
    rw [hpc']
    have hνn := cνn i hi
    unfold Qdkg at hro'
    split at hro'
    · rename_i cs
      split at hro'
      · rename_i ds hds
        simp only [Option.some.injEq] at hro'
        subst hro'
        obtain ⟨b, arr, t, hv, hh, hsz', hone, hcc, hFb⟩ := hobj
        obtain ⟨hdl, hdc⟩ := Qv4t cs ds hcl hds
        refine ⟨⟨b, arr, t, by rw [hνn]; exact hv, hh, by rw [hdl]; exact hsz', hone, fun j v d hj hd => ?_, fun b' => (cFn i hi b').trans (hFb b')⟩, by simp⟩
        have hlt : j < cs.length := by rw [← hdl]; exact (List.getElem?_eq_some_iff.1 hd).1
        exact hdc j v _ d (List.getElem?_eq_getElem hlt) (hcc j v _ hj (List.getElem?_eq_getElem hlt)) hd
      · cases hro'
    · rename_i S ys d
      simp only [Option.some.injEq] at hro'
      subst hro'
      refine ⟨⟨by rw [hνn]; exact hobj.1, ?_⟩, by simp⟩
      rw [hνn]
      exact (deepBack S ys d _ _ hcl hobj.2).blkEq (cFn i hi)
    · cases hro'

  have own1 : ∀ r b, (r ∈ hs.map Hnd.r ∨ (fresh ≤ r ∧ r < fresh + news.length)) → Nc.F r b → (∃ (n : Nat) (h : Hnd), hs[n]? = some h ∧ h.r = r ∧ N.F r b ∧ ¬ B n b) ∨ (∃ k, N'.F k b ∧ ((∃ h : Hnd, hs[k]? = some h ∧ h.r = r) ∨ (hs.length ≤ k ∧ r = fresh + (k - hs.length)))) := by
    intro r b hr hb
    rcases hr with hr | hr
    · obtain ⟨n, h, hn, rfl⟩ := hrsInv r hr
      rcases (cFh n h hn b).1 hb with h1 | h1
      · exact .inl ⟨n, h, hn, rfl, h1⟩
      · exact .inr ⟨n, h1, .inl ⟨h, hn, rfl⟩⟩
    · have hi : r - fresh < news.length := by omega
      have h1 := (cFn (r - fresh) hi b).1 (by rw [show fresh + (r - fresh) = r by omega]; exact hb)
      exact .inr ⟨_, h1, .inr ⟨by omega, by omega⟩⟩
  have oldNot : ∀ (n : Nat) (h : Hnd) b k, hs[n]? = some h → N.F h.r b → ¬ B n b → N'.F k b → False := by
    intro n h b k hn hF hB hk
    rcases backLt k b hk with h1 | ⟨k', hk', hB'⟩
    · have := (hS.hr.obj _).lt hC hF; omega
    · obtain ⟨_, h', hn', hF'⟩ := Blt k' b hk' hB'
      have e := hS.hr.dist _ _ b hF' hF
      have e2 := Qeqi (r := h.r) hnd (by rw [← e]; exact hrsAt k' h' hn') (hrsAt n h hn)
      exact hB (e2 ▸ hB')
  have hstep : Step C (fun r => r ∈ hs.map Hnd.r ∨ (fresh ≤ r ∧ r < fresh + news.length)) N Nc hp hpc w w' := by
    refine { same := fun r hr => ?_, G := hL.G, ro := hL.ro, roO := fun b hb => ?_, mem := fun b hb hf => ?_, size := hfr'.size, obj := fun r hr => ?_, reg := fun r hr p v u hg => ?_, full := fun r hr => Q6y7 (fun p v u h => (cG _ _ _ _).2 (.inr ⟨hr, h⟩)),
             one := fun r hr p v u hg => ?_, F := fun r b hr hb => ?_, dist := fun r r' b hr hr' hb hb' => ?_, roS := fun r b hr hb hro' => ?_, roLt := fun b hb => ?_, os := hfr'.os, tape := hfr'.tape, output := hfr'.output, ng := fun r hr => ?_ }
    · rw [not_or] at hr
      refine ⟨hpcOld r hr.1 hr.2, cνo r hr.2, cFo r hr.1 hr.2, fun p v u => ?_⟩
      rw [cG]
      exact ⟨fun h => h.elim id (fun h => absurd h.1 (by rw [not_or]; exact hr)), .inl⟩
    · rcases (cro b).1 hb with h1 | ⟨_, h1 | ⟨n, hn, hB⟩⟩
      · exact .inl h1
      · exact .inr (.inl h1)
      · obtain ⟨_, h, hn', hF⟩ := Blt n b hn hB
        exact .inr (.inr ⟨h.r, .inl (List.mem_of_getElem? (hrsAt n h hn')), hF⟩)
    · exact keep b hb (fun n hn hB => by
        obtain ⟨_, h, hn', hF⟩ := Blt n b hn hB
        exact hf h.r (.inl (List.mem_of_getElem? (hrsAt n h hn'))) hF)
    · rcases hr with hr | hr
      · obtain ⟨n, h, hn, rfl⟩ := hrsInv r hr
        exact (objH n h hn).1
      · have := (objNew (r - fresh) (by omega)).1
        rwa [show fresh + (r - fresh) = r by omega] at this
    · rcases (cG _ _ _ _).1 hg with h1 | h1
      · rcases hr with hr | hr
        · obtain ⟨n, h, hn, rfl⟩ := hrsInv r hr
          exact (objH n h hn).2.1 p v u h1
        · have hreg := hS.hr.reg r p v u h1
          have := hgoneF (r - fresh) (by omega)
          rw [show fresh + (r - fresh) = r by omega] at this
          rw [this] at hreg
          exact hreg.elim
      · exact Qr5d h1.2
    · rcases (cG _ _ _ _).1 hg with h1 | h1
      · exact hS.hr.one r p v u h1
      · refine Qtc3 (N := Nc) (w := w') ?_ h1.2
        rcases hr with hr | hr
        · obtain ⟨n, h, hn, rfl⟩ := hrsInv r hr
          exact (objH n h hn).1
        · have := (objNew (r - fresh) (by omega)).1
          rwa [show fresh + (r - fresh) = r by omega] at this
    · rcases own1 r b hr hb with ⟨n, h, hn, rfl, h1, _⟩ | ⟨k, h1, _⟩
      · exact .inl ⟨h.r, .inl (List.mem_of_getElem? (hrsAt n h hn)), h1⟩
      · rcases backLt k b h1 with h2 | ⟨k', hk', hB⟩
        · exact .inr h2
        · obtain ⟨_, h, hn', hF⟩ := Blt k' b hk' hB
          exact .inl ⟨h.r, .inl (List.mem_of_getElem? (hrsAt k' h hn')), hF⟩
    · rcases own1 r b hr hb with ⟨n, h, hn, rfl, h1, h2⟩ | ⟨k, h1, h2⟩
      · rcases own1 r' b hr' hb' with ⟨n', h', hn', rfl, h1', _⟩ | ⟨k', h1', _⟩
        · exact hS.hr.dist _ _ b h1 h1'
        · exact (oldNot n h b k' hn h1 h2 h1').elim
      · rcases own1 r' b hr' hb' with ⟨n', h', hn', rfl, h1', h2'⟩ | ⟨k', h1', h2'⟩
        · exact (oldNot n' h' b k hn' h1' h2' h1).elim
        · have e := hH'.dist k k' b h1 h1'
          subst e
          rcases h2 with ⟨h, hn, rfl⟩ | ⟨hk, rfl⟩
          · rcases h2' with ⟨h', hn', rfl⟩ | ⟨hk', rfl⟩
            · rw [hn] at hn'; rw [Option.some.inj hn']
            · have := (List.getElem?_eq_some_iff.1 hn).1; omega
          · rcases h2' with ⟨h', hn', rfl⟩ | ⟨hk', rfl⟩
            · have := (List.getElem?_eq_some_iff.1 hn').1; omega
            · rfl
    · rcases own1 r b hr hb with ⟨n, h, hn, rfl, h1, h2⟩ | ⟨k, h1, _⟩
      · rcases (cro b).1 hro' with h3 | ⟨_, h3 | ⟨k, hk, hB⟩⟩
        · exact hS.hr.roNot _ b h1 h3
        · have := (hS.hr.obj _).lt hC h1; omega
        · obtain ⟨_, h', hn', hF'⟩ := Blt k b hk hB
          have e := hS.hr.dist _ _ b hF' h1
          have e2 := Qeqi (r := h.r) hnd (by rw [← e]; exact hrsAt k h' hn') (hrsAt n h hn)
          exact h2 (e2 ▸ hB)
      · rcases (cro b).1 hro' with h3 | ⟨h3, _⟩
        · exact hH'.roNot k b h1 (hroI b (.inl h3))
        · exact hH'.roNot k b h1 h3
    · rcases (cro b).1 hb with h1 | ⟨h1, _⟩
      · exact Nat.lt_of_lt_of_le (hS.hr.roLt b h1) hfr'.size
      · exact hH'.roLt b h1
    · rcases hr with hr | hr
      · obtain ⟨n, h, hn, rfl⟩ := hrsInv r hr
        exact (objH n h hn).2.2.1
      · have := (objNew (r - fresh) (by omega)).2
        rwa [show fresh + (r - fresh) = r by omega] at this
  refine ⟨u, Nc, rfl, hS.step hC hstep (fun k hk hkm hst => ?_), Qqk9 hC renF renF0 4 res v u hu hren ?_⟩
  · rcases hk with hk | hk
    · obtain ⟨n, h, hn, rfl⟩ := hrsInv k hk
      exact ⟨(objH n h hn).2.2.2 hst, cνo _ (hrsOld _ hk)⟩
    · have := hgoneF (k - fresh) (by omega)
      rw [show fresh + (k - fresh) = k by omega] at this
      exact absurd this (hS.nog k hkm)
  · rcases hro with h1 | h1
    · exact .inl (hroC h1)
    · simp only [Bool.and_eq_true] at h1
      exact .inr ⟨4, h1.1⟩
end
end Lx
namespace Lx
open Go
section
variable {Ty : Type} {El : Ty → Type} {C : Cod Ty El} {P : Program}

theorem Step.mapO (hC : CodOK P C) {N : Nm} {hp : Nat → AObj Ty El} {w w' : World} (h : HR C N hp w) {r b : Nat} {K V : Ty} {es : List (El K × El V)} {arr : Array MapEntry} {clk : Nat}
    (hmem : ∀ b', b' < w.heap.size → b' ≠ b → w'.heap[b']? = w.heap[b']?) (hsz : w.heap.size ≤ w'.heap.size) (hh : w'.heap[b]? = some (.map arr clk)) (hs : arr.size = es.length)
    (hc : Le N (N.upd r (.map (some b)) (fun b' => b' = b) (fun p v u => p = [] ∧ v = 0 ∧ u = .map (some b)) (fun _ => False)) w w' →
      ∀ (j : Nat) (e : MapEntry) p, arr[j]? = some e → es[j]? = some p → RepA C (N.upd r (.map (some b)) (fun b' => b' = b) (fun p v u => p = [] ∧ v = 0 ∧ u = .map (some b)) (fun _ => False)) w' e.key (packA C K (C.row K p.1)) ∧ RepA C (N.upd r (.map (some b)) (fun b' => b' = b) (fun p v u => p = [] ∧ v = 0 ∧ u = .map (some b)) (fun _ => False)) w' e.val (packA C V (C.row V p.2)))
    (hold : ∀ p v u, N.G r p v u → p = [] → v = 0 → u = .map (some b)) (hb : (∀ b', N.F r b' ↔ b' = b) ∨ ((∀ b', ¬ N.F r b') ∧ w.heap.size ≤ b))
    (hos : w'.os = w.os) (htp : w'.tape = w.tape) (hout : w'.output = w.output) :
    Step C (fun k => k = r) N (N.upd r (.map (some b)) (fun b' => b' = b) (fun p v u => p = [] ∧ v = 0 ∧ u = .map (some b)) (fun _ => False)) hp (setH hp r (.mp K V es)) w w' := by
  have hbro : ¬ N.ro b := fun hr => by
    rcases hb with hb | ⟨_, hb⟩
    · exact h.roNot r b ((hb b).2 rfl) hr
    · exact absurd (h.roLt b hr) (by omega)
  have hL : Le N (N.upd r (.map (some b)) (fun b' => b' = b) (fun p v u => p = [] ∧ v = 0 ∧ u = .map (some b)) (fun _ => False)) w w' :=
    ⟨fun _ _ _ _ h => .inl h, fun _ h => .inl h, fun b' hb' => hmem b' (h.roLt b' hb') (fun e => hbro (e ▸ hb'))⟩
  refine { same := fun k hk => ⟨Qte0 hp _ hk, N.upd_same _ _ _ _ hk⟩, G := hL.G, ro := hL.ro, roO := fun b' hb' => .inl (hb'.resolve_right id), mem := fun b' hb' hf => hmem b' hb' (fun e => ?_), size := hsz, obj := fun k hk => ?_, reg := fun k hk p v u hg => ?_, full := fun k hk => ?_,
           one := fun k hk p v u hg => ?_, F := fun k b' hk hb' => ?_, dist := fun k k' b hk hk' _ _ => hk.trans hk'.symm, roS := fun k b' hk hb' => ?_, roLt := fun b' hb' => Nat.lt_of_lt_of_le (h.roLt b' (hb'.resolve_right id)) hsz, os := hos, tape := htp, output := hout, ng := fun k hk => by subst hk; rw [Q3el]; simp }
  · subst e
    rcases hb with hb | ⟨_, hb⟩
    · exact hf r rfl ((hb b').2 rfl)
    · omega
  · subst hk
    rw [Q3el]
    exact ⟨b, arr, clk, by simp, hh, hs, hc hL, fun b' => by simp⟩
  · subst hk
    rw [Q3el, Nm.upd_ν_self]
    intro h2 h3
    rcases hg with hg | ⟨_, hg⟩
    · exact hold p v u hg h2 h3
    · exact hg.2.2
  · subst hk
    rw [Q3el]
    exact .inr ⟨rfl, rfl, rfl, by simp⟩
  · subst hk
    rcases hg with hg | ⟨_, hg⟩
    · exact h.one k p v u hg
    · rw [hg.2.2]; rfl
  · subst hk
    simp only [Nm.upd_F_self] at hb'
    rcases hb with hb | ⟨_, hb⟩
    · exact .inl ⟨k, rfl, (hb b').2 hb'⟩
    · exact .inr (by omega)
  · subst hk
    simp only [Nm.upd_F_self] at hb'
    rintro (h2 | h2)
    · subst hb'; exact hbro h2
    · exact h2

theorem Qtcr : ∀ {vs : List Value} {cs : List (AV Ty El)}, zOk vs cs = true → vs.length = cs.length ∧ ∀ (j : Nat) c, cs[j]? = some c → ∃ v, vs[j]? = some v ∧ zcell v c = true
  | [], [], _ => ⟨rfl, fun j c h => by simp at h⟩
  | v :: vs, c :: cs, h => by
    simp only [zOk, Bool.and_eq_true] at h
    obtain ⟨h1, h2⟩ := Qtcr h.2
    refine ⟨by simp [h1], fun j d hd => ?_⟩
    cases j with
    | zero => simp only [List.getElem?_cons_zero, Option.some.injEq] at hd; subst hd; exact ⟨v, rfl, h.1⟩
    | succ j => exact h2 j d (by simpa using hd)
  | [], _ :: _, h => by simp [zOk] at h
  | _ :: _, [], h => by simp [zOk] at h
theorem Qp7e {N : Nm} {w : World} {v : Value} {c : AV Ty El} (h : zcell v c = true) : RepA C N w v c := by
  unfold zcell at h
  split at h
  · simp only [Bool.and_eq_true, decide_eq_true_eq] at h
    obtain ⟨rfl, rfl⟩ := h
    exact .int _ _
  · rw [eq_of_beq h]; exact .bool _
  · exact .str _ _ (eq_of_beq h)
  · rename_i T xs
    cases xs with
    | nil => exact .sl0 _ _ _
    | cons x xs => simp at h
  · cases h
theorem Qi7u {v : Value} {c : AV Ty El} (h : zcell v c = true) : v.oneCell' = true := by
  unfold zcell at h
  split at h <;> first | rfl | cases h
theorem Q82w (hC : CodOK P C) {N : Nm} {w : World} {D i j : Nat} {v : Value} {c : AV Ty El} (h : zcell v c = true) : GoodK C N w D i j v c (fun _ => False) := by
  cases c with
  | sl U zs =>
    have hr : RepA C N w v (.sl U zs) := Qp7e h
    refine ⟨fun _ => ⟨hr, fun _ => id⟩, fun D' hD => .inr ⟨fun h => h, ?_⟩⟩
    unfold zcell at h
    split at h
    · rename_i hh; cases hh
    · rename_i hh; cases hh
    · rename_i hh; cases hh
    · rename_i hh
      cases hh
      cases zs with
      | nil => exact Deep.nil hC D' _ U
      | cons x xs => simp at h
    · cases h
  | _ => exact GoodK.of_rep (Qp7e h) (fun U zs e => by cases e)

theorem Qfz7 {z : Array Value} {n i j k : Nat} (hj : j < k) (hk : z.size = k) (hi : i * k + j < n) : (madeCells z n)[i * k + j]? = z[j]? := by
  have : (i * k + j) % k = j := by rw [Nat.mul_comm, Nat.mul_add_mod]; exact Nat.mod_eq_of_lt hj
  unfold madeCells
  rw [Array.getElem?_map, Array.getElem?_range]
  simp [hi, hk, this, hj]

theorem Q95e (hC : CodOK P C) {X : Cx} {N : Nm} {tm : Nat → AV Ty El} {hp : Nat → AObj Ty El} {a : Act} {w : World} (hS : SimN C X N tm hp a w) {fresh : Nat} {t : TypeId} {l c : AV Ty El} {u v : Value} (hu : RepA C N w u l) (hv : RepA C N w v c) {r : OpRes Ty El} (h : makeA P C fresh t l c = some r) (hg : r.g = true) (hf : hp fresh = .gone) :
    ∃ x N' w', (Instr.makeSlice t u v).run P w = .ok x w' ∧ SimN C X N' tm (updH hp r.wr) a w' ∧ RepA C N' w' x r.v := by
  unfold makeA at h
  split at h
  · rename_i e he
    split at h
    · rename_i T k1 n k2 m hT
      simp only [Option.some.injEq] at h
      subst h
      simp only [Bool.and_eq_true, decide_eq_true_eq] at hg
      obtain ⟨h0, rfl, hb⟩ := hg
      rw [hu.inv_int, hv.inv_int]
      obtain ⟨i, z, hi, hz, hzo, hag, hone⟩ := hC.zero e T hT
      obtain ⟨i', z', hi', hsz, _, _, hbp⟩ := hC.info e T hT
      rw [hi] at hi'; cases hi'
      have hbb : Qbhn P e = i.bytes := by simp [Qbhn, hi]
      rw [hbb] at hb
      have hb63 : n ≤ 9223372036854775807 := by
        have : n ≤ (i.bytes : Int) * n := by
          have h2 : (1 : Int) * n ≤ (i.bytes : Int) * n := Int.mul_le_mul_of_nonneg_right (by omega) h0
          omega
        omega
      have hrun := run_make w t e i z he hi hz k1 k2 n n h0 (Int.le_refl _) hb hb63
      obtain ⟨hzl, hzc⟩ := Qtcr hzo
      have hzs : z.cells.size = C.sz T := by rw [← hC.len T (C.dflt T), ← hzl]; simp
      have hcell : ∀ i0 j c, i0 < n.toNat → (C.row T (C.dflt T))[j]? = some c → ∃ v, (madeCells z.cells (n.toNat * i.size))[i0 * C.sz T + j]? = some v ∧ zcell v c = true := fun i0 j c hi0 hc => by
        obtain ⟨v, hv, hzv⟩ := hzc j c hc
        have hj : j < C.sz T := RowI.sz hC hc
        refine ⟨v, ?_, hzv⟩
        rw [Qfz7 hj hzs (by rw [hsz]; exact Qz8b hi0 hj)]
        simpa using hv
      obtain ⟨N', h1, h2⟩ := Qbwz (inn := []) (D := C.hgt T) (vn := 1) hC hS hf hT (List.replicate n.toNat (C.dflt T)) (madeCells z.cells (n.toNat * i.size)) (by rw [size_madeCells, hsz]; simp) (by simp [maxLen]; omega) (fun k hk => by simp at hk) (fun _ _ => []) (fun _ _ _ _ _ h => by simp at h)
        (fun i0 j c hi0 hc => by
          have hi0' : i0 < n.toNat := by simpa using hi0
          have e0 : (List.replicate n.toNat (C.dflt T)).getD i0 (C.dflt T) = C.dflt T := by simp [List.getD, List.getElem?_replicate, hi0']
          rw [e0] at hc
          obtain ⟨v, hv, hzv⟩ := hcell i0 j c hi0' hc
          exact ⟨v, fun _ => False, hv, Qi7u hzv, Q82w hC hzv, fun b hb => hb.elim⟩)
      refine ⟨_, N', _, hrun, ?_, ?_⟩
      · have : updH hp [(fresh, AObj.row T (List.replicate n.toNat (C.dflt T)) (C.hgt T) 0 1 .no)] = outs hp fresh (.row T (List.replicate n.toNat (C.dflt T)) (C.hgt T) 0 1 .no) [] := by
          funext k; simp [updH, setH, outs]
        rw [this]; exact h1
      · simpa using h2
    · cases h
  · cases h

theorem Qnaz {t : TypeId} {K V : Ty} (h : mapTy P C t = some (K, V)) : ∃ k e, P.underlying t = some (.map k e) ∧ C.ty k = some K ∧ C.ty e = some V ∧ C.key K = true := by
  unfold mapTy at h
  split at h
  · rename_i k e ht
    split at h
    · rename_i K' V' hk hv
      split at h
      · rename_i hkey
        simp only [Option.some.injEq, Prod.mk.injEq] at h
        obtain ⟨rfl, rfl⟩ := h
        exact ⟨k, e, ht, hk, hv, hkey⟩
      · cases h
    · cases h
  · cases h
theorem Qazy {t : TypeId} {K V : Ty} (h : hasTy P C t K V = true) : mapTy P C t = some (K, V) := by
  unfold hasTy at h
  split at h
  · rename_i K' V' hm
    simp only [Bool.and_eq_true, decide_eq_true_eq] at h
    obtain ⟨rfl, rfl⟩ := h
    exact hm
  · cases h

theorem Q8jd (hC : CodOK P C) {X : Cx} {N : Nm} {tm : Nat → AV Ty El} {hp : Nat → AObj Ty El} {a : Act} {w : World} (hS : SimN C X N tm hp a w) {fresh : Nat} {K V : Ty} (hf : hp fresh = .gone) :
    ∃ N', SimN C X N' tm (setH hp fresh (.mp K V [])) a (w.alloc (.map #[] 0)) ∧ RepA C N' (w.alloc (.map #[] 0)) (.map (some w.heap.size)) (.mapr fresh) := by
  have ho : ∀ b', ¬ N.F fresh b' := by have := hS.hr.obj fresh; rw [hf] at this; exact this
  have hs := Step.mapO (r := fresh) (b := w.heap.size) (K := K) (V := V) (es := []) (arr := #[]) (clk := 0) (w' := w.alloc (.map #[] 0)) hC hS.hr (fun b' hb _ => Qn4u w _ hb) (by rw [Q541]; omega) (Qdnr w _) rfl (fun _ j e p h => by simp at h)
    (fun p v' u hg' => by have := hS.hr.reg fresh p v' u hg'; rw [hf] at this; exact this.elim) (.inr ⟨ho, Nat.le_refl _⟩) rfl rfl rfl
  exact ⟨_, hS.step hC hs (fun k hk hkm _ => absurd (by subst hk; exact hf) (hS.nog k hkm)), .mapr fresh _ (.inr ⟨rfl, rfl, rfl, rfl⟩)⟩

theorem Qq3r (hC : CodOK P C) {N : Nm} {w : World} {T : Ty} {v : Value} {x : AV Ty El} {y : El T} (hv : RepA C N w v x) (h : Qkg2 C T x = some y) : RepA C N w v (packA C T (C.row T y)) := by
  unfold Qkg2 at h
  split at h
  · rename_i hag
    have hrow := hC.unrow T _ y h
    rw [hrow]
    unfold packA
    cases x with
    | agg cs =>
      have : C.agg T = true := hag.symm
      rw [this]; exact hv
    | _ =>
      have : C.agg T = false := hag.symm
      rw [this]
      exact hv
  · cases h

theorem Qgj6 {K V : Ty} (x : El K) : ∀ (es : List (El K × El V)), (hasK C K V es x = false ∧ (es.map (·.1)).findIdx? (C.keq K x) = none ∧ getK C K V x es = C.dflt V) ∨ (hasK C K V es x = true ∧ ∃ i p, (es.map (·.1)).findIdx? (C.keq K x) = some i ∧ es[i]? = some p ∧ C.keq K x p.1 = true ∧ getK C K V x es = p.2 ∧ ∀ y, putK C K V x y es = es.set i (x, y))
  | [] => .inl ⟨rfl, rfl, rfl⟩
  | p :: es => by
    by_cases hp : C.keq K x p.1 = true
    · refine .inr ⟨by simp [hasK, hp], 0, p, by simp [List.findIdx?_cons, hp], rfl, hp, by simp [getK, hp], fun y => by simp [putK, hp]⟩
    · have hp' : C.keq K x p.1 = false := by simpa using hp
      rcases Qgj6 x es with ⟨h1, h2, h3⟩ | ⟨h1, i, q, h2, h3, h4, h5, h6⟩
      · refine .inl ⟨?_, by simp [List.findIdx?_cons, hp', h2], by simp [getK, hp', h3]⟩
        simp only [hasK] at h1 ⊢
        simp [hp', h1]
      · refine .inr ⟨?_, i + 1, q, by simp [List.findIdx?_cons, hp', h2], by simpa using h3, h4, by simp [getK, hp', h5], fun y => by simp [putK, hp', h6]⟩
        simp only [hasK] at h1 ⊢
        simp [h1]
theorem Qc2f {K V : Ty} (x : El K) (y : El V) : ∀ (es : List (El K × El V)), hasK C K V es x = false → putK C K V x y es = es ++ [(x, y)]
  | [], _ => rfl
  | p :: es, h => by
    simp only [hasK, List.any_cons, Bool.or_eq_false_iff] at h
    simp only [putK, h.1, Bool.false_eq_true, if_false, List.cons_append]
    rw [Qc2f x y es h.2]

theorem Q420 {N : Nm} {hp : Nat → AObj Ty El} {w : World} (hH : HR C N hp w) {r : Nat} {K V : Ty} {es : List (El K × El V)} (hr : hp r = .mp K V es) {u : Value} (hu : RepA C N w u (.mapr r)) :
    ∃ b arr clk, u = .map (some b) ∧ N.ν r = .map (some b) ∧ w.heap[b]? = some (.map arr clk) ∧ arr.size = es.length ∧
      (∀ (j : Nat) (e : MapEntry) p, arr[j]? = some e → es[j]? = some p → RepA C N w e.key (packA C K (C.row K p.1)) ∧ RepA C N w e.val (packA C V (C.row V p.2))) ∧ ∀ b', N.F r b' ↔ b' = b := by
  have ho := hH.obj r
  rw [hr] at ho
  obtain ⟨b, arr, clk, hν, hh, hs, hc, hF⟩ := ho
  cases hu with
  | mapr r b' hG =>
    have := hH.reg r _ _ _ hG
    rw [hr] at this
    have e := this rfl rfl
    rw [hν] at e
    exact ⟨b, arr, clk, e, hν, hh, hs, hc, hF⟩

theorem Qzez (hC : CodOK P C) {N : Nm} {w : World} {k : TypeId} {K V : Ty} (hk : C.ty k = some K) (hkey : C.key K = true) {es : List (El K × El V)} {arr : Array MapEntry} (hs : arr.size = es.length)
    (hc : ∀ (j : Nat) (e : MapEntry) p, arr[j]? = some e → es[j]? = some p → RepA C N w e.key (packA C K (C.row K p.1)) ∧ RepA C N w e.val (packA C V (C.row V p.2))) {x : El K} {v : Value} (hv : RepA C N w v (packA C K (C.row K x))) :
    (Instr.findKey k v arr.toList).run P w = .ok (((es.map (·.1)).findIdx? (C.keq K x)).bind fun i => (arr[i]?).map fun a => (i, a.val)) w := by
  have := (hC.keyd k K hk hkey).find w N x v hv arr.toList (es.map (·.1)) (by simp [hs]) (fun j a y ha hy => by
    rw [List.getElem?_map, Option.map_eq_some_iff] at hy
    obtain ⟨p, hp, rfl⟩ := hy
    exact (hc j a p (by simpa using ha) hp).1)
  simpa using this

theorem Q2rp (hC : CodOK P C) {N : Nm} {hp : Nat → AObj Ty El} {w : World} (hH : HR C N hp w) {t : TypeId} {m k : AV Ty El} {um uk : Value} (hm : RepA C N w um m) (hk : RepA C N w uk k) {ok : Bool} {r : OpRes Ty El} (h : lookA P C hp t m k ok = some r) :
    ∃ u, (Instr.lookup t um uk ok).run P w = .ok u w ∧ RepA C N w u r.v ∧ r.wr = [] := by
  unfold lookA at h
  split at h
  · rename_i r0
    split at h
    · rename_i K V es hr
      split at h
      · rename_i hty
        split at h
        · rename_i x hx
          simp only [Option.some.injEq] at h
          subst h
          obtain ⟨kt, et, ht, hkt, het, hkey⟩ := Qnaz (Qazy hty)
          obtain ⟨b, arr, clk, rfl, hν, hh, hs, hc, hF⟩ := Q420 hH hr hm
          have hkr := Qq3r hC hk hx
          have hchk := (hC.keyd kt K hkt hkey).check w N arr.isEmpty x uk hkr
          have hfind := Qzez hC hkt hkey hs hc hkr
          obtain ⟨i, z, hi, hz, hzo, hag, hone⟩ := hC.zero et V het
          have hzr : RepA C N w z (packA C V (C.row V (C.dflt V))) := by
            obtain ⟨hzl, hzc⟩ := Qtcr hzo
            unfold packA
            cases hab : C.agg V with
            | true =>
              rw [hab] at hag
              cases z with
              | agg cs =>
                simp only [if_true]
                refine .agg cs _ (by simpa [Value.cells] using hzl) fun j v c hv hc => ?_
                obtain ⟨v', hv', hz'⟩ := hzc j c hc
                have : v' = v := by simpa [Value.cells, hv] using hv'.symm
                exact this ▸ Qp7e hz'
              | _ => simp [isB] at hag
            | false =>
              rw [hab] at hag
              have hcz := hone hag
              rw [hcz] at hzl hzc
              have hl1 : (C.row V (C.dflt V)).length = 1 := by simpa using hzl.symm
              match hrow : C.row V (C.dflt V), hl1 with
              | [c], _ =>
                rw [hrow] at hzc
                obtain ⟨v', hv', hz'⟩ := hzc 0 c rfl
                have : v' = z := by simpa using hv'.symm
                simp only [Bool.false_eq_true, if_false, List.headD_cons]
                exact this ▸ Qp7e hz'
          have go : ∀ (y : Value) (bb : Bool), RepA C N w y (packA C V (C.row V (getK C K V x es))) → bb = hasK C K V es x →
              (Instr.lookup t (.map (some b)) uk ok).run P w = .ok (if ok = true then .tuple #[y, .bool bb] else y) w →
              ∃ u, (Instr.lookup t (.map (some b)) uk ok).run P w = .ok u w ∧ RepA C N w u (if ok then .tup [packA C V (C.row V (getK C K V x es)), .bool (hasK C K V es x)] else packA C V (C.row V (getK C K V x es))) ∧ ([] : List (Nat × AObj Ty El)) = [] := by
            intro y bb hy hbb hrun
            refine ⟨_, hrun, ?_, rfl⟩
            subst hbb
            cases ok with
            | true =>
              simp only [if_true]
              refine .tup _ _ rfl fun j v c hv hc => ?_
              match j with
              | 0 => simp at hv hc; subst hv; subst hc; exact hy
              | 1 => simp at hv hc; subst hv; subst hc; exact .bool _
              | j + 2 => simp at hv
            | false => simp only [Bool.false_eq_true, if_false]; exact hy
          rcases Qgj6 (C := C) x es with ⟨h1, h2, h3⟩ | ⟨h1, i0, p, h2, h3, h4, h5, h6⟩
          · refine go z false (by rw [h3]; exact hzr) h1.symm ?_
            unfold Instr.lookup
            simp only [Sem.run_bind, run_underlying ht, Result.andThen_ok, MapKept.run_getObj_map hh, Sem.run_pure, hchk, hfind, h2, Option.bind_none, Q4lz hi hz]
          · have hi0 : i0 < arr.size := by rw [hs]; exact (List.getElem?_eq_some_iff.1 h3).1
            refine go arr[i0].val true (by rw [h5]; exact (hc i0 _ p (Array.getElem?_eq_getElem hi0) h3).2) h1.symm ?_
            unfold Instr.lookup
            simp only [Sem.run_bind, run_underlying ht, Result.andThen_ok, MapKept.run_getObj_map hh, Sem.run_pure, hchk, hfind, h2, Option.bind_some, Array.getElem?_eq_getElem hi0, Option.map_some]
        · cases h
      · cases h
    · cases h
  · cases h

theorem Q16j (hC : CodOK P C) {X : Cx} {N : Nm} {tm : Nat → AV Ty El} {hp : Nat → AObj Ty El} {a : Act} {w : World} (hS : SimN C X N tm hp a w) {t : TypeId} {m k x : AV Ty El} {um uk ux : Value} (hm : RepA C N w um m) (hk : RepA C N w uk k) (hx : RepA C N w ux x) {r : OpRes Ty El} (h : updM P C hp t m k x = some r) :
    ∃ N' w', (Instr.mapUpdate t um uk ux).run P w = .ok () w' ∧ SimN C X N' tm (updH hp r.wr) a w' ∧ r.v = Qp2e := by
  unfold updM at h
  split at h
  · rename_i r0
    split at h
    · rename_i K V es hr
      split at h
      · rename_i hty
        split at h
        · rename_i ka va hka hva
          simp only [Option.some.injEq] at h
          subst h
          obtain ⟨kt, et, ht, hkt, het, hkey⟩ := Qnaz (Qazy hty)
          obtain ⟨b, arr, clk, rfl, hν, hh, hs, hc, hF⟩ := Q420 hS.hr hr hm
          have hkr := Qq3r hC hk hka
          have hvr := Qq3r hC hx hva
          have hchk := (hC.keyd kt K hkt hkey).check w N false ka uk hkr
          have hfind := Qzez hC hkt hkey hs hc hkr
          have hb : b < w.heap.size := (Array.getElem?_eq_some_iff.1 hh).1
          have fin : ∀ (arr' : Array MapEntry) (clk' : Nat) (es' : List (El K × El V)), es' = putK C K V ka va es → arr'.size = es'.length →
              (∀ (j : Nat) (e : MapEntry) p, arr'[j]? = some e → es'[j]? = some p → RepA C N w e.key (packA C K (C.row K p.1)) ∧ RepA C N w e.val (packA C V (C.row V p.2))) →
              (Instr.mapUpdate t (.map (some b)) uk ux).run P w = .ok () { w with heap := w.heap.setIfInBounds b (.map arr' clk') } →
              ∃ N' w', (Instr.mapUpdate t (.map (some b)) uk ux).run P w = .ok () w' ∧ SimN C X N' tm (updH hp [(r0, .mp K V (putK C K V ka va es))]) a w' ∧ Qp2e = (Qp2e : AV Ty El) := by
            intro arr' clk' es' he hs' hc' hrun
            subst he
            have hs0 := Step.mapO (r := r0) (b := b) (K := K) (V := V) (es := putK C K V ka va es) (arr := arr') (clk := clk') (w' := { w with heap := w.heap.setIfInBounds b (.map arr' clk') }) hC hS.hr
              (fun b' hb' hne => by show (w.heap.setIfInBounds b _)[b']? = _; rw [Array.getElem?_setIfInBounds_ne (fun e => hne e.symm)]) (by simp) (by show (w.heap.setIfInBounds b _)[b]? = _; simp [hb]) hs'
              (fun hL j e p h1 h2 => ⟨((hc' j e p h1 h2).1).mono hL, ((hc' j e p h1 h2).2).mono hL⟩)
              (fun p v' u hg' h1 h2 => by have := hS.hr.reg r0 p v' u hg'; rw [hr] at this; exact (this h1 h2).trans hν) (.inl hF) rfl rfl rfl
            refine ⟨_, _, hrun, hS.step hC hs0 (fun k hk hkm hst => ?_), rfl⟩
            subst hk
            have e : updH hp [(k, AObj.mp K V (putK C K V ka va es))] k = .mp K V (putK C K V ka va es) := by simp [updH, setH]
            unfold stays at hst
            rw [e] at hst
            cases hst
          rcases Qgj6 (C := C) ka es with ⟨h1, h2, h3⟩ | ⟨h1, i0, p, h2, h3, h4, h5, h6⟩
          · refine fin (arr.push { key := uk, val := ux, born := clk }) (clk + 1) (es ++ [(ka, va)]) (Qc2f ka va es h1).symm (by simp [hs]) (fun j e q he hq => ?_) ?_
            · by_cases hj : j < es.length
              · rw [List.getElem?_append_left hj] at hq
                rw [Array.getElem?_push, if_neg (by omega)] at he
                exact hc j e q he hq
              · have hjl : j < arr.size + 1 := by have := (Array.getElem?_eq_some_iff.1 he).1; simpa using this
                obtain rfl : j = es.length := by omega
                rw [List.getElem?_append_right (Nat.le_refl _)] at hq
                simp at hq
                subst hq
                rw [Array.getElem?_push, if_pos hs.symm] at he
                simp at he
                subst he
                exact ⟨hkr, hvr⟩
            · unfold Instr.mapUpdate
              simp only [Sem.run_bind, run_underlying ht, Result.andThen_ok, MapKept.run_getObj_map hh, hchk, hfind, h2, Option.bind_none, MapKept.run_setObj_map _ hh]
          · have hi0 : i0 < arr.size := by rw [hs]; exact (List.getElem?_eq_some_iff.1 h3).1
            have hst := (hC.keyd kt K hkt hkey).stays w N ka p.1 arr[i0].key uk (hc i0 _ p (Array.getElem?_eq_getElem hi0) h3).1 hkr h4
            refine fin (arr.modify i0 fun e => { e with key := uk, val := ux }) clk (es.set i0 (ka, va)) (h6 va).symm (by simp [hs]) (fun j e q he hq => ?_) ?_
            · by_cases hj : i0 = j
              · subst hj
                rw [List.getElem?_set_self (by omega)] at hq
                simp only [Option.some.injEq] at hq
                subst hq
                rw [Array.getElem?_modify] at he
                simp [hi0] at he
                subst he
                exact ⟨hkr, hvr⟩
              · rw [List.getElem?_set_ne hj] at hq
                rw [Array.getElem?_modify, if_neg hj] at he
                exact hc j e q he hq
            · unfold Instr.mapUpdate
              simp only [Sem.run_bind, run_underlying ht, Result.andThen_ok, MapKept.run_getObj_map hh, hchk, hfind, h2, Option.bind_some, Array.getElem?_eq_getElem hi0, Option.map_some, Option.getD_some, hst, MapKept.run_setObj_map _ hh]
        · cases h
      · cases h
    · cases h
  · cases h
end
end Lx
namespace Lx
open Go
section
variable {Ty : Type} {El : Ty → Type} {C : Cod Ty El} {P : Program}

theorem Qbvf {o : Oper} {a : Act} {w : World} {c : Call} {f : Operand} {g : FuncId} {caps : Array Value} {fn : Func} (ho : o.op = .call c) (hc : c.callee = .value f) (hf : a.eval f = .func (.func g) #[] caps)
  (hfn : P.funcs[g]? = some fn) (hname : (fn.name == "runtime.NumGoroutine") = false) (hbody : fn.body.isNone = false) :
  (execOp a.eval o).run P w = .ok (.enter g (c.args.map a.eval ++ caps)) w:=by
 unfold execOp
 simp only [ho,Sem.run_bind]
 have h1 : (resolve a.eval c o.type).run P w = .ok { target:=.fn (.func g) caps,args:=c.args.map a.eval } w:=by
  unfold resolve
  simp [hc,hf,Deferred.ofValue]
 rw [h1]
 simp only [Result.andThen_ok,invoke,callFunc,Sem.run_bind,run_program,hfn,hname,hbody,Bool.false_eq_true,if_false,Sem.run_pure]

theorem Q9ig (hC : CodOK P C) {E : Tab Ty El} (hE : TabOK P C E) {X : Cx} {N : Nm} {tm : Nat → AV Ty El} {hp : Nat → AObj Ty El} {a : Act} {w : World} (hS : SimN C X N tm hp a w) (hout : ∀ t,X.n ≤ t → tm t = .dead)
  {o : Oper} {fresh : Nat} {r : OpRes Ty El} (h : opF P C E o fresh tm hp = some r) (hg : r.g = true) (hfr : ∀ k,k < Qojn E o → hp (fresh + k) = .gone) : Qko3 P C X o a w tm hp r:=by
 unfold opF at h
 have ev:=fun x=>hS.evalO hout x
 split at h
 ·
  rename_i x ho
  simp only [okr,Option.some.injEq] at h; subst h
  exact Qzaa hS (by unfold execOp; simp only [ho]; rfl) (ev x) rfl
 ·
  rename_i x ho
  split at h
  ·rename_i hx
   have hv:=ev x
   rw [hx] at hv
   have hval : a.eval x = .slice none 0 0:=by generalize a.eval x = u at hv; cases hv; rfl
   split at h
   ·rename_i T hT
    simp only [Option.some.injEq] at h; subst h
    obtain ⟨e,hte,hce⟩:=Q8mr hT
    obtain ⟨N',h1,h2⟩:=Qsdy hC hS (hfr 0 (by simp [Qojn,ho])) T (C.hgt T)
    exact Qqcy (N':=N') (v:=.slice none 0 0) (w':=w) (by unfold execOp; simp only [ho,hval]; rfl) h1 h2
   ·simp only [okr,Option.some.injEq] at h; subst h
    exact Qzaa hS (by unfold execOp; simp only [ho]; rfl) hv rfl
  ·simp only [okr,Option.some.injEq] at h; subst h
   exact Qzaa hS (by unfold execOp; simp only [ho]; rfl) (ev x) rfl
 ·
  rename_i t ho
  split at h
  ·rename_i z hz
   split at h
   ·rename_i hone
    simp only [Option.some.injEq] at h; subst h
    obtain ⟨i,zv,hi,hzv,rfl⟩:=Qupe hz
    obtain ⟨N',h1,h2⟩:=Q0mo hC hS (hfr 0 (by simp [Qojn,ho])) (RepA.ofVal zv) hone t
    exact Qqcy (N':=N') (by
     unfold execOp
     simp only [ho,Sem.run_bind,Instr.alloc,Q4lz hi hzv,Result.andThen_ok,newVar,Qr4z,Sem.run_pure]) h1 h2
   ·cases h
  ·cases h
 ·
  rename_i t x ho
  split at h
  ·rename_i hone
   simp only [Option.some.injEq] at h; subst h
   obtain ⟨N',h1,h2⟩:=Q0mo hC hS (hfr 0 (by simp [Qojn,ho])) (ev x) hone t
   exact Qqcy (N':=N') (by
    unfold execOp
    simp only [ho,Sem.run_bind,Instr.box,newVar,Qr4z,Result.andThen_ok,Sem.run_pure]) h1 h2
  ·cases h
 ·
  rename_i t ps ho
  split at h
  ·rename_i z hz
   split at h
   ·rename_i pl hpl
    split at h
    ·rename_i hone
     split at h
     ·rename_i cs hcs
      simp only [okr,Option.some.injEq] at h; subst h
      obtain ⟨u,hu,hr⟩:=Qnwy hS hout hz hpl hone hcs
      exact Qzaa hS (by unfold execOp; simp only [ho,Sem.run_bind,hu,Result.andThen_ok,Sem.run_pure]) hr rfl
     ·cases h
    ·cases h
   ·cases h
  ·cases h
 ·
  rename_i t n ps ho
  split at h
  ·rename_i T hT
   split at h
   ·rename_i hc
    split at h
    ·rename_i xs inn dm hxs
     split at h
     ·rename_i hnd
      split at h
      ·simp only [Option.some.injEq] at h; subst h
       obtain ⟨u,N',w',hu,h1,h2⟩:=Q3te hC hS hout hT hc.1 hc.2 hxs (hfr 0 (by simp [Qojn,ho])) (Qpqi hnd)
       exact Qqcy (N':=N') (by unfold execOp; simp only [ho,Sem.run_bind,hu,Result.andThen_ok,Sem.run_pure]) h1 h2
      ·simp only [Option.some.injEq] at h; subst h
       obtain ⟨u,N',w',hu,h1,h2⟩:=Qk4i hC hS hout hT hc.1 hc.2 hxs (hfr 0 (by simp [Qojn,ho])) (Qpqi hnd)
       exact Qqcy (N':=N') (by unfold execOp; simp only [ho,Sem.run_bind,hu,Result.andThen_ok,Sem.run_pure]) h1 h2
     ·cases h
    ·cases h
   ·cases h
  ·cases h
 ·
  rename_i t x ho
  split at h
  ·rename_i v rd hl
   simp only [Option.some.injEq] at h; subst h
   obtain ⟨u,hu,hr⟩:=Qtgg hC hS.hr (ev x) hl
   exact Qzaa hS (by unfold execOp; simp only [ho,Sem.run_bind,hu,Result.andThen_ok,Sem.run_pure]) hr rfl
  ·cases h
 ·
  rename_i t ax x ho
  split at h
  ·rename_i gg ws hl
   simp only [Option.some.injEq] at h; subst h
   obtain ⟨N',w',hu,h1⟩:=Qtwk hC hS (ev ax) (ev x) hl hg
   exact Qssv (N':=N') (by unfold execOp; simp only [ho,Sem.run_bind,hu,Result.andThen_ok,Sem.run_pure]) h1 rfl
  ·cases h
 ·
  rename_i x ho
  have hv:=ev x
  split at h
  ·rename_i r0 off hx
   simp only [okr,Option.some.injEq] at h; subst h
   rw [hx] at hv
   refine Qzaa hS (v:=a.eval x) ?_ hv rfl
   cases he : a.eval x <;> rw [he] at hv <;> cases hv
   unfold execOp; simp only [ho,he]; rfl
  ·rename_i r0 q0 v wd i j hx
   simp only [okr,Option.some.injEq] at h; subst h
   rw [hx] at hv
   refine Qzaa hS (v:=a.eval x) ?_ hv rfl
   cases he : a.eval x <;> rw [he] at hv <;> cases hv
   unfold execOp; simp only [ho,he]; rfl
  ·rename_i cs off hx
   simp only [okr,Option.some.injEq] at h; subst h
   rw [hx] at hv
   refine Qzaa hS (v:=a.eval x) ?_ hv rfl
   cases he : a.eval x <;> rw [he] at hv <;> cases hv
   unfold execOp; simp only [ho,he]; rfl
  ·cases h
 ·
  rename_i op t x y ty ho
  split at h
  ·rename_i g v hb
   simp only [Option.some.injEq] at h; subst h
   obtain ⟨u,hu,hr⟩:=Qrar (ev x) (ev y) hb hg x y
   simp only [Sem.run_bind] at hu
   exact Qzaa hS (by unfold execOp; simp only [ho,Sem.run_bind,hu,Result.andThen_ok,Sem.run_pure]) hr rfl
  ·cases h
 ·
  rename_i op t x ho
  have hv:=ev x
  split at h
  ·rename_i b hx
   simp only [okr,Option.some.injEq] at h; subst h
   rw [hx] at hv
   exact Qzaa hS (v:=.bool (!b)) (by unfold execOp; simp only [ho,hv.inv_bool]; rfl) (.bool _) rfl
  ·rename_i k n hx
   simp only [okr,Option.some.injEq] at h; subst h
   rw [hx] at hv
   exact Qzaa hS (v:=.int k (k.wrap (0 - n))) (by unfold execOp; simp only [ho,hv.inv_int]; rfl) (.int _ _) rfl
  ·cases h
 ·
  rename_i s d x ho
  obtain ⟨u,hu,hr,hw⟩:=Qpka hC hS.hr h (ev x)
  exact Qzaa hS (by unfold execOp; simp only [ho,Sem.run_bind,hu,Result.andThen_ok,Sem.run_pure]) hr hw
 ·
  rename_i f first caps ho
  split at h
  ·rename_i hf
   simp only [okr,Option.some.injEq] at h; subst h
   have hfe : first = #[]:=Array.eq_empty_of_size_eq_zero hf
   refine Qzaa hS (v:=.func f #[] (caps.map a.eval)) (by unfold execOp; simp [ho,Instr.makeFunc,hfe]) (.fn f _ _ (by simp) fun j v c hv hc=>?_) rfl
   rw [List.getElem?_map,Option.map_eq_some_iff] at hc
   obtain ⟨x,hx,rfl⟩:=hc
   simp only [Array.getElem?_toList] at hx
   rw [Array.getElem?_map,hx] at hv
   simp only [Option.map_some,Option.some.injEq] at hv
   subst hv
   exact ev x
  ·cases h
 ·
  rename_i t x lo hi ho
  obtain ⟨u,hu,hr,hw⟩:=Qdcg hC hS hout h hg
  exact Qzaa hS (by unfold execOp; simp only [ho,Option.map_none,Sem.run_bind,hu,Result.andThen_ok,Sem.run_pure]) hr hw
 ·
  rename_i t x f ho
  have hv:=ev x
  split at h
  ·rename_i ft off hf
   obtain ⟨h1,h2,h3⟩:=hv.offset off
   split at h
   ·rename_i r0 o' hx
    simp only [okr,Option.some.injEq] at h; subst h
    obtain ⟨b,p,he,hr⟩:=h1 r0 o' hx
    exact Qzaa hS (by unfold execOp; simp only [ho,he,Sem.run_bind,Qbs7 hf,Result.andThen_ok,Sem.run_pure]) hr rfl
   ·rename_i r0 q0 v wd i j hx
    simp only [okr,Option.some.injEq] at h; subst h
    obtain ⟨b,p,he,hr⟩:=h2 r0 q0 v wd i j hx
    exact Qzaa hS (by unfold execOp; simp only [ho,he,Sem.run_bind,Qbs7 hf,Result.andThen_ok,Sem.run_pure]) hr rfl
   ·rename_i cs o' hx
    simp only [okr,Option.some.injEq] at h; subst h
    obtain ⟨b,p,he,hr⟩:=h3 cs o' hx
    exact Qzaa hS (by unfold execOp; simp only [ho,he,Sem.run_bind,Qbs7 hf,Result.andThen_ok,Sem.run_pure]) hr rfl
   ·cases h
  ·cases h
 ·
  rename_i t x f ho
  have hv:=ev x
  split at h
  ·rename_i ft off hf
   obtain ⟨fs,fd,i,d,hfs,hfd,rfl,rfl,_⟩:=Qmo0 hf
   split at h
   ·rename_i cs hx
    rw [hx] at hv
    obtain ⟨vs,hvs,hl,hcs⟩:=hv.inv_agg
    split at h
    ·rename_i y hp'
     simp only [okr,Option.some.injEq] at h; subst h
     obtain ⟨u,hu,hr⟩:=Q08z (P:=P) hl hcs hp'
     exact Qzaa hS (by
      unfold execOp
      simp only [ho,hvs,Instr.field,Sem.run_bind,run_underlying hfs,Result.andThen_ok,hfd,asAgg,Sem.run_pure,hu]) hr rfl
    ·cases h
   ·cases h
  ·cases h
 ·
  rename_i t x i ho
  split at h
  ·rename_i n hn
   obtain ⟨k,hk⟩:=Qa10 hn
   have hi:=ev i
   rw [hk] at hi
   obtain ⟨u,hu,hr,hw⟩:=Qbla (k:=k) hC hS.hr (ev x) h hg
   exact Qzaa hS (by unfold execOp; simp only [ho,hi.inv_int,Sem.run_bind,hu,Result.andThen_ok,Sem.run_pure]) hr hw
  ·cases h
 ·
  rename_i t x i ho
  have hv:=ev x
  split at h
  ·rename_i n s hn hx
   obtain ⟨k,hk⟩:=Qa10 hn
   have hi:=ev i
   rw [hk] at hi
   rw [hx] at hv
   obtain ⟨bs,hbs,hl⟩:=hv.inv_str
   split at h
   ·rename_i ht
    simp only [Option.some.injEq] at h; subst h
    obtain ⟨h0,h1⟩:=Q3i8 hg
    have hlt : n.toNat < bs.size:=by
     have : bs.size = s.length:=by rw [← hl,Array.length_toList]; rfl
     omega
    have hb : (if 0 ≤ n then bs[n.toNat]? else none) = some bs[n.toNat]:=by rw [if_pos h0]; exact ByteArray.getElem?_lt' bs _ hlt
    have hgd : s.getD n.toNat 0 = bs[n.toNat]:=by
     rw [← hl]
     rw [List.getD_eq_getElem?_getD,Lib.data_getElem? bs n.toNat hlt]; rfl
    refine Qzaa hS (v:=.int .u8 (bs[n.toNat].toNat : Int)) ?_ (by rw [hgd]; exact .int _ _) rfl
    unfold execOp
    simp only [ho,hi.inv_int,hbs,Instr.index,Sem.run_bind,Qb76,Sem.run_pure,Result.andThen_ok,run_underlying (Qybp ht),hb]
   ·cases h
  ·rename_i n cs hn hx
   obtain ⟨k,hk⟩:=Qa10 hn
   have hi:=ev i
   rw [hk] at hi
   rw [hx] at hv
   obtain ⟨vs,hvs,hl,hcs⟩:=hv.inv_agg
   split at h
   ·rename_i len e ht
    split at h
    ·rename_i gg sz hs
     obtain ⟨d,ti,hd,hti,_,hsz⟩:=Qckr hs
     split at h
     ·rename_i y hp'
      simp only [Option.some.injEq] at h; subst h
      obtain ⟨h0,h1⟩:=Q3i8 hg
      obtain ⟨u,hu,hr⟩:=Q08z (P:=P) hl hcs hp'
      refine Qzaa hS (v:=u) ?_ hr rfl
      unfold execOp
      simp only [ho,hi.inv_int,hvs,Instr.index,Sem.run_bind,Qb76,Sem.run_pure,Result.andThen_ok,run_underlying ht]
      rw [if_pos ⟨h0,h1⟩]
      simp only [Sem.run_bind,Qvtr hti,hsz,Result.andThen_ok,hu]
     ·cases h
    ·cases h
   ·cases h
  ·cases h
 ·
  rename_i t i ho
  have hv:=ev t
  split at h
  ·rename_i vs hx
   rw [hx] at hv
   obtain ⟨us,hus,hl,hcs⟩:=hv.inv_tup
   split at h
   ·rename_i y hy
    simp only [okr,Option.some.injEq] at h; subst h
    have hlt : i < us.size:=by rw [hl]; exact (List.getElem?_eq_some_iff.1 hy).1
    refine Qzaa hS (v:=us[i]) ?_ (hcs i _ y (by simp [hlt]) hy) rfl
    unfold execOp
    simp [ho,hus,Instr.extract,hlt]
   ·cases h
  ·cases h
 ·
  rename_i c ho
  split at h
  ·rename_i b hcal
   obtain ⟨consts,h1⟩ : ∃ consts,(resolve a.eval c o.type).run P w = .ok { target:=.builtin b c.argTypes o.type consts,args:=c.args.map a.eval } w:=by
    unfold resolve
    simp only [hcal]
    exact ⟨_,rfl⟩
   obtain ⟨u,N',w',hu,h2,h3⟩:=Qkhf (ty:=o.type) (consts:=consts) hC hS hout h hg (fun hb=>hfr 0 (by subst hb; simp [Qojn,ho,hcal]))
   refine Qqcy (N':=N') ?_ h2 h3
   unfold execOp
   simp only [ho,Sem.run_bind,h1,Result.andThen_ok,invoke,hu]
  ·rename_i f hcal
   split at h
   ·rename_i g caps hf
    split at h
    case isFalse=>cases h
    rename_i hdyn
    have hv:=ev f
    rw [hf] at hv
    obtain ⟨vs,hvs,hvl,hvc⟩ : ∃ vs : Array Value,a.eval f = .func (.func g) #[] vs ∧ vs.size = caps.length ∧ ∀ (j : Nat) v x,vs[j]? = some v → caps[j]? = some x → RepA C N w v x:=by
     generalize a.eval f = fv at hv
     cases hv with | fn f vs cs hl h=>exact ⟨vs,rfl,hl,h⟩
    have hent : ∃ e,E.find g = some e:=by
     cases he : E.find g with
     | none=>simp [callA,he] at h
     | some e=>exact ⟨e,rfl⟩
    obtain ⟨e,he⟩:=hent
    obtain ⟨fn,hfn,hname,hbody⟩:=(hE g e he).body
    have hcalls:=Q0ua hC hE hS (vs:=c.args.map a.eval ++ vs) h hg (fun e' he' k hk=>by
      rw [he] at he'; simp only [Option.some.injEq] at he'; subst he'
      refine hfr k ?_
      cases f with
      | func g0 =>
       simp only [evalO,AV.fn.injEq,Fn.func.injEq] at hf
       obtain ⟨rfl,_⟩:=hf
       simpa [Qojn,ho,hcal,he] using hk
      | tmp t =>
       simp only [dynOk,he,decide_eq_true_eq] at hdyn
       simp only [Qojn,ho,hcal]; omega
      | const v =>
       simp only [dynOk,he,decide_eq_true_eq] at hdyn
       simp only [Qojn,ho,hcal]; omega
      | global v =>
       simp only [dynOk,he,decide_eq_true_eq] at hdyn
       simp only [Qojn,ho,hcal]; omega) (by simp [hvl]) (fun j v x hj hx=>by
      by_cases hlt : j < c.args.size
      ·rw [Array.getElem?_append_left (by simpa using hlt),Array.getElem?_map] at hj
       rw [List.getElem?_append_left (by simpa using hlt),List.getElem?_map] at hx
       simp only [Array.getElem?_toList] at hx
       rw [Array.getElem?_eq_getElem hlt] at hj hx
       simp only [Option.map_some,Option.some.injEq] at hj hx
       subst hj; subst hx
       exact ev _
      ·rw [Array.getElem?_append_right (by simpa using hlt)] at hj
       rw [List.getElem?_append_right (by simpa using hlt)] at hx
       simp only [Array.size_map,List.length_map,Array.length_toList] at hj hx
       exact hvc _ v x hj hx)
    intro next Q hn
    unfold Oper.wp
    rw [Qbvf ho hcal hvs hfn hname hbody,Oper.upon_enter]
    refine hcalls.mono ?_
    rintro en w' ⟨v,N',rfl,h1,h2⟩
    exact hn v N' w' (h1.put h2 o.dst)
   ·cases h
  ·cases h
 ·
  rename_i t ho
  split at h
  ·rename_i K V hm
   simp only [Option.some.injEq] at h; subst h
   obtain ⟨N',h1,h2⟩:=Q8jd (K:=K) (V:=V) hC hS (hfr 0 (by simp [Qojn,ho]))
   exact Qqcy (N':=N') (v:=.map (some w.heap.size)) (w':=w.alloc (.map #[] 0)) (by unfold execOp; simp only [ho]; rfl) h1 h2
  ·cases h
 ·
  rename_i t m k ok ho
  obtain ⟨u,hu,hr,hw⟩:=Q2rp hC hS.hr (ev m) (ev k) h
  exact Qzaa hS (by unfold execOp; simp only [ho,Sem.run_bind,hu,Result.andThen_ok,Sem.run_pure]) hr hw
 ·
  rename_i t m k x ho
  obtain ⟨N',w',hu,h1,h2⟩:=Q16j hC hS (ev m) (ev k) (ev x) h
  exact Qssv (N':=N') (by unfold execOp; simp only [ho,Sem.run_bind,hu,Result.andThen_ok,Sem.run_pure]) h1 h2
 ·
  rename_i t m k x ho
  obtain ⟨N',w',hu,h1,h2⟩:=Q16j hC hS (ev m) (ev k) (ev x) h
  exact Qssv (N':=N') (by unfold execOp; simp only [ho,Sem.run_bind,hu,Result.andThen_ok,Sem.run_pure]) h1 h2
 ·
  rename_i t l c ho
  obtain ⟨u,N',w',hu,h1,h2⟩:=Q95e hC hS (ev l) (ev c) h hg (hfr 0 (by simp [Qojn,ho]))
  exact Qqcy (N':=N') (by unfold execOp; simp only [ho,Sem.run_bind,hu,Result.andThen_ok,Sem.run_pure]) h1 h2
 ·cases h
end
end Lx
namespace Lx
open Go
section
variable {Ty : Type} {El : Ty → Type} {C : Cod Ty El} {P : Program}

def Qo7k (E : Tab Ty El) (o : Oper) (fresh : Nat) (hp : Nat → AObj Ty El) (wr : List (Nat × AObj Ty El)) : Prop:=∀ r ∈ wr.map (·.1),hp r ≠ .gone ∨ (fresh ≤ r ∧ r < fresh + Qojn E o)

theorem Qtge {hp : Nat → AObj Ty El} {r : Nat} {p : Path} {vn d i j : Nat} {old x : AV Ty El} {s : CellSt Ty El} (h : Qov5 C hp r p vn d i j old x = some s) : ∀ k ∈ s.inn,hp k ≠ .gone:=by
 unfold Qov5 at h
 cases x with
 | own r' q v =>
  simp only at h
  split at h
  ·split at h
   ·split at h
    ·split at h
     ·simp only [Option.some.injEq] at h; subst h; intro k hk; simp at hk
     ·cases h
    ·cases h
   ·cases h
  ·split at h
   ·rename_i T xs d' vr' vn' m hr'
    split at h
    ·split at h
     ·simp only [Option.some.injEq] at h; subst h; intro k hk; simp at hk; subst hk; rw [hr']; simp
     ·cases h
    ·cases h
   ·cases h
 | nils =>
  simp only at h
  split at h
  ·simp only [Option.some.injEq] at h; subst h; intro k hk; simp at hk
  ·cases h
 | int k n=>simp only [Option.some.injEq] at h; subst h; intro k hk; simp at hk
 | bool b=>simp only [Option.some.injEq] at h; subst h; intro k hk; simp at hk
 | str b=>simp only [Option.some.injEq] at h; subst h; intro k hk; simp at hk
 | sl T xs=>simp only [Option.some.injEq] at h; subst h; intro k hk; simp at hk
 | _=>cases h
theorem Qnrb {hp hp' : Nat → AObj Ty El} {r : Nat} {p : Path} {vn d i j : Nat} {old x : AV Ty El} {s : CellSt Ty El} (h : Qov5 C hp r p vn d i j old x = some s) (hh : ∀ k ∈ s.inn,hp' k = hp k) : Qov5 C hp' r p vn d i j old x = some s:=by
 unfold Qov5 at h ⊢
 cases x with
 | own r' q v =>
  simp only at h ⊢
  split at h
  ·rename_i e
   rw [if_pos e]; exact h
  ·rename_i e
   rw [if_neg e]
   split at h
   ·rename_i T xs d' vr' vn' m hr'
    have hin : hp' r' = hp r':=hh r' (by
     split at h
     ·split at h
      ·simp only [Option.some.injEq] at h; subst h; simp
      ·cases h
     ·cases h)
    rw [hin,hr']; exact h
   ·cases h
 | _=>exact h
theorem Q17u {hp : Nat → AObj Ty El} {r : Nat} {p : Path} {vn d i : Nat} : ∀ (xs os : List (AV Ty El)) (j : Nat) (cs : List (AV Ty El)) (g : Bool) (inn : List Nat) (dm : Nat),Qdl0 C hp r p vn d i xs os j = some (cs,g,inn,dm) → ∀ k ∈ inn,hp k ≠ .gone
 | [],os,j,cs,g,inn,dm,h=>by
  simp only [Qdl0,Option.some.injEq,Prod.mk.injEq] at h
  obtain ⟨_,_,rfl,_⟩:=h
  intro k hk; simp at hk
 | x :: xs,[],j,cs,g,inn,dm,h=>by simp [Qdl0] at h
 | x :: xs,o :: os,j,cs,g,inn,dm,h=>by
  simp only [Qdl0] at h
  split at h
  ·cases h
  ·rename_i s hs
   split at h
   ·cases h
   ·rename_i cs' g' inn' dm' hr
    simp only [Option.some.injEq,Prod.mk.injEq] at h
    obtain ⟨_,_,rfl,_⟩:=h
    intro k hk
    rw [List.mem_append] at hk
    exact hk.elim (Qtge hs k) (Q17u xs os (j + 1) cs' g' inn' dm' hr k)
theorem Qtps {hp hp' : Nat → AObj Ty El} {r : Nat} {p : Path} {vn d i : Nat} : ∀ (xs os : List (AV Ty El)) (j : Nat) (cs : List (AV Ty El)) (g : Bool) (inn : List Nat) (dm : Nat),Qdl0 C hp r p vn d i xs os j = some (cs,g,inn,dm) → (∀ k ∈ inn,hp' k = hp k) → Qdl0 C hp' r p vn d i xs os j = some (cs,g,inn,dm)
 | [],os,j,cs,g,inn,dm,h,_=>h
 | x :: xs,[],j,cs,g,inn,dm,h,_=>h
 | x :: xs,o :: os,j,cs,g,inn,dm,h,hh=>by
  simp only [Qdl0] at h ⊢
  split at h
  ·cases h
  ·rename_i s hs
   split at h
   ·cases h
   ·rename_i cs' g' inn' dm' hr
    have h':=h
    simp only [Option.some.injEq,Prod.mk.injEq] at h'
    obtain ⟨_,_,rfl,_⟩:=h'
    simp only [Qnrb hs (fun k hk=>hh k (List.mem_append_left _ hk)),Qtps xs os (j + 1) cs' g' inn' dm' hr (fun k hk=>hh k (List.mem_append_right _ hk))]
    exact h
theorem Qoo8 {hp : Nat → AObj Ty El} {fresh : Nat} {T : Ty} : ∀ (qs : List (Nat × AV Ty El)) (k : Nat) (xs : List (El T)) (inn : List Nat) (dm : Nat),Q6uz C hp fresh T qs k = some (xs,inn,dm) → ∀ k ∈ inn,hp k ≠ .gone
 | [],k,xs,inn,dm,h=>by
  simp only [Q6uz,Option.some.injEq,Prod.mk.injEq] at h
  obtain ⟨_,rfl,_⟩:=h
  intro k hk; simp at hk
 | (i,x) :: qs,k,xs,inn,dm,h=>by
  simp only [Q6uz] at h
  split at h
  case isFalse=>cases h
  split at h
  case h_2=>cases h
  rename_i hst
  split at h
  case h_2=>cases h
  split at h
  case h_2=>cases h
  split at h
  case h_2=>cases h
  rename_i hel
  simp only [Option.some.injEq,Prod.mk.injEq] at h
  obtain ⟨_,rfl,_⟩:=h
  intro k hk
  rw [List.mem_append] at hk
  exact hk.elim (Q17u _ _ _ _ _ _ _ hst k) (Qoo8 _ _ _ _ _ hel k)
theorem Q9mt {hp hp' : Nat → AObj Ty El} {fresh : Nat} {T : Ty} : ∀ (qs : List (Nat × AV Ty El)) (k : Nat) (xs : List (El T)) (inn : List Nat) (dm : Nat),Q6uz C hp fresh T qs k = some (xs,inn,dm) → (∀ k ∈ inn,hp' k = hp k) → Q6uz C hp' fresh T qs k = some (xs,inn,dm)
 | [],k,xs,inn,dm,h,_=>h
 | (i,x) :: qs,k,xs,inn,dm,h,hh=>by
  simp only [Q6uz] at h ⊢
  split at h
  case isFalse=>cases h
  rename_i e
  rw [if_pos e]
  split at h
  case h_2=>cases h
  rename_i hst
  split at h
  case h_2=>cases h
  split at h
  case h_2=>cases h
  rename_i hy
  split at h
  case h_2=>cases h
  rename_i hel
  have h':=h
  simp only [Option.some.injEq,Prod.mk.injEq] at h'
  obtain ⟨_,rfl,_⟩:=h'
  simp only [Qtps _ _ _ _ _ _ _ hst (fun k hk=>hh k (List.mem_append_left _ hk)),hy,Q9mt _ _ _ _ _ hel (fun k hk=>hh k (List.mem_append_right _ hk))]
  exact h

theorem Qgka {hp hp' : Nat → AObj Ty El} {r : Nat} {p : Path} {ver : Nat} (h : hp' r = hp r) : rowAt C hp' r p ver = rowAt C hp r p ver:=by simp [rowAt,h]

theorem Qdkj {hp hp' : Nat → AObj Ty El} {r : Nat} {p : Path} {ver : Nat} (h : hp' r = hp r) : Qum2 C hp' r p ver = Qum2 C hp r p ver:=by simp [Qum2,rowAt,h]

theorem Qeru {hp : Nat → AObj Ty El} {t : TypeId} {x a : AV Ty El} {g : Bool} {ws : List (Nat × AObj Ty El)} (h : Q40g P C hp t x a = some (g,ws)) : ∀ k ∈ ws.map (·.1),hp k ≠ .gone:=by
 unfold Q40g at h
 split at h
 ·split at h
  ·rename_i hbox
   split at h
   ·split at h
    ·simp only [Option.some.injEq,Prod.mk.injEq] at h; obtain ⟨_,rfl⟩:=h; intro k hk; simp at hk; subst hk; rw [hbox]; simp
    ·cases h
   ·cases h
  ·cases h
 ·split at h
  ·rename_i hrow
   split at h
   ·split at h
    ·split at h
     ·split at h
      ·split at h
       ·rename_i hst
        split at h
        ·split at h
         ·split at h
          ·simp only [Option.some.injEq,Prod.mk.injEq] at h
           obtain ⟨_,rfl⟩:=h
           intro k hk
           simp only [List.map_cons,List.map_map,List.mem_cons] at hk
           rcases hk with rfl | hk
           ·rw [hrow]; simp
           ·exact Q17u _ _ _ _ _ _ _ hst k (by simpa using hk)
          ·cases h
         ·cases h
        ·cases h
       ·cases h
      ·cases h
     ·cases h
    ·cases h
   ·split at h
    ·split at h
     ·rename_i hr2
      split at h
      ·split at h
       ·split at h
        ·simp only [Option.some.injEq,Prod.mk.injEq] at h
         obtain ⟨_,rfl⟩:=h
         intro k hk
         simp at hk
         rcases hk with rfl | rfl
         ·rw [hrow]; simp
         ·rw [hr2]; simp
        ·cases h
       ·cases h
      ·cases h
     ·cases h
    ·cases h
  ·cases h
 ·cases h
theorem Qlk0 {hp hp' : Nat → AObj Ty El} {t : TypeId} {x a : AV Ty El} {g : Bool} {ws : List (Nat × AObj Ty El)} (h : Q40g P C hp t x a = some (g,ws)) (hh : ∀ k ∈ ws.map (·.1),hp' k = hp k) : Q40g P C hp' t x a = some (g,ws):=by
 unfold Q40g at h ⊢
 split at h
 ·rename_i r off
  split at h
  ·rename_i cs hbox
   have e : hp' r = hp r:=hh r (by
    split at h
    ·split at h
     ·simp only [Option.some.injEq,Prod.mk.injEq] at h; obtain ⟨_,rfl⟩:=h; simp
     ·cases h
    ·cases h)
   simp only [e,hbox]
   exact h
  ·cases h
 ·rename_i r p v w i j
  split at h
  ·rename_i T0 xs0 d0 vr vn m hrow
   split at h
   ·split at h
    ·rename_i R hR
     split at h
     ·rename_i gg n hs
      split at h
      ·rename_i hc
       split at h
       ·rename_i cs g' inn dm hst
        split at h
        ·rename_i y hy
         split at h
         ·rename_i xs' hset
          split at h
          ·rename_i hnd
           have h':=h
           simp only [Option.some.injEq,Prod.mk.injEq] at h'
           obtain ⟨_,rfl⟩:=h'
           have e : hp' r = hp r:=hh r (by simp)
           have hst':=Qtps (hp':=hp') _ _ _ _ _ _ _ hst (fun k hk=>hh k (by simp [hk]))
           simp only [e,hrow,Qgka e,hR,hs,hc,and_self,if_true,hst',hy,hset,hnd]
           exact h
          ·cases h
         ·cases h
        ·cases h
       ·cases h
      ·cases h
     ·cases h
    ·cases h
   ·split at h
    ·rename_i i' j' r' v'
     split at h
     ·rename_i U zs0 U' zs d' vr' vn' hc hr2
      split at h
      ·rename_i hcond
       split at h
       ·rename_i hz
        split at h
        ·rename_i hy
         have h':=h
         simp only [Option.some.injEq,Prod.mk.injEq] at h'
         obtain ⟨_,rfl⟩:=h'
         have e : hp' r = hp r:=hh r (by simp)
         have e2 : hp' r' = hp r':=hh r' (by simp)
         simp only [e,hrow,e2,hr2,hc,hz,hy]
         rw [if_pos hcond]
         exact h
        ·cases h
       ·cases h
      ·cases h
     ·cases h
    ·cases h
  ·cases h
 ·cases h

theorem Qdjf {hp hp' : Nat → AObj Ty El} {x : AV Ty El} {n : Int} {rd : List Nat} (h : lenA C hp x = some (n,rd)) (hh : ∀ r ∈ rd,hp' r = hp r) : lenA C hp' x = some (n,rd):=by
 unfold lenA at h ⊢
 split at h <;> first | exact h | skip
 ·rename_i r p ver
  split at h
  ·rename_i R hR
   simp only [Option.some.injEq,Prod.mk.injEq] at h
   obtain ⟨rfl,rfl⟩:=h
   simp only [Qgka (hh r (by simp)),hR]
  ·cases h
 ·rename_i r p ver wd lo m
  split at h
  ·rename_i R hR
   simp only [Option.some.injEq,Prod.mk.injEq] at h
   obtain ⟨rfl,rfl⟩:=h
   simp only [Qgka (hh r (by simp)),hR]
  ·cases h
theorem Qq8p {hp hp' : Nat → AObj Ty El} {x : AV Ty El} {p : (T : Ty) × List (El T)} {rd : List Nat} (h : readA C hp x = some (p,rd)) (hh : ∀ r ∈ rd,hp' r = hp r) : readA C hp' x = some (p,rd):=by
 unfold readA at h ⊢
 split at h <;> first | exact h | skip
 ·rename_i r q ver
  split at h
  ·rename_i R hR
   simp only [Option.some.injEq,Prod.mk.injEq] at h
   obtain ⟨rfl,rfl⟩:=h
   simp only [Qgka (hh r (by simp)),hR]
  ·cases h
 ·rename_i r q ver wd lo m
  split at h
  ·rename_i R hR
   split at h
   ·rename_i hw
    simp only [Option.some.injEq,Prod.mk.injEq] at h
    obtain ⟨rfl,rfl⟩:=h
    simp only [Qgka (hh r (by simp)),hR,hw,if_true]
   ·cases h
  ·cases h
theorem Qki3 {hp : Nat → AObj Ty El} {x : AV Ty El} {s : (T : Ty) × List (El T)} {rd : List Nat} (h : readA C hp x = some (s,rd)) : (∀ r p v,x = .own r p v → r ∈ rd) ∧ (∀ r p v w lo n,x = .view r p v w lo n → r ∈ rd):=by
 refine ⟨fun r p v e=>?_,fun r p v w lo n e=>?_⟩
 ·subst e
  simp only [readA] at h
  split at h
  ·simp only [Option.some.injEq,Prod.mk.injEq] at h; rw [← h.2]; simp
  ·cases h
 ·subst e
  simp only [readA] at h
  split at h
  ·split at h
   ·simp only [Option.some.injEq,Prod.mk.injEq] at h; rw [← h.2]; simp
   ·cases h
  ·cases h
theorem Q72d {hp hp' : Nat → AObj Ty El} {x : AV Ty El} {s : (T : Ty) × List (El T)} {dz : Nat} {ws : List (Nat × AObj Ty El)} {rd : List Nat} (h : srcA C hp x = some (s,dz,ws,rd)) (hh : ∀ r ∈ rd,hp' r = hp r) : srcA C hp' x = some (s,dz,ws,rd):=by
 unfold srcA at h ⊢
 split at h
 ·cases h
 ·rename_i s' rd' hread
  have hrd : rd = rd':=by
   split at h
   ·simp only [Option.some.injEq,Prod.mk.injEq] at h; exact h.2.2.2.symm
   ·repeat' (split at h)
    all_goals first | (simp only [Option.some.injEq,Prod.mk.injEq] at h; exact h.2.2.2.symm) | (cases h; done)
  subst hrd
  obtain ⟨h1,h2⟩:=Qki3 hread
  simp only [Qq8p hread hh]
  split at h
  ·rename_i h0
   rw [if_pos h0]; exact h
  ·rename_i h0
   rw [if_neg h0]
   cases x with
   | own r p v=>simp only [hh r (h1 r p v rfl)]; exact h
   | view r p v w lo n=>simp only [hh r (h2 r p v w lo n rfl)]; exact h
   | _=>exact h
theorem Qkfm {hp : Nat → AObj Ty El} {x : AV Ty El} {s : (T : Ty) × List (El T)} {dz : Nat} {ws : List (Nat × AObj Ty El)} {rd : List Nat} (h : srcA C hp x = some (s,dz,ws,rd)) : ∀ k ∈ ws.map (·.1),hp k ≠ .gone:=by
 unfold srcA at h
 split at h
 ·cases h
 ·split at h
  ·simp only [Option.some.injEq,Prod.mk.injEq] at h; obtain ⟨_,_,rfl,_⟩:=h; intro k hk; simp at hk
  ·split at h
   ·simp only [Option.some.injEq,Prod.mk.injEq] at h; obtain ⟨_,_,rfl,_⟩:=h; intro k hk; simp at hk
   ·split at h
    ·rename_i hr
     repeat' (split at h)
     all_goals (simp only [Option.some.injEq,Prod.mk.injEq] at h; obtain ⟨_,_,rfl,_⟩:=h; intro k hk; simp at hk <;> (subst hk; rw [hr]; simp))
    ·cases h
   ·split at h
    ·rename_i hr
     repeat' (split at h)
     all_goals (simp only [Option.some.injEq,Prod.mk.injEq] at h; obtain ⟨_,_,rfl,_⟩:=h; intro k hk; simp at hk <;> (subst hk; rw [hr]; simp))
    ·cases h
   ·cases h

theorem Qrrh {hp : Nat → AObj Ty El} {t : TypeId} {fresh : Nat} {s x : AV Ty El} {r : OpRes Ty El} (h : Q67l P C t hp fresh s x = some r) : ∀ k ∈ r.wr.map (·.1),hp k ≠ .gone ∨ k = fresh:=by
 unfold Q67l at h
 split at h
 ·cases h
 split at h
 ·cases h
 split at h
 ·cases h
 rename_i hsrc
 have hk:=Qkfm hsrc
 split at h
 ·cases h
 split at h
 ·simp only [Option.some.injEq] at h; subst h; intro k hkk
  simp only [List.map_cons,List.mem_cons] at hkk
  exact hkk.elim .inr (fun h=>.inl (hk k h))
 ·split at h
  ·cases h
  split at h
  case h_2=>cases h
  rename_i hrow
  split at h
  ·split at h
   ·split at h
    ·simp only [Option.some.injEq] at h; subst h; intro k hkk
     simp only [List.map_cons,List.mem_cons] at hkk
     exact hkk.elim (fun h=>.inl (by rw [h,hrow]; simp)) (fun h=>.inl (hk k h))
    ·cases h
   ·cases h
  ·split at h
   ·split at h
    ·simp only [Option.some.injEq] at h; subst h; intro k hkk
     simp only [List.map_append,List.map_cons,List.map_nil,List.mem_append,List.mem_cons,List.not_mem_nil,or_false] at hkk
     rcases hkk with (h1 | h1) | h1
     ·exact .inl (by rw [h1,hrow]; simp)
     ·exact .inr h1
     ·exact .inl (hk k h1)
    ·cases h
   ·cases h
 ·cases h
theorem Qxb6 {hp hp' : Nat → AObj Ty El} {t : TypeId} {fresh : Nat} {s x : AV Ty El} {r : OpRes Ty El} (h : Q67l P C t hp fresh s x = some r) (hh : ∀ k ∈ r.rd,hp' k = hp k) : Q67l P C t hp' fresh s x = some r:=by
 unfold Q67l at h ⊢
 split at h
 ·cases h
 rename_i e he
 split at h
 ·cases h
 rename_i T hT
 split at h
 ·cases h
 rename_i S ys dz ws rd hsrc
 split at h
 ·cases h
 rename_i zs hc
 split at h
 ·have h':=h
  simp only [Option.some.injEq] at h'
  subst h'
  simp only [Q72d hsrc hh,hc]
 ·rename_i r0 p v
  split at h
  ·cases h
  rename_i hk
  split at h
  case h_2=>cases h
  rename_i R us d vr vn hrow
  split at h
  ·split at h
   ·rename_i hv
    split at h
    ·rename_i hc2
     have h':=h
     simp only [Option.some.injEq] at h'
     subst h'
     have h0 : hp' r0 = hp r0:=hh r0 (by simp)
     simp only [Q72d hsrc (fun k hk=>hh k (by simp [hk])),hc,h0,hrow,hv,if_true,hc2]
     rw [if_neg hk]
    ·cases h
   ·cases h
  ·rename_i hp0
   split at h
   ·rename_i hR
    split at h
    ·rename_i hc2 hset
     have h':=h
     simp only [Option.some.injEq] at h'
     subst h'
     have h0 : hp' r0 = hp r0:=hh r0 (by simp)
     simp only [Q72d hsrc (fun k hk=>hh k (by simp [hk])),hc,h0,hrow,Qgka h0,hR,hc2,hset]
     rw [if_neg hk]
    ·cases h
   ·cases h
 ·cases h

theorem Q0lv {E : Tab Ty El} {g : FuncId} {args : List (AV Ty El)} {fresh : Nat} {hp : Nat → AObj Ty El} {r : OpRes Ty El} (h : callA C E g args fresh hp = some r) :
  ∃ e,E.find g = some e ∧ ∀ k ∈ r.wr.map (·.1),hp k ≠ .gone ∨ (fresh ≤ k ∧ k < fresh + e.need):=by
 unfold callA at h
 split at h
 ·cases h
 ·rename_i e he
  refine ⟨e,he, ?_⟩
  split at h
  ·cases h
  rename_i hs hhL
  split at h
  case h_2=>cases h
  rename_i xs H hxs hO
  split at h
  ·cases h
  split at h
  case h_2=>cases h
  rename_i ws news v hback hren
  split at h
  case h_2=>cases h
  rename_i ws' hnew
  split at h
  case isFalse=>cases h
  rename_i hcond
  simp only [Option.some.injEq] at h
  subst h
  intro k hk
  simp only [List.map_append,List.mem_append] at hk
  rcases hk with hk | hk
  ·left
   rw [(Qbem hs _ ws news hback).1] at hk
   obtain ⟨h,hh,rfl⟩:=List.mem_map.1 hk
   obtain ⟨n,hn⟩:=List.getElem?_of_mem hh
   obtain ⟨_,hinv⟩:=Qqye hs 0 H hO
   obtain ⟨o,_,hc⟩:=hinv n h hn
   rcases hc with ⟨r,p,T,xs,d,vr,vn,R,rfl,hr,_⟩ | ⟨r,cs,ds,rfl,hr,_⟩
   ·show hp r ≠ _; rw [hr]; simp
   ·show hp r ≠ _; rw [hr]; simp
  ·right
   obtain ⟨hn1,hn2⟩:=Qswq news fresh ws' hnew
   have:=(Q83v (ws:=ws') (fresh:=fresh) (fun i p hp'=>by
    have hi : i < news.length:=by rw [← hn1]; exact (List.getElem?_eq_some_iff.1 hp').1
    obtain ⟨o',_,h2⟩:=hn2 i _ (List.getElem?_eq_getElem hi)
    rw [hp'] at h2; simp only [Option.some.injEq] at h2; rw [h2])).2 k hk
   rw [hn1] at this
   omega

theorem Qlg8 {E : Tab Ty El} {o : Oper} {fresh : Nat} {hp : Nat → AObj Ty El} {t : TypeId} {m k x : AV Ty El} {r : OpRes Ty El} (h : updM P C hp t m k x = some r) : Qo7k E o fresh hp r.wr:=by
 unfold updM at h
 split at h
 ·rename_i r0
  split at h
  ·rename_i K V es hr
   split at h
   ·split at h
    ·simp only [Option.some.injEq] at h
     subst h
     intro k hk
     simp at hk
     subst hk
     exact .inl (by rw [hr]; simp)
    ·cases h
   ·cases h
  ·cases h
 ·cases h

theorem Qe44 {E : Tab Ty El} {o : Oper} {fresh : Nat} {tm : Nat → AV Ty El} {hp : Nat → AObj Ty El} {r : OpRes Ty El} (h : opF P C E o fresh tm hp = some r) : Qo7k E o fresh hp r.wr:=by
 have nil : ∀ v rd g,r = ⟨g,v,[],rd⟩ → Qo7k E o fresh hp r.wr:=fun v rd g e=>by subst e; intro k hk; simp at hk
 have one : ∀ v rd g ob,Qojn E o = 1 → r = ⟨g,v,[(fresh,ob)],rd⟩ → Qo7k E o fresh hp r.wr:=fun v rd g ob hn e=>by
  subst e; intro k hk; simp at hk; subst hk; exact .inr ⟨Nat.le_refl _,by omega⟩
 unfold opF at h
 split at h
 ·simp only [okr,Option.some.injEq] at h; exact nil _ _ _ h.symm
 ·rename_i x ho
  split at h
  ·split at h
   ·simp only [Option.some.injEq] at h; exact one _ _ _ _ (by simp [Qojn,ho]) h.symm
   ·simp only [okr,Option.some.injEq] at h; exact nil _ _ _ h.symm
  ·simp only [okr,Option.some.injEq] at h; exact nil _ _ _ h.symm
 ·rename_i t ho
  split at h
  ·split at h
   ·simp only [Option.some.injEq] at h; exact one _ _ _ _ (by simp [Qojn,ho]) h.symm
   ·cases h
  ·cases h
 ·rename_i t x ho
  split at h
  ·simp only [Option.some.injEq] at h; exact one _ _ _ _ (by simp [Qojn,ho]) h.symm
  ·cases h
 ·split at h
  ·split at h
   ·split at h
    ·split at h
     ·simp only [okr,Option.some.injEq] at h; exact nil _ _ _ h.symm
     ·cases h
    ·cases h
   ·cases h
  ·cases h
 ·rename_i t n ps ho
  split at h
  ·split at h
   ·split at h
    ·rename_i hel
     split at h
     ·have hin:=Qoo8 _ _ _ _ _ hel
      split at h
      all_goals
       simp only [Option.some.injEq] at h
       subst h
       intro k hk
       simp only [List.map_cons,List.map_map,List.mem_cons] at hk
       rcases hk with rfl | hk
       ·exact .inr ⟨Nat.le_refl _,by simp [Qojn,ho]⟩
       ·exact .inl (hin k (by simpa using hk))
     ·cases h
    ·cases h
   ·cases h
  ·cases h
 ·split at h
  ·simp only [Option.some.injEq] at h; exact nil _ _ _ h.symm
  ·cases h
 ·split at h
  ·rename_i hst
   simp only [Option.some.injEq] at h
   subst h
   intro k hk
   exact .inl (Qeru hst k hk)
  ·cases h
 ·split at h <;> first | (simp only [okr,Option.some.injEq] at h; exact nil _ _ _ h.symm) | (cases h; done)
 ·split at h
  ·simp only [Option.some.injEq] at h; exact nil _ _ _ h.symm
  ·cases h
 ·split at h <;> first | (simp only [okr,Option.some.injEq] at h; exact nil _ _ _ h.symm) | (cases h; done)
 ·split at h
  ·simp only [okr,Option.some.injEq] at h; exact nil _ _ _ h.symm
  ·simp only [okr,Option.some.injEq] at h; exact nil _ _ _ h.symm
  ·split at h
   ·split at h
    ·split at h
     ·split at h
      ·simp only [Option.some.injEq] at h; exact nil _ _ _ h.symm
      ·cases h
     ·cases h
    ·cases h
   ·cases h
  ·cases h
 ·split at h
  ·simp only [okr,Option.some.injEq] at h; exact nil _ _ _ h.symm
  ·cases h
 ·unfold Qkrz at h
  split at h
  ·split at h
   ·split at h
    ·simp only [Option.some.injEq] at h; exact nil _ _ _ h.symm
    ·cases h
   ·cases h
  ·split at h
   ·split at h
    ·simp only [Option.some.injEq] at h; exact nil _ _ _ h.symm
    ·cases h
   ·cases h
  ·split at h
   ·split at h
    ·split at h
     ·simp only [Option.some.injEq] at h; exact nil _ _ _ h.symm
     ·cases h
    ·cases h
   ·cases h
  ·cases h
 ·split at h
  ·split at h <;> first | (simp only [okr,Option.some.injEq] at h; exact nil _ _ _ h.symm) | (cases h; done)
  ·cases h
 ·split at h
  ·split at h
   ·split at h
    ·simp only [okr,Option.some.injEq] at h; exact nil _ _ _ h.symm
    ·cases h
   ·cases h
  ·cases h
 ·split at h
  ·unfold Qqui at h
   split at h
   ·split at h
    ·simp only [Option.some.injEq] at h; exact nil _ _ _ h.symm
    ·cases h
   ·split at h
    ·split at h
     ·simp only [Option.some.injEq] at h; exact nil _ _ _ h.symm
     ·cases h
    ·cases h
   ·split at h
    ·split at h
     ·simp only [Option.some.injEq] at h; exact nil _ _ _ h.symm
     ·cases h
    ·cases h
   ·split at h
    ·split at h
     ·simp only [Option.some.injEq] at h; exact nil _ _ _ h.symm
     ·cases h
    ·cases h
   ·split at h
    ·split at h
     ·simp only [Option.some.injEq] at h; exact nil _ _ _ h.symm
     ·cases h
    ·cases h
   ·cases h
  ·cases h
 ·split at h
  ·split at h
   ·simp only [Option.some.injEq] at h; exact nil _ _ _ h.symm
   ·cases h
  ·split at h
   ·split at h
    ·split at h
     ·simp only [Option.some.injEq] at h; exact nil _ _ _ h.symm
     ·cases h
    ·cases h
   ·cases h
  ·cases h
 ·split at h
  ·split at h
   ·simp only [okr,Option.some.injEq] at h; exact nil _ _ _ h.symm
   ·cases h
  ·cases h
 ·rename_i c ho
  split at h
  ·rename_i b hcal
   unfold Q3m4 at h
   split at h
   ·split at h
    ·split at h
     ·split at h
      ·simp only [Option.some.injEq] at h; exact nil _ _ _ h.symm
      ·cases h
     ·split at h
      ·simp only [Option.some.injEq] at h; exact nil _ _ _ h.symm
      ·cases h
    ·cases h
   ·split at h
    ·split at h
     ·intro k hk
      rcases Qrrh h k hk with h1 | h1
      ·exact .inl h1
      ·exact .inr ⟨by omega,by simp only [Qojn,ho,hcal]; omega⟩
     ·cases h
    ·cases h
   ·split at h
    ·simp only [okr,Option.some.injEq] at h; exact nil _ _ _ h.symm
    ·cases h
   ·split at h
    ·simp only [okr,Option.some.injEq] at h; exact nil _ _ _ h.symm
    ·cases h
   ·cases h
  ·rename_i f hcal
   split at h
   ·rename_i g caps hf
    split at h
    ·rename_i hdyn
     obtain ⟨e,he,hk⟩:=Q0lv h
     intro k hkm
     rcases hk k hkm with h1 | h1
     ·exact .inl h1
     ·refine .inr ⟨h1.1, ?_⟩
      cases f with
      | func g0 =>
       simp only [evalO,AV.fn.injEq,Fn.func.injEq] at hf
       obtain ⟨rfl,_⟩:=hf
       simp only [Qojn,ho,hcal,he]; exact h1.2
      | tmp t=>simp only [dynOk,he,decide_eq_true_eq] at hdyn; simp only [Qojn,ho,hcal]; omega
      | const v=>simp only [dynOk,he,decide_eq_true_eq] at hdyn; simp only [Qojn,ho,hcal]; omega
      | global v=>simp only [dynOk,he,decide_eq_true_eq] at hdyn; simp only [Qojn,ho,hcal]; omega
    ·cases h
   ·cases h
  ·cases h
 ·rename_i t ho
  split at h
  ·simp only [Option.some.injEq] at h; exact one _ _ _ _ (by simp [Qojn,ho]) h.symm
  ·cases h
 ·unfold lookA at h
  repeat' (split at h)
  all_goals first | (simp only [Option.some.injEq] at h; exact nil _ _ _ h.symm) | cases h
 ·exact Qlg8 h
 ·exact Qlg8 h
 ·rename_i t l c ho
  unfold makeA at h
  repeat' (split at h)
  all_goals first | (simp only [Option.some.injEq] at h; exact one _ _ _ _ (by simp [Qojn,ho]) h.symm) | cases h
 ·cases h

end
end Lx
namespace Lx
open Go
section
variable {Ty : Type} {El : Ty → Type} {C : Cod Ty El} {P : Program}

theorem Qukx {tm tm' : Nat → AV Ty El} {x : Operand} (h : ∀ t,x = .tmp t → tm' t = tm t) : evalO tm' x = evalO tm x:=by
 cases x with
 | tmp t=>exact h t rfl
 | _=>rfl

theorem Qls1 {hp hp' : Nat → AObj Ty El} : ∀ (n : Nat) (v : AV Ty El),(∀ r ∈ Qgsz hp n v,hp' r = hp r) → Qgsz hp' n v = Qgsz hp n v:=by
 intro n
 induction n with
 | zero=>intro v _; rfl
 | succ n ih =>
  intro v h
  have kids : ∀ cs : List (AV Ty El),(∀ r ∈ cs.flatMap (Qgsz hp n),hp' r = hp r) → cs.flatMap (Qgsz hp' n) = cs.flatMap (Qgsz hp n):=by
   intro cs hc
   have : ∀ c ∈ cs,Qgsz hp' n c = Qgsz hp n c:=fun c hcm=>ih c (fun r hr=>hc r (List.mem_flatMap.2 ⟨c,hcm,hr⟩))
   rw [List.flatMap_def,List.flatMap_def,List.map_congr_left this]
  cases v with
  | ptr r off =>
   have hr : hp' r = hp r:=h r (by simp [Qgsz])
   simp only [Qgsz,hr] at h ⊢
   cases hb : hp r with
   | box cs=>rw [hb] at h; simp only; rw [kids cs (fun r' hr'=>h r' (List.mem_cons_of_mem _ hr'))]
   | _=>rfl
  | agg cs=>simp only [Qgsz] at h ⊢; exact kids cs h
  | tup cs=>simp only [Qgsz] at h ⊢; exact kids cs h
  | fn f cs=>simp only [Qgsz] at h ⊢; exact kids cs h
  | _=>rfl

theorem Q1ad {α β : Type} {f g : α → Option β} : ∀ {l : List α},(∀ a ∈ l,f a = g a) → omap f l = omap g l
 | [],_=>rfl
 | a :: l,h=>by
  simp only [omap]
  rw [h a List.mem_cons_self,Q1ad (fun x hx=>h x (List.mem_cons_of_mem _ hx))]

theorem Q34v {hp hp' : Nat → AObj Ty El} : ∀ (n : Nat) (v : AV Ty El),(∀ r ∈ Qgsz hp n v,hp' r = hp r) → lend C hp' n v = lend C hp n v:=by
 intro n
 induction n with
 | zero=>intro v _; rfl
 | succ n ih =>
  intro v h
  have kids : ∀ cs : List (AV Ty El),(∀ r ∈ cs.flatMap (Qgsz hp n),hp' r = hp r) → omap (lend C hp' n) cs = omap (lend C hp n) cs :=
   fun cs hc=>Q1ad fun c hcm=>ih c (fun r hr=>hc r (List.mem_flatMap.2 ⟨c,hcm,hr⟩))
  cases v with
  | own r p ver=>simp only [lend]; rw [Qgka (h r (by simp [Qgsz]))]
  | view r p ver w lo m=>simp only [lend]; rw [Qgka (h r (by simp [Qgsz]))]
  | eptr r p ver w i j=>simp only [lend]; rw [Qgka (h r (by simp [Qgsz]))]
  | ptr r off =>
   have hr : hp' r = hp r:=h r (by simp [Qgsz])
   simp only [Qgsz] at h
   simp only [lend,hr]
   cases hb : hp r with
   | box cs=>rw [hb] at h; simp only; rw [kids cs (fun r' hr'=>h r' (List.mem_cons_of_mem _ hr'))]
   | _=>rfl
  | agg cs=>simp only [Qgsz] at h; simp only [lend]; rw [kids cs h]
  | fn f cs=>simp only [Qgsz] at h; simp only [lend]; rw [kids cs h]
  | _=>rfl

theorem Qzac {hp hp' : Nat → AObj Ty El} {iol : List Nat} : ∀ (args : List (AV Ty El)) (ms : List Md),(∀ r ∈ args.flatMap (Qgsz hp 4),hp' r = hp r) → Q3h4 hp' iol ms args = Q3h4 hp iol ms args:=by
 intro args
 induction args with
 | nil=>intro ms _; cases ms with | nil=>rfl | cons m ms=>cases m <;> rfl
 | cons v vs ih =>
  intro ms h
  have hv : ∀ r ∈ Qgsz hp 4 v,hp' r = hp r:=fun r hr=>h r (by simp only [List.flatMap_cons,List.mem_append]; exact .inl hr)
  have hvs : ∀ r ∈ vs.flatMap (Qgsz hp 4),hp' r = hp r:=fun r hr=>h r (by simp only [List.flatMap_cons,List.mem_append]; exact .inr hr)
  cases ms with
  | nil=>simp only [Q3h4]; rw [Qls1 4 v hv,ih [] hvs]
  | cons m ms =>
   cases m with
   | ro=>simp only [Q3h4]; rw [Qls1 4 v hv,ih ms hvs]
   | io=>simp only [Q3h4]; rw [ih ms hvs]
   | al=>simp only [Q3h4]; rw [ih ms hvs]


theorem Qhx0 {hp : Nat → AObj Ty El} : ∀ (args : List (AV Ty El)) (ms : List Md) (hs : List Hnd),handL C hp ms args = some hs → ∀ h ∈ hs,h.r ∈ args.flatMap (Qgsz hp 4) ∧ ∀ r cs,h = .box r → hp r = .box cs → ∀ r' p v,.own r' p v ∈ cs → r' ∈ args.flatMap (Qgsz hp 4):=by
 have ownsMem : ∀ (cs : List (AV Ty El)) (h : Hnd),h ∈ ownsL cs → (∃ r p v,h = .row r p ∧ .own r p v ∈ cs):=by
  intro cs
  induction cs with
  | nil=>intro h hh; simp [ownsL] at hh
  | cons c cs ih =>
   intro h hh
   have rest : h ∈ ownsL cs → ∃ r p v,h = .row r p ∧ AV.own r p v ∈ c :: cs:=fun h1=>by
    obtain ⟨r,p,v,h2,h3⟩:=ih h h1
    exact ⟨r,p,v,h2,List.mem_cons_of_mem _ h3⟩
   cases c with
   | own r p v =>
    simp only [ownsL,List.mem_cons] at hh
    rcases hh with rfl | hh
    ·exact ⟨r,p,v,rfl,by simp⟩
    ·exact rest hh
   | _=>exact rest hh
 intro args
 induction args with
 | nil =>
  intro ms hs h h0 hh
  have : hs = []:=by cases ms <;> simp [handL] at h <;> first | exact h | exact h.symm
  subst this; simp at hh
 | cons v vs ih =>
  intro ms hs h h0 hh
  have up : ∀ r,r ∈ vs.flatMap (Qgsz hp 4) → r ∈ (v :: vs).flatMap (Qgsz hp 4):=fun r hr=>by simp only [List.flatMap_cons,List.mem_append]; exact .inr hr
  have at0 : ∀ r,r ∈ Qgsz hp 4 v → r ∈ (v :: vs).flatMap (Qgsz hp 4):=fun r hr=>by simp only [List.flatMap_cons,List.mem_append]; exact .inl hr
  cases ms with
  | nil=>simp only [handL,Option.some.injEq] at h; subst h; simp at hh
  | cons m ms =>
   simp only [handL] at h
   split at h
   ·cases h
   rename_i l hl
   have tail : h0 ∈ l → h0.r ∈ (v :: vs).flatMap (Qgsz hp 4) ∧ ∀ r cs,h0 = .box r → hp r = .box cs → ∀ r' p v',.own r' p v' ∈ cs → r' ∈ (v :: vs).flatMap (Qgsz hp 4):=fun h1=>by
    obtain ⟨h2,h3⟩:=ih ms l hl h0 h1
    exact ⟨up _ h2,fun r cs e1 e2 r' p v' hm=>up _ (h3 r cs e1 e2 r' p v' hm)⟩
   cases m with
   | ro=>simp only [Option.some.injEq] at h; subst h; exact tail hh
   | al=>simp only [Option.some.injEq] at h; subst h; exact tail hh
   | io =>
    simp only at h
    split at h
    ·rename_i r p ver
     simp only [Option.some.injEq] at h; subst h
     simp only [List.mem_cons] at hh
     rcases hh with rfl | hh
     ·exact ⟨at0 _ (by simp [Qgsz,Hnd.r]),fun r cs e=>by cases e⟩
     ·exact tail hh
    ·rename_i r p ver w i j
     simp only [Option.some.injEq] at h; subst h
     simp only [List.mem_cons] at hh
     rcases hh with rfl | hh
     ·exact ⟨at0 _ (by simp [Qgsz,Hnd.r]),fun r cs e=>by cases e⟩
     ·exact tail hh
    ·rename_i r
     split at h
     ·rename_i cs hb
      simp only [Option.some.injEq] at h; subst h
      have kids : ∀ r' p v',AV.own r' p v' ∈ cs → r' ∈ Qgsz hp 4 (.ptr r 0 : AV Ty El):=fun r' p v' hm=>by
       simp only [Qgsz,hb,List.mem_cons]
       exact .inr (List.mem_flatMap.2 ⟨_,hm,by simp [Qgsz]⟩)
      simp only [List.mem_cons,List.mem_append] at hh
      rcases hh with rfl | hh | hh
      ·refine ⟨at0 _ (by simp [Qgsz,Hnd.r]),fun r2 cs2 e1 e2 r' p v' hm=>?_⟩
       simp only [Hnd.box.injEq] at e1
       subst e1
       rw [hb] at e2
       simp only [AObj.box.injEq] at e2
       subst e2
       exact at0 _ (kids r' p v' hm)
      ·obtain ⟨r',p,v',rfl,hm⟩:=ownsMem cs h0 hh
       exact ⟨at0 _ (kids r' p v' hm),fun r cs e=>by cases e⟩
      ·exact tail hh
     ·cases h
    ·rename_i cs
     simp only [Option.some.injEq] at h; subst h
     simp only [List.mem_append] at hh
     rcases hh with hh | hh
     ·obtain ⟨r',p,v',rfl,hm⟩:=ownsMem cs h0 hh
      exact ⟨at0 _ (by simp only [Qgsz]; exact List.mem_flatMap.2 ⟨_,hm,by simp [Qgsz,Hnd.r]⟩),fun r cs e=>by cases e⟩
     ·exact tail hh
    ·cases h

theorem Q29r {hp hp' : Nat → AObj Ty El} : ∀ (args : List (AV Ty El)) (ms : List Md),(∀ r ∈ args.flatMap (Qgsz hp 4),hp' r = hp r) → handL C hp' ms args = handL C hp ms args:=by
 intro args
 induction args with
 | nil=>intro ms _; cases ms <;> rfl
 | cons v vs ih =>
  intro ms h
  have hv : ∀ r ∈ Qgsz hp 4 v,hp' r = hp r:=fun r hr=>h r (by simp only [List.flatMap_cons,List.mem_append]; exact .inl hr)
  have hvs : ∀ r ∈ vs.flatMap (Qgsz hp 4),hp' r = hp r:=fun r hr=>h r (by simp only [List.flatMap_cons,List.mem_append]; exact .inr hr)
  cases ms with
  | nil=>rfl
  | cons m ms =>
   simp only [handL]
   rw [ih ms hvs]
   cases m with
   | io =>
    cases v with
    | ptr r off =>
     have hr : hp' r = hp r:=hv r (by simp [Qgsz])
     cases off with
     | zero=>simp only [hr]
     | succ off=>rfl
    | _=>rfl
   | _=>rfl

theorem Qnpy {hp hp' : Nat → AObj Ty El} : ∀ (cs : List (AV Ty El)) (k : Nat),(∀ r p v,AV.own r p v ∈ cs → hp' r = hp r) → Qlqh C hp' cs k = Qlqh C hp cs k
 | [],_,_=>rfl
 | c :: cs,k,h=>by
  have ht : ∀ k,Qlqh C hp' cs k = Qlqh C hp cs k:=fun k=>Qnpy cs k (fun r p v hm=>h r p v (List.mem_cons_of_mem _ hm))
  cases c with
  | own r p v=>simp only [Qlqh]; rw [Qgka (h r p v (by simp)),ht]
  | _=>simp only [Qlqh]; rw [ht]

theorem Q93n {hp hp' : Nat → AObj Ty El} : ∀ (hs : List Hnd) (k : Nat),(∀ h ∈ hs,hp' h.r = hp h.r ∧ ∀ r cs,h = .box r → hp r = .box cs → ∀ r' p v,AV.own r' p v ∈ cs → hp' r' = hp r') → Qdpt C hp' hs k = Qdpt C hp hs k
 | [],_,_=>rfl
 | h :: hs,k,hh=>by
  obtain ⟨h1,h2⟩:=hh h (by simp)
  have ht : Qdpt C hp' hs (k + 1) = Qdpt C hp hs (k + 1):=Q93n hs (k + 1) (fun h' hm=>hh h' (List.mem_cons_of_mem _ hm))
  cases h with
  | row r p =>
   have h1 : hp' r = hp r:=h1
   simp only [Qdpt,h1,ht,Qgka h1]
  | box r =>
   have h1 : hp' r = hp r:=h1
   simp only [Qdpt,h1,ht]
   cases hb : hp r with
   | box cs=>simp only [Qnpy cs (k + 1) (h2 r cs rfl hb)]
   | _=>rfl

theorem Qr1a {hp hp' : Nat → AObj Ty El} {hs : List Hnd} : ∀ (args : List (AV Ty El)) (ms : List Md) (k : Nat),(∀ r ∈ args.flatMap (Qgsz hp 4),hp' r = hp r) → Qa5i C hp' hs ms args k = Qa5i C hp hs ms args k:=by
 intro args
 induction args with
 | nil=>intro ms k _; cases ms <;> rfl
 | cons v vs ih =>
  intro ms k h
  have hv : ∀ r ∈ Qgsz hp 4 v,hp' r = hp r:=fun r hr=>h r (by simp only [List.flatMap_cons,List.mem_append]; exact .inl hr)
  have hvs : ∀ r ∈ vs.flatMap (Qgsz hp 4),hp' r = hp r:=fun r hr=>h r (by simp only [List.flatMap_cons,List.mem_append]; exact .inr hr)
  cases ms with
  | nil=>simp only [Qa5i]; rw [Q34v 4 v hv,ih [] k hvs]
  | cons m ms =>
   cases m with
   | ro=>simp only [Qa5i]; rw [Q34v 4 v hv,ih ms k hvs]
   | al =>
    cases v with
    | own r p ver =>
     have hr : hp' r = hp r:=hv r (by simp [Qgsz])
     cases p with
     | nil=>simp only [Qa5i,Qgka hr,ih ms k hvs]
     | cons q p=>rfl
    | eptr r p ver w i j =>
     have hr : hp' r = hp r:=hv r (by simp [Qgsz])
     cases p with
     | nil=>simp only [Qa5i,Qgka hr,ih ms k hvs]
     | cons q p=>rfl
    | _=>rfl
   | io =>
    cases v with
    | ptr r off =>
     cases off with
     | zero =>
      have hr : hp' r = hp r:=hv r (by simp [Qgsz])
      simp only [Qa5i,hr]
      cases hb : hp r with
      | box cs=>simp only [ih ms _ hvs]
      | _=>rfl
     | succ off=>rfl
    | own r p ver =>
     have hr : hp' r = hp r:=hv r (by simp [Qgsz])
     simp only [Qa5i,Qgka hr,ih ms (k + 1) hvs]
    | eptr r p ver w i j =>
     have hr : hp' r = hp r:=hv r (by simp [Qgsz])
     simp only [Qa5i,Qgka hr,ih ms (k + 1) hvs]
    | agg cs =>
     simp only [Qa5i]
     rw [Qnpy cs k (fun r p v' hm=>hv r (by simp only [Qgsz]; exact List.mem_flatMap.2 ⟨_,hm,by simp [Qgsz]⟩)),ih ms _ hvs]
    | _=>rfl

theorem Qex5 {hp hp' : Nat → AObj Ty El} {f : Nat → Option Tgt} {h : Hnd} {o : AObj Ty El} (hh : hp' h.r = hp h.r) : Q9az C hp' f h o = Q9az C hp f h o:=by
 cases h with
 | row r p =>
  have hh : hp' r = hp r:=hh
  unfold Q9az; simp only [hh]
 | box r =>
  have hh : hp' r = hp r:=hh
  unfold Q9az; simp only [hh]
theorem Qxjj {hp hp' : Nat → AObj Ty El} {f : Nat → Option Tgt} : ∀ (hs : List Hnd) (H : List (AObj Ty El)),(∀ h ∈ hs,hp' h.r = hp h.r) → Qohv C hp' f hs H = Qohv C hp f hs H
 | [],_,_=>by simp [Qohv]
 | h :: hs,[],_=>by simp [Qohv]
 | h :: hs,o :: H,hh=>by
  simp only [Qohv]
  rw [Qex5 (hh h List.mem_cons_self),Qxjj hs H (fun r' hr'=>hh r' (List.mem_cons_of_mem _ hr'))]
theorem Qf5n {hp hp' : Nat → AObj Ty El} {hs : List Hnd} {H' : List (AObj Ty El)} {fresh : Nat} (hh : ∀ h ∈ hs,hp' h.r = hp h.r) : backF hp' hs H' fresh = backF hp hs H' fresh:=by
 funext k
 unfold backF
 split
 ·split
  ·split
   ·rename_i r p hk
    have : hp' r = hp r:=hh _ (List.mem_of_getElem? hk)
    rw [this]
   ·rfl
  ·rfl
 ·rfl
 ·rfl

theorem Qggh {E : Tab Ty El} {g : FuncId} {args : List (AV Ty El)} {fresh : Nat} {hp hp' : Nat → AObj Ty El} (h : ∀ r ∈ args.flatMap (Qgsz hp 4),hp' r = hp r) : callA C E g args fresh hp' = callA C E g args fresh hp:=by
 unfold callA
 cases E.find g with
 | none=>rfl
 | some e =>
  simp only
  rw [Q29r args e.mode h]
  cases hhL : handL C hp e.mode args with
  | none=>rfl
  | some hs =>
   have hrefs:=Qhx0 args e.mode hs hhL
   have hhs : ∀ h0 ∈ hs,hp' h0.r = hp h0.r:=fun h0 hm=>h _ (hrefs h0 hm).1
   simp only
   rw [Qr1a args e.mode 0 h,Q93n hs 0 (fun h0 hm=>⟨hhs h0 hm,fun r cs e1 e2 r' p v hm2=>h _ ((hrefs h0 hm).2 r cs e1 e2 r' p v hm2)⟩)]
   cases Qa5i C hp hs e.mode args 0 with
   | none=>rfl
   | some xs =>
    cases Qdpt C hp hs 0 with
    | none=>rfl
    | some H =>
     simp only
     cases e.sum xs H with
     | none=>rfl
     | some q =>
      obtain ⟨c,res,H'⟩:=q
      simp only
      rw [Qf5n hhs,Qxjj hs H' hhs,Qzac args e.mode h]
      have hrd : args.flatMap (Qgsz hp' 4) = args.flatMap (Qgsz hp 4):=by
       have : ∀ c ∈ args,Qgsz hp' 4 c = Qgsz hp 4 c:=fun c hc=>Qls1 4 c (fun r hr=>h r (List.mem_flatMap.2 ⟨c,hc,hr⟩))
       rw [List.flatMap_def,List.flatMap_def,List.map_congr_left this]
      rw [hrd]

theorem Qtin {E : Tab Ty El} {g : FuncId} {args : List (AV Ty El)} {fresh : Nat} {hp : Nat → AObj Ty El} {r : OpRes Ty El} (h : callA C E g args fresh hp = some r) : r.rd = args.flatMap (Qgsz hp 4):=by
 unfold callA at h
 split at h
 ·cases h
 split at h
 ·cases h
 split at h
 case h_2=>cases h
 split at h
 ·cases h
 split at h
 case h_2=>cases h
 split at h
 case h_2=>cases h
 split at h
 case isFalse=>cases h
 simp only [Option.some.injEq] at h
 rw [← h]

theorem Qoxy {E : Tab Ty El} {o : Oper} {fresh : Nat} {tm tm' : Nat → AV Ty El} {hp : Nat → AObj Ty El} (hev : ∀ x ∈ o.op.operands.toList,evalO tm' x = evalO tm x) :
  opF P C E o fresh tm' hp = opF P C E o fresh tm hp:=by
 unfold opF
 have parts : ∀ ps : Array (Nat × Operand),(∀ x ∈ (ps.toList.map (·.2)),evalO tm' x = evalO tm x) → Qner tm' ps.toList = Qner tm ps.toList:=fun ps h =>
  List.map_congr_left fun p hp=>by rw [h p.2 (List.mem_map.2 ⟨p,hp,rfl⟩)]
 have bnd : ∀ (d : Int) (x : Option Operand),(∀ y,x = some y → evalO tm' y = evalO tm y) → Q8tx tm' d x = Q8tx tm d x:=fun d x h=>by
  cases x with
  | none=>rfl
  | some y=>simp only [Q8tx,h y rfl]
 cases hop : o.op <;> rw [hop] at hev
 case move x=>simp only; rw [hev x (by simp [Op.operands])]
 case assign x=>simp only; rw [hev x (by simp [Op.operands])]
 case box t x=>simp only; rw [hev x (by simp [Op.operands])]
 case build t ps =>
  have:=parts ps (fun x hx=>hev x (by simpa [Op.operands] using hx))
  simp only; rw [this]
 case buildSlice t n ps =>
  have:=parts ps (fun x hx=>hev x (by simpa [Op.operands] using hx))
  simp only; rw [this]
 case load t x=>simp only; rw [hev x (by simp [Op.operands])]
 case store t a x=>simp only; rw [hev a (by simp [Op.operands]),hev x (by simp [Op.operands])]
 case nilCheck x=>simp only; rw [hev x (by simp [Op.operands])]
 case binOp op t x y yt=>simp only; rw [hev x (by simp [Op.operands]),hev y (by simp [Op.operands])]
 case unOp op t x=>simp only; rw [hev x (by simp [Op.operands])]
 case convert s d x=>simp only; rw [hev x (by simp [Op.operands])]
 case makeFunc f first caps =>
  have : caps.toList.map (evalO tm') = caps.toList.map (evalO tm):=List.map_congr_left fun x hx=>hev x (by simp [Op.operands]; exact .inr (by simpa using hx))
  simp only; rw [this]
 case slice t x lo hi mx =>
  cases mx with
  | none =>
   simp only
   have h1:=hev x (by simp [Op.operands])
   unfold Qkrz
   rw [h1]
   have hl : ∀ d,Q8tx tm' d lo = Q8tx tm d lo:=fun d=>bnd d lo (fun y hy=>hev y (by subst hy; simp [Op.operands]))
   have hh : ∀ d,Q8tx tm' d hi = Q8tx tm d hi:=fun d=>bnd d hi (fun y hy=>hev y (by subst hy; simp [Op.operands]))
   simp only [hl,hh]
  | some m=>rfl
 case fieldAddr t x f=>simp only; rw [hev x (by simp [Op.operands])]
 case field t x f=>simp only; rw [hev x (by simp [Op.operands])]
 case indexAddr t x i=>simp only; rw [hev x (by simp [Op.operands]),hev i (by simp [Op.operands])]
 case index t x i=>simp only; rw [hev x (by simp [Op.operands]),hev i (by simp [Op.operands])]
 case extract t i=>simp only; rw [hev t (by simp [Op.operands])]
 case makeMap t rs=>cases rs <;> rfl
 case lookup t m k ok=>simp only; rw [hev m (by simp [Op.operands]),hev k (by simp [Op.operands])]
 case mapUpdate t m k x=>simp only; rw [hev m (by simp [Op.operands]),hev k (by simp [Op.operands]),hev x (by simp [Op.operands])]
 case insert t m k x=>simp only; rw [hev m (by simp [Op.operands]),hev k (by simp [Op.operands]),hev x (by simp [Op.operands])]
 case makeSlice t l c=>simp only; rw [hev l (by simp [Op.operands]),hev c (by simp [Op.operands])]
 case call c =>
  have hargs : c.args.toList.map (evalO tm') = c.args.toList.map (evalO tm):=List.map_congr_left fun x hx=>hev x (by
   simp only [Op.operands,Call.operands,Array.toList_append,List.mem_append]; exact .inr hx)
  simp only
  rw [hargs]
  cases hcal : c.callee with
  | builtin b=>rfl
  | invoke r m=>rfl
  | value f =>
   simp only
   rw [hev f (by simp [Op.operands,Call.operands,hcal])]


theorem Quy0 {hp hp' : Nat → AObj Ty El} {t : TypeId} {x y : AV Ty El} {rd : List Nat} (h : loadA P C hp t x = some (y,rd)) (hh : ∀ r ∈ rd,hp' r = hp r) : loadA P C hp' t x = some (y,rd):=by
 unfold loadA at h ⊢
 split at h <;> first | exact h | skip
 ·rename_i r off
  split at h
  ·rename_i cs hb
   split at h
   ·simp only [Option.some.injEq,Prod.mk.injEq] at h
    obtain ⟨rfl,rfl⟩:=h
    rename_i hp0
    simp only [hh r (by simp),hb,hp0]
   ·cases h
  ·cases h
 ·rename_i r q ver wd i j
  split at h
  ·rename_i R hR
   split at h
   ·rename_i hw
    split at h
    ·rename_i hp0
     simp only [Option.some.injEq,Prod.mk.injEq] at h
     obtain ⟨rfl,rfl⟩:=h
     simp only [Qgka (hh r (by simp)),hR,hw,if_true,hp0]
    ·cases h
   ·cases h
  ·cases h

theorem Q5hx {hp hp' : Nat → AObj Ty El} {t : TypeId} {m k x : AV Ty El} {r : OpRes Ty El} (h : updM P C hp t m k x = some r) (hh : ∀ k ∈ r.rd,hp' k = hp k) : updM P C hp' t m k x = some r:=by
 unfold updM at h ⊢
 split at h
 ·rename_i r0
  have hrd : hp' r0 = hp r0:=by
   split at h
   ·split at h
    ·split at h
     ·simp only [Option.some.injEq] at h; subst h; exact hh r0 (by simp)
     ·cases h
    ·cases h
   ·cases h
  simp only [hrd]
  exact h
 ·cases h
theorem Qgr1 {hp hp' : Nat → AObj Ty El} {t : TypeId} {m k : AV Ty El} {ok : Bool} {r : OpRes Ty El} (h : lookA P C hp t m k ok = some r) (hh : ∀ k ∈ r.rd,hp' k = hp k) : lookA P C hp' t m k ok = some r:=by
 unfold lookA at h ⊢
 split at h
 ·rename_i r0
  have hrd : hp' r0 = hp r0:=by
   split at h
   ·split at h
    ·split at h
     ·simp only [Option.some.injEq] at h; subst h; exact hh r0 (by simp)
     ·cases h
    ·cases h
   ·cases h
  simp only [hrd]
  exact h
 ·cases h

theorem Qvms {E : Tab Ty El} {o : Oper} {fresh : Nat} {tm : Nat → AV Ty El} {hp hp' : Nat → AObj Ty El} {r : OpRes Ty El} (h : opF P C E o fresh tm hp = some r) (hh : ∀ k ∈ r.rd,hp' k = hp k) : opF P C E o fresh tm hp' = some r:=by
 unfold opF at h ⊢
 cases hop : o.op <;> rw [hop] at h <;> simp only at h ⊢ <;> try exact h
 case lookup t m k ok=>exact Qgr1 h hh
 case mapUpdate t m k x=>exact Q5hx h hh
 case insert t m k x=>exact Q5hx h hh
 case makeMap t rs=>cases rs <;> exact h
 case load t x =>
  split at h
  ·rename_i v rd hl
   simp only [Option.some.injEq] at h; subst h
   simp only [Quy0 hl hh]
  ·cases h
 case store t a x =>
  split at h
  ·rename_i gg ws hl
   simp only [Option.some.injEq] at h; subst h
   simp only [Qlk0 hl hh]
  ·cases h
 case buildSlice t n ps =>
  split at h
  ·rename_i T hT
   split at h
   ·rename_i hc
    split at h
    ·rename_i xs inn dm hel
     split at h
     ·rename_i hnd
      have hrd : r.rd = inn:=by
       split at h <;> (simp only [Option.some.injEq] at h; rw [← h])
      simp only [hc,and_self,if_true,Q9mt _ _ _ _ _ hel (fun k hk=>hh k (by rw [hrd]; exact hk)),hnd]
      exact h
     ·cases h
    ·cases h
   ·cases h
  ·cases h
 case convert s d x =>
  split at h
  ·exact h
  ·exact h
  ·rename_i e hs hd hx
   split at h
   ·rename_i T xs rd hr
    have hrd : r.rd = rd:=by
     split at h
     ·split at h
      ·split at h
       ·simp only [Option.some.injEq] at h; rw [← h]
       ·cases h
      ·cases h
     ·cases h
    simp only [Qq8p hr (fun k hk=>hh k (by rw [hrd]; exact hk))]
    exact h
   ·cases h
  ·cases h
 case slice t x lo hi mx =>
  cases mx with
  | some m=>exact h
  | none =>
   simp only at h ⊢
   unfold Qkrz at h ⊢
   split at h <;> first | exact h | skip
   ·rename_i r0 q0 ver hx0
    split at h
    ·rename_i R hR
     have hr : r.rd = [r0]:=by
      split at h
      ·split at h
       ·simp only [Option.some.injEq] at h; rw [← h]
       ·cases h
      ·cases h
     have e:=(Qgka (C:=C) (p:=q0) (ver:=ver) (hh r0 (by rw [hr]; simp))).trans hR
     rw [e]; exact h
    ·cases h
 case indexAddr t x i =>
  split at h
  ·rename_i n hn
   unfold Qqui at h ⊢
   split at h <;> first | exact h | skip
   ·rename_i r0 q0 ver hx0
    split at h
    ·rename_i R hR
     have hr : r.rd = [r0]:=by
      split at h
      ·simp only [Option.some.injEq] at h; rw [← h]
      ·cases h
     have e:=(Qdkj (C:=C) (p:=q0) (ver:=ver) (hh r0 (by rw [hr]; simp))).trans hR
     rw [e]; exact h
    ·cases h
   ·rename_i r0 q0 ver wd lo m hx0
    split at h
    ·rename_i R hR
     have hr : r.rd = [r0]:=by
      split at h
      ·simp only [Option.some.injEq] at h; rw [← h]
      ·cases h
     have e:=(Qgka (C:=C) (p:=q0) (ver:=ver) (hh r0 (by rw [hr]; simp))).trans hR
     rw [e]; exact h
    ·cases h
  ·cases h
 case call c =>
  split at h
  ·rename_i b hcal
   unfold Q3m4 at h ⊢
   split at h
   ·rename_i x hl
    split at h
    ·rename_i n rd t hlen hats
     have hrd : r.rd = rd:=by
      split at h
      ·split at h
       ·simp only [Option.some.injEq] at h; rw [← h]
       ·cases h
      ·split at h
       ·simp only [Option.some.injEq] at h; rw [← h]
       ·cases h
     simp only [Qdjf hlen (fun k hk=>hh k (by rw [hrd]; exact hk)),hats]
     exact h
    ·cases h
   ·rename_i s x hl
    split at h
    ·rename_i t t' hats
     split at h
     ·rename_i htt
      simp only [hats,htt,if_true]
      rw [htt] at h
      exact Qxb6 h hh
     ·cases h
    ·cases h
   ·exact h
   ·exact h
   ·cases h
  ·rename_i f hcal
   split at h
   ·rename_i g caps hf
    split at h
    ·rename_i hdyn
     simp only [hdyn,if_true]
     rw [← h]
     have hrd:=Qtin h
     exact Qggh (fun k hk=>hh k (by rw [hrd]; exact hk))
    ·cases h
   ·cases h
  ·cases h
end
end Lx
namespace Lx
open Go
section
variable {Ty : Type} {El : Ty → Type} {C : Cod Ty El} {P : Program}

structure Ev (Ty : Type) (El : Ty → Type) where
 v : AV Ty El
 wr : List (Nat × AObj Ty El)
 rd : List Nat
 ex : Bool
def Ev.log (e : Ev Ty El) : Log:=⟨e.ex,e.rd,e.wr.map (·.1)⟩

def wantA (all : List Oper) (o : Oper) (tm : Nat → AV Ty El) : Option Bool :=
 match o.guard with
 | none=>some true
 | some (j,want)=>match all[j]? with
  | none=>none
  | some oj=>match oj.dst with
   | none=>none
   | some d=>match tm d with
    | .bool t=>some (t == want)
    | .tup []=>some false
    | _=>none

def doF (P : Program) (C : Cod Ty El) (E : Tab Ty El) (o : Oper) (fresh : Nat) (tm : Nat → AV Ty El) (hp : Nat → AObj Ty El) : Option (Ev Ty El) :=
 match o.op with
 | .pick c a b=>match evalO tm c with
  | .bool t=>some ⟨evalO tm (if t then a else b),[],[],true⟩
  | _=>none
 | _=>match opF P C E o fresh tm hp with
  | none=>none
  | some r=>if r.g = true then some ⟨r.v,r.wr,r.rd,true⟩ else none

def stepF (P : Program) (C : Cod Ty El) (E : Tab Ty El) (all : List Oper) (o : Oper) (fresh : Nat) (tm : Nat → AV Ty El) (hp : Nat → AObj Ty El) : Option (Ev Ty El) :=
 match wantA all o tm with
 | some true=>doF P C E o fresh tm hp
 | some false=>some ⟨Qp2e,[],[],false⟩
 | none=>none

inductive Trace (P : Program) (C : Cod Ty El) (E : Tab Ty El) (all : List Oper) (n : Nat) :
  List Oper → Nat → (Nat → AV Ty El) → (Nat → AObj Ty El) → List (Ev Ty El) → (Nat → AV Ty El) → (Nat → AObj Ty El) → Prop
 | nil {fresh tm hp} : Trace P C E all n [] fresh tm hp [] tm hp
 | cons {o os fresh tm hp e es tm' hp'} (h : stepF P C E all o fresh tm hp = some e)
   (t : Trace P C E all n os (fresh + Qojn E o) (updT n tm o.dst e.v) (updH hp e.wr) es tm' hp') : Trace P C E all n (o :: os) fresh tm hp (e :: es) tm' hp'

theorem Qcdj {α : Type} : ∀ (l : List α) (n : Nat) (x : α),(setL l n x).length = l.length
 | [],_,_=>rfl
 | _ :: _,0,_=>rfl
 | a :: l,n + 1,x=>by simp [setL,Qcdj l n x]
theorem Ql0j {α : Type} : ∀ (l : List α) (n : Nat) (x d : α) (k : Nat),(setL l n x).getD k d = if k = n ∧ n < l.length then x else l.getD k d
 | [],n,x,d,k=>by simp [setL]
 | a :: l,0,x,d,k=>by cases k <;> simp [setL]
 | a :: l,n + 1,x,d,k=>by
  cases k with
  | zero=>simp [setL]
  | succ k =>
   have:=Ql0j l n x d k
   simp only [List.getD_eq_getElem?_getD] at this
   simp [setL,this]
theorem Qw0i {s : St Ty El} (d : Option Tmp) (v : AV Ty El) (hp : List (AObj Ty El)) : (St.mk (put s.tm d v) hp).tmF = updT s.tm.length s.tmF d v:=by
 funext t
 cases d with
 | none=>rfl
 | some d=>simp only [St.tmF,put,updT,Ql0j]
theorem Q0g4 (tm : List (AV Ty El)) (d : Option Tmp) (v : AV Ty El) : (put tm d v).length = tm.length:=by
 cases d <;> simp [put,Qcdj]
theorem Qczg {tm : List (AV Ty El)} {d : Nat} {x : AV Ty El} (h : tm.getD d .dead = x) : (setL tm d x) = tm:=by
 induction tm generalizing d with
 | nil=>rfl
 | cons a l ih=>cases d with
  | zero=>simp [setL] at *; exact h.symm
  | succ d=>simp only [setL]; rw [ih (by simpa using h)]
theorem Qxlt : ∀ (l : List (AObj Ty El)) (n : Nat) (x : AObj Ty El) (k : Nat),(setG l n x).getD k .gone = if k = n then x else l.getD k .gone
 | [],0,x,k=>by cases k <;> simp [setG]
 | [],n + 1,x,k=>by
  cases k with
  | zero=>simp [setG]
  | succ k =>
   have:=Qxlt [] n x k
   simp only [List.getD_eq_getElem?_getD] at this
   simp [setG,this]
 | a :: l,0,x,k=>by cases k <;> simp [setG]
 | a :: l,n + 1,x,k=>by
  cases k with
  | zero=>simp [setG]
  | succ k =>
   have:=Qxlt l n x k
   simp only [List.getD_eq_getElem?_getD] at this
   simp [setG,this]
theorem Qiw3 : ∀ (ws : List (Nat × AObj Ty El)) (tm : List (AV Ty El)) (hp : List (AObj Ty El)),(St.mk tm (puts hp ws)).hpF = updH (St.mk tm hp).hpF ws
 | [],_,_=>rfl
 | (r,o) :: ws,tm,hp=>by
  simp only [puts,updH]
  rw [Qiw3 ws tm (setG hp r o)]
  congr 1
  funext k
  simp only [St.hpF,Qxlt,setH]

theorem Qjwl {E : Tab Ty El} {all : List Oper} {K : St Ty El → List Log → Option (Leaf Ty El)} {lf : Leaf Ty El} :
  ∀ (os : List Oper) (fresh : Nat) (s : St Ty El) (lg : List Log),Qg3x P C E all os fresh s lg K = some lf →
   ∃ es s',s'.tm.length = s.tm.length ∧ Trace P C E all s.tm.length os fresh s.tmF s.hpF es s'.tmF s'.hpF ∧ K s' (lg.reverse ++ es.map Ev.log) = some lf:=by
 intro os
 induction os with
 | nil=>intro fresh s lg h; exact ⟨[],s,rfl,.nil,by simpa [Qg3x] using h⟩
 | cons o os ih =>
  intro fresh s lg h0
  have hstep : ∀ (s1 : St Ty El),s1 = s → wantA all o s.tmF = some true → (match o.op with
    | .pick c a b=>match evalO s1.tmF c with
     | .bool t=>ifb t (Qg3x P C E all os fresh { s1 with tm:=put s1.tm o.dst (evalO s1.tmF a) } (⟨true,[],[]⟩ :: lg) K)
      (Qg3x P C E all os fresh { s1 with tm:=put s1.tm o.dst (evalO s1.tmF b) } (⟨true,[],[]⟩ :: lg) K)
     | _=>none
    | _=>match opF P C E o fresh s1.tmF s1.hpF with
     | none=>none
     | some r=>ifb r.g (Qg3x P C E all os (fresh + Qojn E o) { tm:=put s1.tm o.dst r.v,hp:=puts s1.hp r.wr } (⟨true,r.rd,r.wr.map (·.1)⟩ :: lg) K) none) = some lf →
    ∃ es s',s'.tm.length = s.tm.length ∧ Trace P C E all s.tm.length (o :: os) fresh s.tmF s.hpF es s'.tmF s'.hpF ∧ K s' (lg.reverse ++ es.map Ev.log) = some lf:=by
   intro s1 he hw h
   subst he
   split at h
   ·rename_i c a b hop
    split at h
    ·rename_i t hc
     have hn : Qojn E o = 0:=by simp [Qojn,hop]
     have hs : stepF P C E all o fresh s1.tmF s1.hpF = some ⟨evalO s1.tmF (if t then a else b),[],[],true⟩:=by
      simp only [stepF,hw,doF,hop,hc]
     have h' : Qg3x P C E all os (fresh + Qojn E o) { s1 with tm:=put s1.tm o.dst (evalO s1.tmF (if t then a else b)) } (⟨true,[],[]⟩ :: lg) K = some lf:=by
      rw [hn]; cases t <;> simpa [ifb] using h
     obtain ⟨es,s',h1,h2,h3⟩:=ih _ _ _ h'
     rw [Q0g4,Qw0i] at h2
     refine ⟨_ :: es,s',h1.trans (Q0g4 _ _ _),.cons hs h2, ?_⟩
     simpa [Ev.log] using h3
    ·cases h
   ·rename_i op0 hop
    split at h
    ·cases h
    ·rename_i r hr
     cases hg : r.g with
     | false=>rw [hg] at h; cases h
     | true =>
      rw [hg,Qd8q] at h
      have hs : stepF P C E all o fresh s1.tmF s1.hpF = some ⟨r.v,r.wr,r.rd,true⟩:=by
       simp only [stepF,hw,doF]
       simp only [hr,hg,if_true]
      obtain ⟨es,s',h1,h2,h3⟩:=ih _ _ _ h
      rw [Q0g4,Qw0i,Qiw3] at h2
      refine ⟨_ :: es,s',h1.trans (Q0g4 _ _ _),.cons hs h2, ?_⟩
      simpa [Ev.log] using h3
  have hskip : ∀ (s1 : St Ty El),s1 = s → wantA all o s.tmF = some false → Qg3x P C E all os (fresh + Qojn E o) { s1 with tm:=put s1.tm o.dst Qp2e } (⟨false,[],[]⟩ :: lg) K = some lf →
    ∃ es s',s'.tm.length = s.tm.length ∧ Trace P C E all s.tm.length (o :: os) fresh s.tmF s.hpF es s'.tmF s'.hpF ∧ K s' (lg.reverse ++ es.map Ev.log) = some lf:=by
   intro s1 he hw h
   subst he
   have hs : stepF P C E all o fresh s1.tmF s1.hpF = some ⟨Qp2e,[],[],false⟩:=by simp only [stepF,hw]
   obtain ⟨es,s',h1,h2,h3⟩:=ih _ _ _ h
   rw [Q0g4,Qw0i] at h2
   refine ⟨_ :: es,s',h1.trans (Q0g4 _ _ _),.cons hs h2, ?_⟩
   simpa [Ev.log] using h3
  clear ih
  have h:=h0
  clear h0
  unfold Qg3x at h
  simp only at h
  split at h
  ·rename_i hg
   exact hstep s rfl (by simp [wantA,hg]) h
  ·rename_i j want hg
   split at h
   ·cases h
   ·rename_i oj hj
    split at h
    ·cases h
    ·rename_i d hd
     split at h
     ·rename_i t ht
      have hsame : ∀ b,t = b → ({ s with tm:=setL s.tm d (.bool b) } : St Ty El) = s:=fun b hb=>by
       subst hb
       rw [Qczg (by exact ht)]
      cases t with
      | true =>
       rw [Qd8q] at h
       cases want with
       | true=>exact hstep _ (hsame true rfl) (by simp [wantA,hg,hj,hd,ht]) h
       | false=>exact hskip _ (hsame true rfl) (by simp [wantA,hg,hj,hd,ht]) h
      | false =>
       rw [Qk7y] at h
       cases want with
       | true=>exact hskip _ (hsame false rfl) (by simp [wantA,hg,hj,hd,ht]) h
       | false=>exact hstep _ (hsame false rfl) (by simp [wantA,hg,hj,hd,ht]) h
     ·rename_i ht
      exact hskip s rfl (by simp [wantA,hg,hj,hd,ht]) h
     ·cases h

theorem Qq0h {X : Cx} {N : Nm} {tm : Nat → AV Ty El} {hp : Nat → AObj Ty El} {a : Act} {w : World} (hS : SimN C X N tm hp a w) (hout : ∀ t,X.n ≤ t → tm t = .dead)
  {ops : Array Oper} {o : Oper} {b : Bool} (h : wantA ops.toList o tm = some b) : Region.wanted o (yielded ops a.tmps) = b:=by
 unfold wantA at h
 unfold Region.wanted
 split at h
 ·rename_i hg; rw [hg]; simp only [Option.some.injEq] at h; exact h
 ·rename_i j want hg
  rw [hg]
  simp only
  split at h
  ·cases h
  ·rename_i oj hj
   split at h
   ·cases h
   ·rename_i d hd
    have hjA : ops[j]? = some oj:=by rw [← Array.getElem?_toList]; exact hj
    have hy : yielded ops a.tmps j = match a.tmps[d]? with | some (.bool b)=>some b | _=>none:=by
     unfold yielded
     rw [hjA]
     simp only [Option.bind_some,hd]
     split <;> simp_all
    rw [hy]
    have hlt : tm d ≠ .dead → d < a.tmps.size:=fun h=>by
     rcases Nat.lt_or_ge d a.tmps.size with h' | h'
     ·exact h'
     ·exact absurd (hout d (hS.size ▸ h')) h
    split at h
    ·rename_i t ht
     have hd':=hlt (by rw [ht]; exact fun h=>by cases h)
     have:=hS.tmps d hd'
     rw [ht] at this
     have hv:=this.inv_bool
     have hv' : a.tmps[d]? = some (.bool t):=by
      rw [Array.getElem?_eq_getElem hd']
      simpa [Array.getD,hd'] using hv
     rw [hv']
     simp only [Option.some.injEq] at h
     rw [← h]
     cases t <;> cases want <;> rfl
    ·rename_i ht
     have hd':=hlt (by rw [ht]; exact fun h=>by cases h)
     have:=hS.tmps d hd'
     rw [ht] at this
     simp only [Option.some.injEq] at h
     rw [← h]
     have hnb : ∀ b,a.tmps[d]? ≠ some (.bool b):=fun b hb=>by
      have h3 : a.tmps.getD d undef = .bool b:=by simp [Array.getD,hd']; simpa [Array.getElem?_eq_getElem hd'] using hb
      have h2:=hS.tmps d hd'
      rw [ht,h3] at h2
      cases h2
     split
     ·rename_i b hb; exact absurd hb (hnb b)
     ·cases want <;> rfl
    ·cases h

theorem Qv04 {n : Nat} {tm : Nat → AV Ty El} {d : Option Tmp} {x : AV Ty El} (h : ∀ t,n ≤ t → tm t = .dead) : ∀ t,n ≤ t → updT n tm d x t = .dead:=fun t ht=>by
 cases d with
 | none=>exact h t ht
 | some d=>simp only [updT]; rw [if_neg (fun hh=>Nat.not_le.2 hh.2 (hh.1 ▸ ht))]; exact h t ht

theorem Q58k (hC : CodOK P C) {E : Tab Ty El} (hE : TabOK P C E) {X : Cx} {N : Nm} {tm : Nat → AV Ty El} {hp : Nat → AObj Ty El} {a : Act} {w : World} (hS : SimN C X N tm hp a w) (hout : ∀ t,X.n ≤ t → tm t = .dead)
  {ops : Array Oper} {i : Nat} {o : Oper} (hi : ops[i]? = some o) {fresh : Nat} {e : Ev Ty El} (h : stepF P C E ops.toList o fresh tm hp = some e) (hfr : ∀ k,k < Qojn E o → hp (fresh + k) = .gone)
  {Q : Exit → Act → World → Prop} {K : Act → World → Prop} (hK : ∀ v N' w',SimN C X N' (updT X.n tm o.dst e.v) (updH hp e.wr) (a.put o.dst v) w' → K (a.put o.dst v) w') : wpOp P ops Q i K a w:=by
 unfold stepF at h
 unfold wpOp
 rw [hi]
 simp only
 split at h
 ·rename_i hw
  rw [Qq0h hS hout hw]
  simp only [if_true]
  refine .inl ?_
  unfold doF at h
  split at h
  ·rename_i c x y hop
   split at h
   ·rename_i t hc
    simp only [Option.some.injEq] at h
    subst h
    have hv:=hS.evalO hout c
    rw [hc] at hv
    have hb:=hv.inv_bool
    refine Qo7a (v:=a.eval (if t then x else y)) (w':=w) ?_ (hK _ N w (hS.put (hS.evalO hout _) o.dst))
    unfold execOp
    simp only [hop,hb]
    cases t <;> rfl
   ·cases h
  ·split at h
   ·cases h
   ·rename_i r hr
    split at h
    ·rename_i hg
     simp only [Option.some.injEq] at h
     subst h
     exact Q9ig hC hE hS hout hr hg hfr K Q hK
    ·cases h
 ·rename_i hw
  rw [Qq0h hS hout hw]
  simp only [Option.some.injEq] at h
  subst h
  simp only [Bool.false_eq_true,if_false]
  exact hK undef N w (hS.put (.tup #[] [] rfl (fun j v c h=>by simp at h)) o.dst)
 ·cases h

theorem Qmll {E : Tab Ty El} {all : List Oper} {o : Oper} {fresh : Nat} {tm : Nat → AV Ty El} {hp : Nat → AObj Ty El} {e : Ev Ty El} (h : stepF P C E all o fresh tm hp = some e) : Qo7k E o fresh hp e.wr:=by
 unfold stepF at h
 split at h
 ·unfold doF at h
  split at h
  ·split at h
   ·simp only [Option.some.injEq] at h; subst h; intro k hk; simp at hk
   ·cases h
  ·split at h
   ·cases h
   ·rename_i r hr
    split at h
    ·simp only [Option.some.injEq] at h; subst h; exact Qe44 hr
    ·cases h
 ·simp only [Option.some.injEq] at h; subst h; intro k hk; simp at hk
 ·cases h

theorem Qwy4 (hC : CodOK P C) {E : Tab Ty El} (hE : TabOK P C E) {X : Cx} {ops : Array Oper} {Q : Exit → Act → World → Prop} {tm' : Nat → AV Ty El} {hp' : Nat → AObj Ty El} :
  ∀ (os : List Oper) (i fresh : Nat) (N : Nm) (tm : Nat → AV Ty El) (hp : Nat → AObj Ty El) (es : List (Ev Ty El)) (a : Act) (w : World),ops.toList.drop i = os → SimN C X N tm hp a w → (∀ t,X.n ≤ t → tm t = .dead) →
   (∀ k,fresh ≤ k → hp k = .gone) → Trace P C E ops.toList X.n os fresh tm hp es tm' hp' → (∀ a w N',SimN C X N' tm' hp' a w → (∀ t,X.n ≤ t → tm' t = .dead) → Q .normal a w) →
   wpOps P ops Q (List.range' i os.length) a w:=by
 intro os
 induction os with
 | nil =>
  intro i fresh N tm hp es a w ho hS hout hfr ht hQ
  cases ht
  exact hQ a w N hS hout
 | cons o os ih =>
  intro i fresh N tm hp es a w ho hS hout hfr ht hQ
  cases ht with
  | cons h t =>
   have hi : ops[i]? = some o:=by
    rw [← Array.getElem?_toList]
    have:=congrArg (fun l=>l[0]?) ho
    simpa using this
   rw [List.length_cons,List.range'_succ,wpOps_cons]
   refine Q58k hC hE hS hout hi h (fun k _=>hfr _ (Nat.le_add_right _ _)) fun v N' w' hS'=>?_
   refine ih (i + 1) _ N' _ _ _ _ w' ?_ hS' (Qv04 hout) ?_ t hQ
   ·have:=congrArg List.tail ho
    simpa using this
   ·intro k hk
    rw [Qmrw (hp:=hp)]
    ·exact hfr k (by omega)
    ·intro hmem
     rcases Qmll h k hmem with h1 | h1
     ·exact h1 (hfr k (by omega))
     ·omega
end
end Lx
namespace Lx
open Go
section

def valAt {α : Type} (w : Nat → Nat → Option α) (base : Nat → α) (D : Nat → Bool) : Nat → Nat → α
 | 0,k=>base k
 | i + 1,k=>match D i with
  | true=>(w i k).getD (valAt w base D i k)
  | false=>valAt w base D i k

theorem Qhet {α : Type} {w : Nat → Nat → Option α} {base : Nat → α} {D D' : Nat → Bool} {k : Nat} : ∀ (m : Nat),(∀ i,i < m → D i = D' i ∨ w i k = none) → valAt w base D m k = valAt w base D' m k
 | 0,_=>rfl
 | m + 1,h=>by
  have ih:=Qhet (base:=base) m (fun i hi=>h i (by omega))
  simp only [valAt]
  rcases h m (by omega) with h1 | h1
  ·rw [h1,ih]
  ·rw [h1,ih]; cases D m <;> cases D' m <;> rfl
theorem Q31s {α : Type} {w : Nat → Nat → Option α} {base : Nat → α} {D : Nat → Bool} {k : Nat} (m : Nat) : ∀ (d : Nat),(∀ i,m ≤ i → i < m + d → D i = false ∨ w i k = none) → valAt w base D (m + d) k = valAt w base D m k
 | 0,_=>rfl
 | d + 1,h=>by
  have ih:=Q31s (base:=base) m d (fun i h1 h2=>h i h1 (by omega))
  rw [← Nat.add_assoc]
  simp only [valAt]
  rcases h (m + d) (by omega) (by omega) with h1 | h1
  ·rw [h1]; exact ih
  ·rw [h1,ih]; cases D (m + d) <;> rfl
theorem Qdml {α : Type} {w : Nat → Nat → Option α} {base : Nat → α} {D : Nat → Bool} {k : Nat} (m : Nat) (h : ∀ i,i < m → D i = false ∨ w i k = none) : valAt w base D m k = base k:=by
 have:=Q31s (w:=w) (base:=base) (D:=D) (k:=k) 0 m (fun i _ hi=>h i (by omega))
 simpa [valAt] using this
theorem Qxgq {α : Type} {w : Nat → Nat → Option α} {base : Nat → α} {D : Nat → Bool} {n j k : Nat} (hj : j ≤ n) (h1 : ∀ i,i < j → D i = true ∨ w i k = none) (h2 : ∀ i,j ≤ i → i < n → D i = false ∨ w i k = none) :
  valAt w base D n k = valAt w base (fun _=>true) j k:=by
 obtain ⟨d,rfl⟩:=Nat.le.dest hj
 rw [Q31s j d h2]
 exact Qhet j (fun i hi=>(h1 i hi).imp (fun h=>h) id)
def withI (D : Nat → Bool) (j : Nat) : Nat → Bool:=fun i=>if i = j then true else D i
theorem Qlez {α : Type} {w : Nat → Nat → Option α} {base : Nat → α} {D : Nat → Bool} {n j k : Nat} (hj : j < n) (hD : D j = false) (h : ∀ i,j < i → i < n → D i = true → w i k = none ∨ w j k = none) :
  valAt w base (withI D j) n k = (w j k).getD (valAt w base D n k):=by
 cases hw : w j k with
 | none =>
  simp only [Option.getD_none]
  refine Qhet n fun i _=>?_
  by_cases hij : i = j
  ·subst hij; exact .inr hw
  ·exact .inl (by simp [withI,hij])
 | some v =>
  obtain ⟨d,rfl⟩:=Nat.le.dest (Nat.succ_le_of_lt hj)
  rw [Q31s (j + 1) d]
  ·simp [valAt,withI,hw]
  ·intro i h1 h2
   by_cases hDi : D i = true
   ·rcases h i (by omega) (by omega) hDi with h3 | h3
    ·exact .inr h3
    ·rw [hw] at h3; cases h3
   ·refine .inl ?_
    have : i ≠ j:=by omega
    simpa [withI,this] using hDi

variable {Ty : Type} {El : Ty → Type} {C : Cod Ty El} {P : Program}

def Qee9 : List (Nat × AObj Ty El) → Nat → Option (AObj Ty El)
 | [],_=>none
 | (r,o) :: ws,k=>match Qee9 ws k with
  | some x=>some x
  | none=>if k = r then some o else none
theorem Q2wl : ∀ (ws : List (Nat × AObj Ty El)) (hp : Nat → AObj Ty El) (k : Nat),updH hp ws k = (Qee9 ws k).getD (hp k)
 | [],_,_=>rfl
 | (r,o) :: ws,hp,k=>by
  simp only [updH,Qee9]
  rw [Q2wl ws _ k]
  cases Qee9 ws k with
  | some x=>rfl
  | none=>by_cases h : k = r <;> simp [setH,h]
theorem Qrye {ws : List (Nat × AObj Ty El)} {k : Nat} (h : k ∉ ws.map (·.1)) : Qee9 ws k = none:=by
 induction ws with
 | nil=>rfl
 | cons p ws ih =>
  obtain ⟨r,o⟩:=p
  simp only [List.map_cons,List.mem_cons,not_or] at h
  simp only [Qee9,ih h.2,if_neg h.1]

def wT (n : Nat) (ops : List Oper) (es : List (Ev Ty El)) (i t : Nat) : Option (AV Ty El) :=
 match ops[i]?,es[i]? with
 | some o,some e=>if o.dst = some t ∧ t < n then some e.v else none
 | _,_=>none
def wH (es : List (Ev Ty El)) (i k : Nat) : Option (AObj Ty El) :=
 match es[i]? with
 | some e=>Qee9 e.wr k
 | none=>none
theorem Qg1p {n : Nat} {ops : List Oper} {es : List (Ev Ty El)} {i : Nat} {o : Oper} {e : Ev Ty El} (ho : ops[i]? = some o) (he : es[i]? = some e) (tm : Nat → AV Ty El) (t : Nat) :
  updT n tm o.dst e.v t = (wT n ops es i t).getD (tm t):=by
 simp only [wT,ho,he]
 cases hd : o.dst with
 | none=>simp [updT]
 | some d =>
  simp only [updT,Option.some.injEq]
  by_cases h : t = d
  ·subst h
   by_cases h2 : t < n <;> simp [h2]
  ·rw [if_neg (fun hh=>h hh.1),if_neg (fun hh=>h hh.1.symm)]; rfl
theorem Qs13 {es : List (Ev Ty El)} {i : Nat} {e : Ev Ty El} (he : es[i]? = some e) (hp : Nat → AObj Ty El) (k : Nat) : updH hp e.wr k = (wH es i k).getD (hp k):=by
 simp only [wH,he]; exact Q2wl _ _ _

def Qpba (E : Tab Ty El) (f0 : Nat) : List Oper → Nat → Nat
 | _,0=>f0
 | [],_ + 1=>f0
 | o :: os,i + 1=>Qpba E (f0 + Qojn E o) os i

theorem Trace.at {E : Tab Ty El} {all : List Oper} {n : Nat} {tm' : Nat → AV Ty El} {hp' : Nat → AObj Ty El} : ∀ {os : List Oper} {f : Nat} {tm : Nat → AV Ty El} {hp : Nat → AObj Ty El} {es : List (Ev Ty El)},
  Trace P C E all n os f tm hp es tm' hp' → es.length = os.length ∧
   (∀ i o,os[i]? = some o → ∃ e,es[i]? = some e ∧ stepF P C E all o (Qpba E f os i) (valAt (wT n os es) tm (fun _=>true) i) (valAt (wH es) hp (fun _=>true) i) = some e) ∧
   tm' = valAt (wT n os es) tm (fun _=>true) os.length ∧ hp' = valAt (wH es) hp (fun _=>true) os.length:=by
 intro os f tm hp es h
 induction h with
 | nil=>exact ⟨rfl,fun i o h=>by simp at h,rfl,rfl⟩
 | @cons o os fresh tm hp e es tm' hp' hs ht ih =>
  obtain ⟨h1,h2,h3,h4⟩:=ih
  have kT : ∀ i,valAt (wT n (o :: os) (e :: es)) tm (fun _=>true) (i + 1) = valAt (wT n os es) (updT n tm o.dst e.v) (fun _=>true) i:=by
   intro i
   funext t
   induction i with
   | zero=>simp only [valAt]; rw [Qg1p (ops:=o :: os) (es:=e :: es) (i:=0) rfl rfl]
   | succ i ih=>rw [valAt,ih]; simp only [valAt]; rfl
  have kH : ∀ i,valAt (wH (e :: es)) hp (fun _=>true) (i + 1) = valAt (wH es) (updH hp e.wr) (fun _=>true) i:=by
   intro i
   funext t
   induction i with
   | zero=>simp only [valAt]; rw [Qs13 (es:=e :: es) (i:=0) rfl]
   | succ i ih=>rw [valAt,ih]; simp only [valAt]; rfl
  refine ⟨by simp [h1],fun i o' ho=>?_, ?_, ?_⟩
  ·cases i with
   | zero =>
    simp only [List.getElem?_cons_zero,Option.some.injEq] at ho
    subst ho
    exact ⟨e,rfl,hs⟩
   | succ i =>
    obtain ⟨e',he',hs'⟩:=h2 i o' (by simpa using ho)
    refine ⟨e',by simpa using he', ?_⟩
    rw [kT,kH]; exact hs'
  ·rw [List.length_cons,kT]; exact h3
  ·rw [List.length_cons,kH]; exact h4
end
end Lx
namespace Lx
open Go
section
variable {Ty : Type} {El : Ty → Type} {C : Cod Ty El} {P : Program}

theorem Qt0t {E : Tab Ty El} {all : List Oper} {o : Oper} {fresh : Nat} {tm tm' : Nat → AV Ty El} {hp hp' : Nat → AObj Ty El} {e : Ev Ty El} (h : stepF P C E all o fresh tm hp = some e)
  (ht : ∀ t ∈ looks all o,tm' t = tm t) (hh : ∀ k ∈ e.rd,hp' k = hp k) : stepF P C E all o fresh tm' hp' = some e:=by
 have hops : ∀ x ∈ o.op.operands.toList,evalO tm' x = evalO tm x:=fun x hx=>Qukx fun t e=>ht t (by
  subst e
  exact List.mem_append_left _ (List.mem_filterMap.2 ⟨_,hx,rfl⟩))
 have hw : wantA all o tm' = wantA all o tm:=by
  unfold wantA
  cases hg : o.guard with
  | none=>rfl
  | some p =>
   obtain ⟨j,want⟩:=p
   simp only
   cases hj : all[j]? with
   | none=>rfl
   | some oj =>
    simp only
    cases hd : oj.dst with
    | none=>rfl
    | some d=>simp only; rw [ht d (List.mem_append_right _ (by simp [hg,hj,hd]))]
 unfold stepF at h ⊢
 rw [hw]
 split at h
 ·unfold doF at h ⊢
  split at h
  ·rename_i c a b hop
   rw [hop] at hops
   have h1:=hops c (by simp [Op.operands])
   have h2:=hops a (by simp [Op.operands])
   have h3:=hops b (by simp [Op.operands])
   simp only [h1]
   split at h
   ·rename_i t hc
    simp only [Option.some.injEq] at h
    subst h
    cases t <;> simp [h2,h3]
   ·cases h
  ·split at h
   ·cases h
   ·rename_i r hr
    split at h
    ·rename_i hg
     simp only [Option.some.injEq] at h
     subst h
     have hr' : opF P C E o fresh tm' hp' = some r:=Qvms ((Qoxy hops).trans hr) hh
     simp only [hr',hg,if_true]
    ·cases h
 ·exact h
 ·cases h

theorem Qwkr : ∀ {os : List Oper} {k : Nat},Qy11 os k = true → ∀ i o,os[i]? = some o → ∀ e ∈ o.after,Region.binds .any e = true → e.on < k + i
 | [],_,_,i,o,h=>by simp at h
 | o0 :: os,k,hb,i,o,ho=>by
  simp only [Qy11,Bool.and_eq_true,List.all_eq_true] at hb
  cases i with
  | zero =>
   simp only [List.getElem?_cons_zero,Option.some.injEq] at ho
   subst ho
   intro e he hbd
   have:=hb.1 e (by simpa using he)
   simpa [hbd] using this
  | succ i =>
   intro e he hbd
   have:=Qwkr hb.2 i o (by simpa using ho) e he hbd
   omega

theorem Q1cy : ∀ (os : List Oper) (acc : List Nat),∃ r,ancs os acc = acc ++ r
 | [],acc=>⟨[],by simp [ancs]⟩
 | o :: os,acc=>by
  obtain ⟨r,h⟩:=Q1cy os (acc ++ [ancOf acc o.after.toList])
  exact ⟨_,by simp only [ancs]; rw [h,List.append_assoc]⟩
theorem Q1ne : ∀ (os : List Oper) (acc : List Nat) (i : Nat) (o : Oper),os[i]? = some o →
  (ancs os acc).getD (acc.length + i) 0 = ancOf ((ancs os acc).take (acc.length + i)) o.after.toList
 | [],_,i,o,h=>by simp at h
 | o0 :: os,acc,i,o,h=>by
  cases i with
  | zero =>
   simp only [List.getElem?_cons_zero,Option.some.injEq] at h
   subst h
   obtain ⟨r,hr⟩:=Q1cy os (acc ++ [ancOf acc o0.after.toList])
   simp only [ancs]
   rw [hr]
   simp
  | succ i =>
   have:=Q1ne os (acc ++ [ancOf acc o0.after.toList]) i o (by simpa using h)
   simp only [ancs]
   simp only [List.length_append,List.length_singleton] at this
   have e : acc.length + (i + 1) = acc.length + 1 + i:=by omega
   rw [e]
   exact this
theorem Qij5 {acc : List Nat} {i : Nat} : ∀ {es : List Edge},(ancOf acc es).testBit i = true → ∃ e ∈ es,Region.binds .any e = true ∧ (e.on = i ∨ (acc.getD e.on 0).testBit i = true)
 | [],h=>by simp [ancOf] at h
 | e :: es,h=>by
  simp only [ancOf] at h
  split at h
  ·rename_i hb
   simp only [Nat.testBit_or,Bool.or_eq_true] at h
   rcases h with (h | h) | h
   ·rw [Nat.testBit_two_pow] at h
    exact ⟨e,by simp,hb,.inl (by simpa using h)⟩
   ·exact ⟨e,by simp,hb,.inr h⟩
   ·obtain ⟨e',h1,h2⟩:=Qij5 h
    exact ⟨e',by simp [h1],h2⟩
  ·obtain ⟨e',h1,h2⟩:=Qij5 h
   exact ⟨e',by simp [h1],h2⟩

def Down (ops : List Oper) (D : Nat → Bool) : Prop:=∀ i,D i = true → ∀ o,ops[i]? = some o → ∀ e ∈ o.after,Region.binds .any e = true → D e.on = true
theorem Qwnv {ops : List Oper} {D : Nat → Bool} (hb : Qy11 ops 0 = true) (hD : Down ops D) : ∀ (j : Nat) (o : Oper),ops[j]? = some o → (∀ e ∈ o.after,Region.binds .any e = true → D e.on = true) →
  ∀ i,((ancs ops []).getD j 0).testBit i = true → D i = true:=by
 intro j
 induction j using Nat.strongRecOn with
 | ind j ih =>
  intro o ho hall i hi
  have:=Q1ne ops [] j o ho
  simp only [List.length_nil,Nat.zero_add] at this
  rw [this] at hi
  obtain ⟨e,he,hbd,h⟩:=Qij5 hi
  have he' : e ∈ o.after:=by simpa using he
  have hlt : e.on < j:=by simpa using Qwkr hb j o ho e he' hbd
  have hDe:=hall e he' hbd
  rcases h with h | h
  ·rw [← h]; exact hDe
  ·have hjl : j < ops.length:=(List.getElem?_eq_some_iff.1 ho).1
   have h' : ((ancs ops []).getD e.on 0).testBit i = true:=by
    rw [List.getD_eq_getElem?_getD,List.getElem?_take,if_pos hlt,← List.getD_eq_getElem?_getD] at h
    exact h
   exact ih e.on hlt _ (List.getElem?_eq_getElem (Nat.lt_trans hlt hjl)) (fun e2 he2 hb2=>hD e.on hDe _ (List.getElem?_eq_getElem (Nat.lt_trans hlt hjl)) e2 he2 hb2) i h'

theorem Q8mj {all : List Oper} {an : Nat} {y : Oper} {ly : Log} : ∀ {l : List (Oper × Log)} {k : Nat},pairs all an y ly l k = true → ∀ i p,l[i]? = some p → an.testBit (k + i) = true ∨ Qtsj all p.1 y p.2 ly = true
 | [],_,_,i,p,h=>by simp at h
 | (x,lx) :: l,k,hp,i,p,h=>by
  simp only [pairs,Bool.and_eq_true,Bool.or_eq_true] at hp
  cases i with
  | zero=>simp only [List.getElem?_cons_zero,Option.some.injEq] at h; subst h; exact hp.1
  | succ i =>
   have:=Q8mj hp.2 i p (by simpa using h)
   have e : k + (i + 1) = k + 1 + i:=by omega
   rw [e]; exact this
theorem Q991 {all : List Oper} {an : List Nat} : ∀ {l done : List (Oper × Log)} {j : Nat},done.length = j → Q2hn all an done l j = true → ∀ i k p q,i < k → (done ++ l)[i]? = some p → (done ++ l)[k]? = some q → j ≤ k →
  (an.getD k 0).testBit i = true ∨ Qtsj all p.1 q.1 p.2 q.2 = true
 | [],done,j,hj,h,i,k,p,q,hik,hp,hq,hjk=>by
  have : k < (done ++ []).length:=(List.getElem?_eq_some_iff.1 hq).1
  simp at this; omega
 | (y,ly) :: l,done,j,hj,h,i,k,p,q,hik,hp,hq,hjk=>by
  simp only [Q2hn,Bool.and_eq_true] at h
  by_cases hk : k = j
  ·subst hk
   rw [List.getElem?_append_right (by omega)] at hq
   simp only [hj,Nat.sub_self,List.getElem?_cons_zero,Option.some.injEq] at hq
   subst hq
   rw [List.getElem?_append_left (by omega)] at hp
   have:=Q8mj h.1 i p hp
   simpa using this
  ·have e : done ++ (y,ly) :: l = (done ++ [(y,ly)]) ++ l:=by simp
   rw [e] at hp hq
   exact Q991 (by simp [hj]) h.2 i k p q hik hp hq (by omega)

theorem Qw7f {a b : List Nat} (h : disj a b = true) : ∀ x ∈ a,x ∉ b:=by
 intro x hx hb
 simp only [disj,List.all_eq_true,Bool.not_eq_true',List.contains_eq_mem,decide_eq_false_iff_not] at h
 exact h x hx hb

structure Apart (all : List Oper) (x y : Oper) (ex ey : Ev Ty El) : Prop where
 look : ∀ d,x.dst = some d → d ∉ looks all y
 dst : ∀ d,x.dst = some d → y.dst ≠ some d
 look' : ∀ d,y.dst = some d → d ∉ looks all x
 wrrd : ∀ k ∈ ex.wr.map (·.1),k ∉ ey.rd
 wrwr : ∀ k ∈ ex.wr.map (·.1),k ∉ ey.wr.map (·.1)
 rdwr : ∀ k ∈ ey.wr.map (·.1),k ∉ ex.rd
theorem Q8ta {all : List Oper} {x y : Oper} {ex ey : Ev Ty El} (h : Qtsj all x y ex.log ey.log = true) : Apart all x y ex ey:=by
 simp only [Qtsj,Bool.and_eq_true,Ev.log] at h
 obtain ⟨h1,h2,h3,h4,h5,h6⟩:=h
 refine ⟨fun d hd=>Qw7f h1 d (by simp [hd]),fun d hd hy=>?_,fun d hd=>Qw7f h3 d (by simp [hd]),Qw7f h4,Qw7f h5,Qw7f h6⟩
 exact Qw7f h2 d (by simp [hd]) (by simp [hy])

theorem Qpmf {ops : List Oper} {es : List (Ev Ty El)} (h : Qsf9 ops (es.map Ev.log) = true) : es.length = ops.length ∧ Qy11 ops 0 = true ∧
  ∀ i k x y ex ey,i < k → ops[i]? = some x → ops[k]? = some y → es[i]? = some ex → es[k]? = some ey → ((ancs ops []).getD k 0).testBit i = true ∨ Apart ops x y ex ey:=by
 simp only [Qsf9,Bool.and_eq_true,decide_eq_true_eq,List.length_map] at h
 refine ⟨h.1,h.2.1,fun i k x y ex ey hik hx hy hex hey=>?_⟩
 have zip : ∀ i (x : Oper) (ex : Ev Ty El),ops[i]? = some x → es[i]? = some ex → (ops.zip (es.map Ev.log))[i]? = some (x,ex.log):=fun i x ex hx hex=>by
  rw [List.getElem?_zip_eq_some]; exact ⟨hx,by rw [List.getElem?_map,hex]; rfl⟩
 rcases Q991 (done:=[]) rfl h.2.2 i k _ _ hik (zip i x ex hx hex) (zip k y ey hy hey) (Nat.zero_le _) with h1 | h1
 ·exact .inl h1
 ·exact .inr (Q8ta h1)
end
end Lx
