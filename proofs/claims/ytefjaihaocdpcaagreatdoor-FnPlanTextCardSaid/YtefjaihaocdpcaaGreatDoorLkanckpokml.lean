/- What one book says behind another. -/
import Derived.Lib.ItoaNum
import Derived.Shelf.LaysM
import Derived.Shelf.Strconv.Itoa3
import Derived.Shelf.Strconv.Clone
import Derived.Shelf.Strings.Search3
import Derived.Test.YtefjaihaocdpcaaGreatDoorProg
import Derived.KernelRfl
import Derived.Lib.IndexLaws
import Derived.Test.YtefjaihaocdpcaaGreatDoorLdnnejkniho
import Derived.Test.YtefjaihaocdpcaaGreatDoorLeffjlgmbmk
set_option linter.unusedVariables false
set_option linter.unusedSimpArgs false
set_option maxRecDepth 4000
namespace Lx
open Go Go.Proofs
end Lx
namespace Lx
open Go Go.Proofs
end Lx
namespace Lx
open Go Go.Proofs
def fcF(c:Chg):Fld:=⟨c.what,c.number,c.value⟩
def chE(e:Entry):List Chg:=e.fields.map fun f=>⟨e.name,f.what,f.number,f.value⟩
def chgs(es:List Entry):List Chg:=es.flatMap chE
def mgS(a b:List Entry):List Entry:=(chgs b).foldl putC a
def Mx(S:Fld→Prop)(o:Option Fld):Prop:=(∀f,o=some f→S f∧∀g,S g→Fld.later g f=false)∧(o=none→∀g,¬S g)
theorem Mx.uniq{S:Fld→Prop}{w:Int}(hw:∀f,S f→f.what=w){o o':Option Fld}(h:Mx S o)(h':Mx S o'):o=o':=by
 cases o with
 | none=>cases o' with
  | none=>rfl
  | some g=>exact absurd (h'.1 g rfl).1 (h.2 rfl g)
 | some f=>cases o' with
  | none=>exact absurd (h.1 f rfl).1 (h'.2 rfl f)
  | some g =>
   have h1:=h.1 f rfl
   have h2:=h'.1 g rfl
   rw[Qhof (h2.2 f h1.1) (h1.2 g h2.1) ((hw f h1.1).trans (hw g h2.1).symm)]
theorem Q6hs{g m f:Fld}(h1:Fld.later g m=false)(h2:Fld.later m f=false)(hw:g.what=m.what):Fld.later g f=false:=by
 cases h:Fld.later g f with
 | false=>rfl
 | true =>
  cases h3:Fld.later m g with
  | true=>rw[Qj2g h3 h]at h2;cases h2
  | false =>
   rw[Qhof h1 h3 hw,h2]at h;cases h
theorem Mx.swap{S S':Fld→Prop}{o:Option Fld}(h:Mx S o)(h1:∀f,S f→S' f)(h2:∀g,S' g→∃m,S m∧Fld.later g m=false∧g.what=m.what):Mx S' o:=by
 refine⟨fun f hf=>⟨h1 f (h.1 f hf).1,fun g hg=>?_⟩,fun hn g hg=>?_⟩
 ·obtain⟨m,a,b,c⟩:=h2 g hg
  exact Q6hs b ((h.1 f hf).2 m a) c
 ·obtain⟨m,a,_⟩:=h2 g hg
  exact h.2 hn m a
theorem Mx.iff{S S':Fld→Prop}{o:Option Fld}(h:Mx S o)(e:∀f,S f↔S' f):Mx S' o:=h.swap (fun f hf=>(e f).1 hf) (fun g hg=>⟨g,(e g).2 hg,Qyfa g,rfl⟩)
def inL(l:List Chg)(n:Str)(w:Int)(f:Fld):Prop:=f.what=w∧(⟨n,f.what,f.number,f.value⟩:Chg)∈l
theorem Qgsi(n:Str)(w:Int):∀(l:List Chg) {es:List Entry},Q1re es→Mx (fun f=>lk es n w=some f∨inL l n w f) (lk (l.foldl putC es) n w)
 | [],es,_=>by
  refine⟨fun f hf=>⟨.inl hf,fun g hg=>?_⟩,fun hn g hg=>?_⟩
  ·rcases hg with hg|hg
   ·rw[List.foldl_nil]at hf
    rw[hf]at hg
    obtain rfl:=Option.some.inj hg
    exact Qyfa _
   ·exact absurd hg.2 (by simp)
  ·rcases hg with hg|hg
   ·rw[List.foldl_nil]at hn
    rw[hn]at hg;cases hg
   ·exact absurd hg.2 (by simp)
 | c::l,es,hb=>by
  have ih:=Qgsi n w l (Qcth hb c)
  have hl:lk (putC es c) n w=if n=c.flight∧w=c.what then some (mx (lk es n w) (fcF c)) else lk es n w:=by
   have:=Qqy6 c.flight (fcF c) n w hb
   rw[show putC es c=putS es c.flight (fcF c) from rfl,this]
   by_cases h:n=c.flight∧w=c.what
   ·rw[if_pos h,if_pos (show n=c.flight∧w=(fcF c).what from h),h.1]
   ·rw[if_neg h,if_neg (show ¬(n=c.flight∧w=(fcF c).what) from h)]
  rw[List.foldl_cons]
  by_cases hm:n=c.flight∧w=c.what
  ·rw[if_pos hm]at hl
   refine ih.swap (fun f hf=>?_) (fun g hg=>?_)
   ·rcases hf with hf|hf
    ·rw[hl]at hf
     obtain rfl:=Option.some.inj hf
     have hc:inL (c::l) n w (fcF c):=⟨hm.2.symm,by rw[hm.1];exact List.mem_cons_self ..⟩
     cases ho:lk es n w with
     | none=>exact .inr hc
     | some g =>
      by_cases h:Fld.later (fcF c) g=true
      ·rw[Qba1 h];exact .inr hc
      ·rw[Qqr0 h];exact .inl rfl
    ·exact .inr ⟨hf.1,List.mem_cons_of_mem _ hf.2⟩
   ·rcases hg with hg|⟨h1,h2⟩
    ·refine⟨mx (lk es n w) (fcF c),.inl hl, ?_⟩
     rw[hg]
     by_cases h:Fld.later (fcF c) g=true
     ·rw[Qba1 h];exact⟨Qv46 h,(Qpsk hg).trans hm.2⟩
     ·rw[Qqr0 h];exact⟨Qyfa g,rfl⟩
    ·rcases List.mem_cons.1 h2 with h2|h2
     ·have hgc:g=fcF c:=by rw[←h2];rfl
      refine⟨mx (lk es n w) (fcF c),.inl hl, ?_⟩
      rw[hgc]
      cases ho:lk es n w with
      | none=>exact⟨Qyfa _,rfl⟩
      | some g' =>
       by_cases h:Fld.later (fcF c) g'=true
       ·rw[Qba1 h];exact⟨Qyfa _,rfl⟩
       ·rw[Qqr0 h];exact⟨by simpa using h,by rw[Qpsk ho,hm.2];rfl⟩
     ·exact⟨g,.inr ⟨h1,h2⟩,Qyfa g,rfl⟩
  ·rw[if_neg hm]at hl
   refine ih.iff (fun f=>?_)
   rw[hl]
   refine or_congr Iff.rfl ⟨fun h=>⟨h.1,List.mem_cons_of_mem _ h.2⟩,fun h=>⟨h.1, ?_⟩⟩
   rcases List.mem_cons.1 h.2 with h2|h2
   ·exact absurd ⟨by rw[←h2],by rw[←h2];exact h.1.symm⟩ hm
   ·exact h2
theorem Qqiy{es:List Entry}{c:Chg}:c∈chgs es↔∃e∈es,∃f∈e.fields,c=⟨e.name,f.what,f.number,f.value⟩:=by
 simp only[chgs,chE,List.mem_flatMap,List.mem_map]
 exact⟨fun⟨e,he,f,hf,h⟩=>⟨e,he,f,hf,h.symm⟩,fun⟨e,he,f,hf,h⟩=>⟨e,he,f,hf,h.symm⟩⟩
theorem Qx87{es:List Entry}(hb:Q1re es){n:Str}{w:Int}{f:Fld}:inL (chgs es) n w f↔lk es n w=some f:=by
 constructor
 ·rintro⟨rfl,h⟩
  obtain⟨e,he,g,hg,h⟩:=Qqiy.1 h
  simp only[Chg.mk.injEq]at h
  obtain⟨rfl,h1,h2,h3⟩:=h
  have:f=g:=by
   cases f;cases g;simp only at h1 h2 h3;subst h1;subst h2;subst h3;rfl
  subst this
  exact Q4l8 hb he hg
 ·intro h
  have hw:=Qpsk h
  refine⟨hw, ?_⟩
  unfold lk at h
  cases he:es.find? (fun e=>e.name==n) with
  | none=>rw[he]at h;cases h
  | some e =>
   rw[he,Option.bind_some]at h
   have hn:e.name=n:=by have:=List.find?_some he;simpa using this
   exact Qqiy.2 ⟨e,List.mem_of_find?_eq_some he,f,List.mem_of_find?_eq_some h,by rw[hn]⟩
theorem Qzk0{a b:List Entry}(ha:Q1re a)(hb:Q1re b)(n:Str)(w:Int):Mx (fun f=>lk a n w=some f∨lk b n w=some f) (lk (mgS a b) n w):=(Qgsi n w (chgs b) ha).iff fun f=>or_congr Iff.rfl (Qx87 hb)
theorem Q8b6{a:List Entry}(b:List Entry)(ha:Q1re a):Q1re (mgS a b):=Qv4f _ ha
theorem what2{a b:List Entry}{n:Str}{w:Int}(f:Fld)(h:lk a n w=some f∨lk b n w=some f):f.what=w:=h.elim Qpsk Qpsk
theorem Qvci{a b:List Entry}(ha:Q1re a)(hb:Q1re b):mgS a b=mgS b a:=Qn50 (Q8b6 b ha) (Q8b6 a hb) fun n w=>Mx.uniq what2 (Qzk0 ha hb n w) ((Qzk0 hb ha n w).iff fun f=>or_comm)
theorem Qkuk{ks:List Kind}{ps:List Point}{n:Str}:∀{l:List Fld} {q:Option Int},Qt03 ks ps n q l=true→∀f∈l,Qh2h ks ps n f.what f.number f.value=true
 | [],_,_,f,hf=>by simp at hf
 | g::l,q,h,f,hf=>by
  rw[Qg5r]at h
  simp only[qaT]at h
  rcases List.mem_cons.1 hf with rfl|hf
  ·exact h.1
  ·exact Qkuk h.2.2 f hf
theorem Qef7{ks:List Kind}{ps:List Point}{es:List Entry}(h:Qn0o ks ps es=true):∀c∈chgs es,Qs7k ks ps c=true∧inR c.what 1 5=true:=fun c hc=>by
 obtain⟨e,he,f,hf,rfl⟩:=Qqiy.1 hc
 obtain⟨hb,_,hall⟩:=Qg6k h
 have:=hall e he
 simp only[Q7i7,qaT]at this
 have h1:=Qkuk this.2.2 f hf
 simp only[Qh2h,qaT]at h1
 refine⟨by simp only[Qs7k,qaT];exact⟨h1.1,h1.2.1,hb,h1.2.2⟩, ?_⟩
 have h2:=h1.2.2
 unfold fitsV at h2
 simp only[inR,qaT,qdT]
 by_cases q1:f.what=1
 ·rw[q1];decide
 by_cases q2:f.what=2
 ·rw[q2];decide
 by_cases q3:f.what=3
 ·rw[q3];decide
 by_cases q4:f.what=4
 ·rw[q4];decide
 by_cases q5:f.what=5
 ·rw[q5];decide
 rw[if_neg q1,if_neg q2,if_neg q3,if_neg q4,if_neg q5]at h2
 cases h2
structure MgR where
 ks:List Kind
 ps:List Point
 es:List Entry
 code:Int
 deriving Inhabited
end Lx
namespace Lx
open Go Go.Proofs
def decS(n:Int):Str:=Lib.decDigits n.toNat
theorem digB{n:Nat}(h:n<10):(UInt8.ofNat (48+n)).toNat=48+n:=by simp[UInt8.toNat_ofNat];omega
theorem Q7pa:∀(l m:Str) (acc:Nat),Lib.decFrom acc (l++m)=(Lib.decFrom acc l).bind fun a=>Lib.decFrom a m
 | [],m,acc=>rfl
 | b::l,m,acc=>by
  rw[List.cons_append,Lib.decFrom,Lib.decFrom]
  cases Lib.digitVal b with
  | none=>rfl
  | some d=>exact Q7pa l m _
theorem Qg6g{n acc:Nat}(h:n<10):Lib.decFrom acc [UInt8.ofNat (48+n)]=some (acc*10+n):=by
 simp only[Lib.decFrom,Lib.digitVal,digB h]
 rw[if_pos (by omega)]
 simp only[Lib.decFrom]
 congr 2;omega
theorem Qadg{n:Nat}(h:¬n<10):Lib.decDigits n=Lib.decDigits (n / 10)++[UInt8.ofNat (48+n%10)]:=by rw[Lib.decDigits,dif_neg h]
theorem Qo8t(n:Nat):Lib.decFrom 0 (Lib.decDigits n)=some n:=by
 induction n using Nat.strongRecOn with
 | ind n ih =>
  by_cases h:n<10
  ·rw[Lib.decDigits_one h,Qg6g h];simp
  ·rw[Qadg h,Q7pa,ih (n / 10) (by omega),Option.bind_some,Qg6g (by omega)]
   congr 1;omega
theorem Qsbn(n:Nat):1≤(Lib.decDigits n).length:=by
 by_cases h:n<10
 ·rw[Lib.decDigits_one h];simp
 ·rw[Qadg h];simp
theorem Qqxq:∀(k:Nat) {n:Nat},n<10 ^ (k+1)→(Lib.decDigits n).length≤k+1
 | 0,n,h=>by rw[Lib.decDigits_one (by simpa using h)];simp
 | k+1,n,h=>by
  by_cases h10:n<10
  ·rw[Lib.decDigits_one h10];simp
  ·rw[Qadg h10,List.length_append]
   have:=Qqxq k (n:=n / 10) (by rw[Nat.pow_succ]at h;exact Nat.div_lt_of_lt_mul (by omega))
   simp only[List.length_singleton];omega
theorem Qtlb(n:Nat):(Lib.decDigits n).all isDig=true:=by rw[Q2qd _ 0,Qo8t];rfl
theorem Qqed(n:Nat)(h1:1≤n):((Lib.decDigits n).getD 0 0).toNat≠48:=by
 induction n using Nat.strongRecOn with
 | ind n ih =>
  by_cases h:n<10
  ·rw[Lib.decDigits_one h]
   show(UInt8.ofNat (48+n)).toNat≠48
   rw[digB h];omega
  ·have:=ih (n / 10) (by omega) (by omega)
   rw[Qadg h]
   have hp:=Qsbn (n / 10)
   rw[qgD,List.getElem?_append_left (by omega),←qgD]
   exact this
theorem Q1t8{n:Nat}(h:n<10000000):numF (Lib.decDigits n)=n:=by
 have hp:=Qsbn n
 have hl:=Qqxq 6 (n:=n) (by simpa using h)
 unfold numF
 rw[if_pos]
 ·have:=Qe53 (Lib.decDigits n) 0
  rw[Qo8t]at this
  exact this
 ·refine⟨hp,hl,fun hh=>?_⟩
  by_cases h1:1≤n
  ·exact Qqed n h1 (by have:=hh.2;omega)
  ·have:n=0:=by omega
   subst this
   rw[Lib.decDigits_one (by omega)]at hh
   simp at hh
theorem Qvx3{n:Int}(h0:0≤n)(h:n<10000000):numF (decS n)=n:=by
 unfold decS
 rw[Q1t8 (by omega)];omega
def wSet:Str:=[115,101,116]
def wKind:Str:=[107,105,110,100]
def wTime:Str:=[116,105,109,101]
def Qswv:Str:=[108,101,118,101,108]
def Qxlh:Str:=[114,111,117,116,101]
def Qbwf:Str:=[115,116,97,116,101]
def Qkm3:List Str:=[[],wKind,wTime,Qswv,Qxlh,Qbwf]
def hasNL(v:Str):Bool:=v.any fun b=>b.toNat==10
def Qenx(c:Chg):Bool:=Q2rq c.flight&&(inR c.what 1 5&&(inR c.number 1 1000000&&(!(c.value==[])&&!hasNL c.value)))
def formB(c:Chg):Str:=wSet++32::(c.flight++32::(Qkm3.getD c.what.toNat []++32::(decS c.number++32::c.value)))
def formF(c:Chg):Str:=if Qenx c=true then formB c else []
def whatF(w:Str):Int:=max (idxF (fun x=>x==w) Qkm3) 0
def readC(s:Str)(ws:List Str):Chg:=⟨ws.getD 1 [],whatF (ws.getD 2 []),numF (ws.getD 3 []),s.drop ((ws.getD 0 []).length+(ws.getD 1 []).length+(ws.getD 2 []).length+(ws.getD 3 []).length+4)⟩
def readF(s:Str):Option Chg:=if 5≤(cutS 32 s).length∧formF (readC s (cutS 32 s))=s then some (readC s (cutS 32 s)) else none
def noSp(a:Str):Bool:=a.all fun b=>!((b.toNat:Int)==32)
theorem Ql8q:∀{a s:Str},noSp a=true→cutS 32 (a++32::s)=a::cutS 32 s
 | [],s,_=>by rw[List.nil_append,cutS,if_pos (by decide)]
 | b::a,s,h=>by
  simp only[noSp,List.all_cons,qaT,Bool.not_eq_true']at h
  have ih:=Ql8q (a:=a) (s:=s) (by simpa[noSp]using h.2)
  rw[List.cons_append,cutS,if_neg (by rw[h.1];simp),ih]
theorem Qx0s{n:Str}(h:Q2rq n=true):noSp n=true:=by
 simp only[Q2rq,qaT]at h
 refine qlA.2 fun b hb=>?_
 have:=qlA.1 h.2.2 b hb
 simp only[nameB,Bool.or_eq_true,qaT,qdT,beq_iff_eq]at this
 simp only[Bool.not_eq_true',beq_eq_false_iff_ne]
 omega
theorem Qy1c{n:Str}(h:n.all isDig=true):noSp n=true:=by
 refine qlA.2 fun b hb=>?_
 have:=qlA.1 h b hb
 simp only[isDig,qaT,qdT]at this
 simp only[Bool.not_eq_true',beq_eq_false_iff_ne]
 omega
theorem Q1pf{k:Int}(h:inR k 1 5=true):noSp (Qkm3.getD k.toNat [])=true∧whatF (Qkm3.getD k.toNat [])=k:=by
 simp only[inR,qaT,qdT]at h
 have:k=1∨k=2∨k=3∨k=4∨k=5:=by omega
 rcases this with rfl|rfl|rfl|rfl|rfl<;>exact⟨by decide,by decide⟩
theorem Qxui{c:Chg}(h:Qenx c=true):cutS 32 (formB c)=wSet::c.flight::Qkm3.getD c.what.toNat []::decS c.number::cutS 32 c.value:=by
 simp only[Qenx,qaT]at h
 obtain⟨h1,h2,h3,_⟩:=h
 unfold formB
 rw[Ql8q (by decide),Ql8q (Qx0s h1),Ql8q (Q1pf h2).1,Ql8q (a:=decS c.number) (Qy1c (Qtlb _))]
theorem Qkx5{c:Chg}(h:Qenx c=true):readF (formF c)=some c:=by
 have e:formF c=formB c:=if_pos h
 have hc:=Qxui h
 have h':=h
 simp only[Qenx,qaT]at h
 obtain⟨h1,h2,h3,_⟩:=h
 have hn:=h3
 simp only[inR,qaT,qdT]at hn
 have hr:readC (formB c) (cutS 32 (formB c))=c:=by
  rw[hc]
  unfold readC
  simp only[List.getD_cons_zero,List.getD_cons_succ]
  rw[(Q1pf h2).2,Qvx3 (by omega) (by omega)]
  have:(formB c).drop (wSet.length+c.flight.length+(Qkm3.getD c.what.toNat []).length+(decS c.number).length+4)=c.value:=by
   have e2:formB c=(wSet++32::(c.flight++32::(Qkm3.getD c.what.toNat []++32::(decS c.number++[32]))))++c.value:=by simp[formB]
   rw[e2,List.drop_append_of_le_length (by simp;omega),List.drop_of_length_le (by simp;omega)];rfl
  rw[this]
 have hl:5≤(cutS 32 (formB c)).length:=by
  rw[hc]
  have:=List.length_pos_iff.2 (Qk4w 32 c.value)
  simp only[List.length_cons];omega
 unfold readF
 rw[e,hr]
 rw[if_pos ⟨hl,e⟩]
theorem Qkck{n:Str}(h:Q2rq n=true):n≠[]∧hasNL n=false:=by
 simp only[Q2rq,qaT,qdT]at h
 refine⟨fun e=>by rw[e]at h;simp at h, ?_⟩
 unfold hasNL
 rw[List.any_eq_false]
 intro b hb
 have:=qlA.1 h.2.2 b hb
 simp only[nameB,Bool.or_eq_true,qaT,qdT,beq_iff_eq]at this
 simp only[beq_iff_eq];omega
theorem Qine{l:List Kind}{q:Option Str}(h:Qh9e q l=true):∀k∈l,Q2rq k.name=true:=fun k hk=>by
 have:=Q315 h k hk;simp only[Kind.ok,qaT]at this;exact this.1
theorem Q21i{l seen:List Point}{q:Option Str}(h:Qaym seen q l=true):∀k∈l,Q2rq k.name=true:=fun k hk=>by
 have:=Q1nj h k hk;simp only[Point.ok,qaT]at this;exact this.1
theorem Qpsb:∀{s:Str},(∀w∈cutS 32 s,hasNL w=false)→hasNL s=false
 | [],_=>rfl
 | b::s,h=>by
  have hc:hasNL (b::s)=(b.toNat==10||hasNL s):=rfl
  rw[hc,Bool.or_eq_false_iff]
  rw[cutS]at h
  split at h
  ·rename_i hb
   have e:(b.toNat:Int)=32:=eq_of_beq hb
   refine⟨by simp only[beq_eq_false_iff_ne];omega,Qpsb (fun w hw=>h w (List.mem_cons_of_mem _ hw))⟩
  ·split at h
   ·rename_i hn;exact absurd hn (Qk4w 32 s)
   ·rename_i w ws hw
    have h0:=h (b::w) (List.mem_cons_self ..)
    have hc0:hasNL (b::w)=(b.toNat==10||hasNL w):=rfl
    rw[hc0,Bool.or_eq_false_iff]at h0
    refine⟨h0.1,Qpsb (fun x hx=>?_)⟩
    rw[hw]at hx
    rcases List.mem_cons.1 hx with rfl|hx
    ·exact h0.2
    ·exact h x (List.mem_cons_of_mem _ hx)
theorem Qotl{s:Str}(h:0≤numF s):s≠[]∧hasNL s=false:=by
 unfold numF at h
 split at h
 ·rename_i hh
  refine⟨fun e=>by rw[e]at hh;simp at hh, ?_⟩
  cases hd:s.all isDig with
  | false=>rw[Qz12 hd]at h;omega
  | true =>
   unfold hasNL
   rw[List.any_eq_false]
   intro b hb
   have:=qlA.1 hd b hb
   simp only[isDig,qaT,qdT]at this
   simp only[beq_iff_eq];omega
 ·omega
theorem Q7cm{ps:List Point}(hp:∀k∈ps,Q2rq k.name=true):∀{w:List Str} {q:Option Str},Qyf3 ps q w=true→∀n∈w,Q2rq n=true
 | [],_,_,n,hn=>by simp at hn
 | a::w,q,h,n,hn=>by
  simp only[Qyf3,qaT,Bool.not_eq_true',decide_eq_false_iff_not]at h
  rcases List.mem_cons.1 hn with rfl|hn
  ·rcases Qur7 (fun p:Point=>p.name==n) (dfltP .point) ps with ⟨h1,_⟩|⟨_,h2⟩
   ·exact absurd h1 h.1
   ·have hm:=hp _ (List.mem_of_find?_eq_some h2)
    have hnm:=List.find?_some h2
    rw[beq_iff_eq]at hnm
    rw[hnm]at hm;exact hm
  ·exact Q7cm hp h.2.2 n hn
theorem Qjih{ks:List Kind}{ps:List Point}{w:Int}{v:Str}(hb:Qib4 ks ps=true)(h:fitsV ks ps w v=true):inR w 1 5=true∧v≠[]∧hasNL v=false:=by
 simp only[Qib4,qaT]at hb
 obtain⟨_,_,hk,hp⟩:=hb
 have cut1:∀{s:Str},s=[]→cutS 32 s=[[]]:=fun e=>by subst e;rfl
 unfold fitsV at h
 split at h
 ·rename_i e;subst e
  refine⟨by decide, ?_⟩
  have h:=of_decide_eq_true h
  rcases Qur7 (fun p:Kind=>p.name==v) (dfltP .kind) ks with ⟨h1,_⟩|⟨_,h2⟩
  ·exact absurd (show Qh2z ks v<0 from h1) (by omega)
  ·have hm:=Qine hk _ (List.mem_of_find?_eq_some h2)
   have hnm:=List.find?_some h2
   rw[beq_iff_eq]at hnm
   rw[hnm]at hm
   exact Qkck hm
 split at h
 ·rename_i e;subst e
  refine⟨by decide,fun e=>by rw[cut1 e]at h;simp[Q2es]at h,Qpsb fun w hw=>?_⟩
  cases hc:cutS 32 v with
  | nil=>rw[hc]at hw;simp at hw
  | cons a l =>
   rw[hc]at h hw
   match l with
   | []=>simp[Q2es]at h
   | [b] =>
    simp only[Q2es,inR,qaT,qdT]at h
    simp only[List.mem_cons,List.not_mem_nil,or_false]at hw
    rcases hw with rfl|rfl
    ·exact(Qotl h.1).2
    ·exact(Qotl (by omega)).2
   | b::c::l=>simp[Q2es]at h
 split at h
 ·rename_i e;subst e
  simp only[inR,qaT,qdT]at h
  exact⟨by decide,Qotl (by omega)⟩
 split at h
 ·rename_i e;subst e
  simp only[Qyhl,qaT]at h
  refine⟨by decide,fun e=>by rw[cut1 e]at h;simp[inR]at h,Qpsb fun n hn=>(Qkck (Q7cm (Q21i hp) h.2 n hn)).2⟩
 split at h
 ·rename_i e;subst e
  simp only[Bool.or_eq_true,beq_iff_eq]at h
  refine⟨by decide, ?_⟩
  rcases h with rfl|rfl
  ·exact⟨by decide,by decide⟩
  ·exact⟨by decide,by decide⟩
 ·cases h
theorem Qfpc{ks:List Kind}{ps:List Point}{c:Chg}(h:Qs7k ks ps c=true):Qenx c=true:=by
 simp only[Qs7k,qaT]at h
 obtain⟨h1,h2,h3,h4⟩:=h
 obtain⟨q1,q2,q3⟩:=Qjih h3 h4
 simp only[Qenx,h1,h2,q1,q3,Bool.true_and,Bool.not_false,Bool.and_true,Bool.not_eq_true',beq_eq_false_iff_ne]
 exact q2
end Lx
namespace Lx
open Go Go.Proofs
def Qf28:Ent Ty El:=⟨[.ro,.ro],0,fun a h=>match a,h with
 | [.str s,.str [c]],[]=>some (szS s,.bool (s.any fun b=>b==c),[])
 | _,_=>none⟩
def Qsxi:Ent Ty El:=⟨[.ro],0,fun a h=>match a,h with
 | [.str s],[]=>some (szS s,.str s,[])
 | _,_=>none⟩
def Qo6n:Ent Ty El:=⟨[.ro],0,fun a h=>match a,h with
 | [.int .i64 n],[]=>some (inR n 0 1000000000,.str (decS n),[])
 | _,_=>none⟩
def Qqy9:Ent Ty El:=⟨[.ro,.ro],0,fun a h=>match a,h with
 | [.sl .str l,.str x],[]=>some (decide (l.length≤1000000000),.int .i64 (idxF (fun y=>y==x) l),[])
 | _,_=>none⟩
def chV(c:Chg):V:=.agg [.str c.flight,.int .i64 c.what,.int .i64 c.number,.str c.value]
def Qvn1:Ent Ty El:=⟨[.ro],0,fun a h=>match a,h with
 | [.agg [.str fl,.int .i64 w,.int .i64 m,.str v]],[]=>some (szV v,.str (formF ⟨fl,w,m,v⟩),[])
 | _,_=>none⟩
def Qzlv:Ent Ty El:=Qvn1
def readR(s:Str):Chg:=(readF s).getD ⟨[],0,0,[]⟩
def Qdux:Ent Ty El:=⟨[.ro],0,fun a h=>match a,h with
 | [.str s],[]=>some (szS s,.tup [chV (readR s),.bool (readF s).isSome],[])
 | _,_=>none⟩
def Q01i:Ent Ty El:=Qdux
def Qz84:Ent Ty El:=⟨[],0,fun a h=>match a,h with
 | [],[]=>some (true,.sl .str [wKind,wTime,Qswv,Qxlh,Qbwf],[])
 | _,_=>none⟩
def Qsiq:Ent Ty El:=⟨[.ro],0,fun a h=>match a,h with
 | [.str v],[]=>some (szV v,.bool (hasNL v),[])
 | _,_=>none⟩
def Q947(k:Int):Ent Ty El:=⟨[.ro],0,fun a h=>match a,h with
 | [.int .i64 n],[]=>some (inR n 0 k,.str (decS n),[])
 | _,_=>none⟩
def Q9bk:Ent Ty El:=Q947 9
def Qol5:Ent Ty El:=Q947 99
def Q5dm:Ent Ty El:=Q947 999
def Qyz8:Ent Ty El:=Q947 9999
def Q8wj:Ent Ty El:=Q947 99999
def Q7xl:Ent Ty El:=Q947 999999
def Qzn9:Ent Ty El:=Q947 9999999
end Lx
namespace Go.Proofs
open Go.Shelf
def Tryz.laysM171_ren:Go.Shelf.Ren:=⟨fun|171=>102|243=>183|246=>236|283=>283|284=>284|285=>285|286=>286|129=>269|317=>327|318=>328|319=>329|320=>330|337=>344|338=>345|n=>n,fun|3=>3|9=>9|2=>2|4=>4|171=>305|0=>0|53=>298|37=>22|5=>5|173=>307|212=>343|51=>296|20=>20|213=>344|46=>261|232=>371|233=>372|n=>n,fun|17=>2|18=>7|19=>8|n=>n⟩
theorem Tryz.laysM171:Go.Proofs.LaysM.n171 Tryz.prog Tryz.laysM171_ren:={
 mixed:=by kernel_rfl
 f129:=Tryz.func269.trans (congrArg some (by kernel_rfl))
 f171:=Tryz.func102.trans (congrArg some (by kernel_rfl))
 f243:=Tryz.func183.trans (congrArg some (by kernel_rfl))
 f246:=Tryz.func236.trans (congrArg some (by kernel_rfl))
 f283:=Tryz.func283.trans (congrArg some (by kernel_rfl))
 f284:=Tryz.func284.trans (congrArg some (by kernel_rfl))
 f285:=Tryz.func285.trans (congrArg some (by kernel_rfl))
 f286:=Tryz.func286.trans (congrArg some (by kernel_rfl))
 f317:=Tryz.func327.trans (congrArg some (by kernel_rfl))
 f318:=Tryz.func328.trans (congrArg some (by kernel_rfl))
 f319:=Tryz.func329.trans (congrArg some (by kernel_rfl))
 f320:=Tryz.func330.trans (congrArg some (by kernel_rfl))
 f337:=Tryz.func344.trans (congrArg some (by kernel_rfl))
 f338:=Tryz.func345.trans (congrArg some (by kernel_rfl))
 t0:=Tryz.underlying0
 a0:=Tryz.isAgg0
 z0:=Tryz.sizeOf0
 v0:=Tryz.zeroValue0
 t2:=Tryz.underlying2
 a2:=Tryz.isAgg2
 z2:=Tryz.sizeOf2
 v2:=Tryz.zeroValue2
 t3:=Tryz.underlying3
 a3:=Tryz.isAgg3
 z3:=Tryz.sizeOf3
 v3:=Tryz.zeroValue3
 t4:=Tryz.underlying4
 a4:=Tryz.isAgg4
 z4:=Tryz.sizeOf4
 v4:=Tryz.zeroValue4
 t5:=Tryz.underlying5
 a5:=Tryz.isAgg5
 z5:=Tryz.sizeOf5
 v5:=Tryz.zeroValue5
 t9:=Tryz.underlying9
 a9:=Tryz.isAgg9
 z9:=Tryz.sizeOf9
 v9:=Tryz.zeroValue9
 t20:=Tryz.underlying20
 a20:=Tryz.isAgg20
 z20:=Tryz.sizeOf20
 v20:=Tryz.zeroValue20
 t37:=Tryz.underlying22
 a37:=Tryz.isAgg22
 z37:=Tryz.sizeOf22
 v37:=Tryz.zeroValue22
 t46:=Tryz.underlying261
 a46:=Tryz.isAgg261
 z46:=Tryz.sizeOf261
 v46:=Tryz.zeroValue261
 t51:=Tryz.underlying296
 a51:=Tryz.isAgg296
 z51:=Tryz.sizeOf296
 v51:=Tryz.zeroValue296
 t53:=Tryz.underlying298
 a53:=Tryz.isAgg298
 z53:=Tryz.sizeOf298
 v53:=Tryz.zeroValue298
 t171:=Tryz.underlying305
 a171:=Tryz.isAgg305
 z171:=Tryz.sizeOf305
 v171:=Tryz.zeroValue305
 t173:=Tryz.underlying307
 a173:=Tryz.isAgg307
 z173:=Tryz.sizeOf307
 v173:=Tryz.zeroValue307
 t212:=Tryz.underlying343
 a212:=Tryz.isAgg343
 z212:=Tryz.sizeOf343
 v212:=Tryz.zeroValue343
 t213:=Tryz.underlying344
 a213:=Tryz.isAgg344
 z213:=Tryz.sizeOf344
 t232:=Tryz.underlying371
 a232:=Tryz.isAgg371
 z232:=Tryz.sizeOf371
 v232:=Tryz.zeroValue371
 t233:=Tryz.underlying372
 a233:=Tryz.isAgg372
 z233:=Tryz.sizeOf372
 v233:=Tryz.zeroValue372
 g17:=by kernel_rfl
 g18:=by kernel_rfl
 g19:=by kernel_rfl
 i0:=by kernel_rfl
 i2:=by kernel_rfl
 i3:=by kernel_rfl
 i4:=by kernel_rfl
 i5:=by kernel_rfl
 i9:=by kernel_rfl
 i20:=by kernel_rfl
 i37:=by kernel_rfl
 i46:=by kernel_rfl
 i51:=by kernel_rfl
 i53:=by kernel_rfl
 i171:=by kernel_rfl
 i173:=by kernel_rfl
 i212:=by kernel_rfl
 i232:=by kernel_rfl
 i233:=by kernel_rfl
 m17:=by kernel_rfl
 m18:=by kernel_rfl
 m19:=by kernel_rfl }
open Go.RowKit Go.Sort Go.Lib in
theorem Tryz.strconv_Itoa(n:Int)(h0:-9223372036854775808≤n)(h1:n≤9223372036854775807)(w:World)(htab:Lib.TabIs Tryz.prog w "internal/strconv.uint64pow10" .u64 Lib.pow10Tab) :
  Calls Tryz.prog 102 #[.int .i64 n] w fun e w'=>e=.returned (.string ⟨(Lib.itoa n).toArray⟩)∧∃k os,w'=grow (w.drewN k) os:=Any.strconv_Itoa Tryz.laysM171 n h0 h1 w htab
def Tryz.lays144_ren:Go.Shelf.Ren:=⟨fun|144=>101|143=>182|219=>235|217=>279|225=>280|224=>281|267=>282|266=>325|314=>326|n=>n,fun|9=>9|4=>4|3=>3|5=>5|46=>261|146=>340|51=>296|n=>n,fun|1=>1|n=>n⟩
theorem Tryz.lays144:Go.Proofs.Lays.n144 Tryz.prog Tryz.lays144_ren:={
 mixed:=by kernel_rfl
 f143:=Tryz.func182.trans (congrArg some (by kernel_rfl))
 f144:=Tryz.func101.trans (congrArg some (by kernel_rfl))
 f217:=Tryz.func279.trans (congrArg some (by kernel_rfl))
 f219:=Tryz.func235.trans (congrArg some (by kernel_rfl))
 f224:=Tryz.func281.trans (congrArg some (by kernel_rfl))
 f225:=Tryz.func280.trans (congrArg some (by kernel_rfl))
 f266:=Tryz.func325.trans (congrArg some (by kernel_rfl))
 f267:=Tryz.func282.trans (congrArg some (by kernel_rfl))
 f314:=Tryz.func326.trans (congrArg some (by kernel_rfl))
 t3:=Tryz.underlying3
 a3:=Tryz.isAgg3
 z3:=Tryz.sizeOf3
 v3:=Tryz.zeroValue3
 t4:=Tryz.underlying4
 a4:=Tryz.isAgg4
 z4:=Tryz.sizeOf4
 v4:=Tryz.zeroValue4
 t5:=Tryz.underlying5
 a5:=Tryz.isAgg5
 z5:=Tryz.sizeOf5
 v5:=Tryz.zeroValue5
 t9:=Tryz.underlying9
 a9:=Tryz.isAgg9
 z9:=Tryz.sizeOf9
 v9:=Tryz.zeroValue9
 t46:=Tryz.underlying261
 a46:=Tryz.isAgg261
 z46:=Tryz.sizeOf261
 v46:=Tryz.zeroValue261
 t51:=Tryz.underlying296
 a51:=Tryz.isAgg296
 z51:=Tryz.sizeOf296
 v51:=Tryz.zeroValue296
 t146:=Tryz.underlying340
 a146:=Tryz.isAgg340
 z146:=Tryz.sizeOf340
 v146:=Tryz.zeroValue340
 g1:=by kernel_rfl }
open Go.RowKit Go.Lib in
theorem Tryz.strings_Contains_one(s:ByteArray)(c:UInt8)(w:World) :
  Calls Tryz.prog 101 #[.string s,.string ⟨#[c]⟩] w fun e w'=>e=.returned (.bool (decide (0≤Lib.indexByte s.data.toList c)))∧w'=w:=Any.strings_Contains_one Tryz.lays144 s c w
def Tryz.laysM316_ren:Go.Shelf.Ren:=⟨fun|316=>187|n=>n,fun|9=>9|3=>3|4=>4|37=>22|0=>0|127=>250|5=>5|n=>n,fun|n=>n⟩
theorem Tryz.laysM316:Go.Proofs.LaysM.n316 Tryz.prog Tryz.laysM316_ren:={
 mixed:=by kernel_rfl
 f316:=Tryz.func187.trans (congrArg some (by kernel_rfl))
 t0:=Tryz.underlying0
 a0:=Tryz.isAgg0
 z0:=Tryz.sizeOf0
 v0:=Tryz.zeroValue0
 t3:=Tryz.underlying3
 a3:=Tryz.isAgg3
 z3:=Tryz.sizeOf3
 v3:=Tryz.zeroValue3
 t4:=Tryz.underlying4
 a4:=Tryz.isAgg4
 z4:=Tryz.sizeOf4
 v4:=Tryz.zeroValue4
 t9:=Tryz.underlying9
 a9:=Tryz.isAgg9
 z9:=Tryz.sizeOf9
 v9:=Tryz.zeroValue9
 t37:=Tryz.underlying22
 a37:=Tryz.isAgg22
 z37:=Tryz.sizeOf22
 v37:=Tryz.zeroValue22
 t127:=Tryz.underlying250
 a127:=Tryz.isAgg250
 z127:=Tryz.sizeOf250
 v127:=Tryz.zeroValue250
 t5:=Tryz.underlying5
 a5:=Tryz.isAgg5
 z5:=Tryz.sizeOf5
 v5:=Tryz.zeroValue5
 i0:=by kernel_rfl
 i3:=by kernel_rfl
 i4:=by kernel_rfl
 i5:=by kernel_rfl
 i9:=by kernel_rfl
 i37:=by kernel_rfl
 i127:=by kernel_rfl }
open Go.RowKit Go.Lib in
theorem Tryz.stringslite_Clone(s:ByteArray)(w:World)(hlim:s.size≤281474976710656) :
  Calls Tryz.prog 187 #[.string s] w fun e w'=>e=.returned (.string s)∧Below w.heap.size w w':=Any.stringslite_Clone Tryz.laysM316 s w hlim
end Go.Proofs
namespace Lx
open Go Go.Proofs
def Q1ft:Ent Ty El:=Qsxi
theorem ixB(c:UInt8):∀l:List UInt8,decide (0≤Lib.indexByte l c)=l.any fun b=>b==c
 | []=>rfl
 | b::l=>by
  have ih:=ixB c l
  have hge:=Lib.indexByte_ge l c
  rw[List.any_cons,Lib.indexByte]
  by_cases h:(b==c)=true
  ·rw[if_pos h,h];rfl
  ·rw[if_neg h,show(b==c)=false by simpa using h,Bool.false_or,←ih]
   by_cases h2:(Lib.indexByte l c==-1)=true
   ·rw[if_pos h2,eq_of_beq h2]
   ·rw[if_neg h2]
    have h3:¬Lib.indexByte l c=-1:=fun e=>h2 (by rw[e];rfl)
    exact(decide_eq_true (show(0:Int)≤Lib.indexByte l c+1 by omega)).trans (decide_eq_true (show(0:Int)≤Lib.indexByte l c by omega)).symm
theorem Qbr2(s:Str)(c:UInt8):Qewq Tryz.prog CP Q0am [.str s,.str [c]] [] (.bool (s.any fun b=>b==c)) []:=by
 refine Qewq.quiet CP_ok fun w N vs hsz hrep=>?_
 obtain⟨sb,h0,hsb⟩:=Qfrf hrep hsz (j:=0) rfl
 obtain⟨cb,h1,hcb⟩:=Qfrf hrep hsz (j:=1) rfl
 obtain rfl:cb=⟨#[c]⟩:=Qa5q hcb
 rw[arr2 hsz h0 h1]
 refine(Tryz.strings_Contains_one sb c w).mono ?_
 rintro en w' ⟨rfl,rfl⟩
 refine⟨_,rfl,Fr.refl' _ _,fun N' _ _=>?_⟩
 rw[ixB,hsb]
 exact .bool _
theorem Q8b1:EntOK Tryz.prog CP Q0am Qf28:=by
 refine⟨eob (by kernel_rfl),fun _ _ _ _ h=>?_⟩
 simp only[Qf28]at h
 split at h
 ·obtain⟨hg,rfl,rfl⟩:=eoh h
  exact Qbr2 _ _
 ·cases h
theorem Qpph(s:Str)(hg:szS s=true):Qewq Tryz.prog CP Qnsr [.str s] [] (.str s) []:=by
 refine Qewq.quiet CP_ok fun w N vs hsz hrep=>?_
 obtain⟨sb,h0,hsb⟩:=Qfrf hrep hsz (j:=0) rfl
 rw[arr1 hsz h0]
 have hs:=of_decide_eq_true hg
 have hsize:sb.size=s.length:=by rw[Lib.size_eq,hsb]
 refine(Tryz.stringslite_Clone sb w (by omega)).mono ?_
 rintro en w' ⟨rfl,hb⟩
 exact⟨_,rfl,Fr.below hb,fun N' _ _=>.str _ _ hsb⟩
theorem Q6zv:EntOK Tryz.prog CP Qnsr Q1ft:=by
 refine⟨eob (by kernel_rfl),fun _ _ _ _ h=>?_⟩
 simp only[Q1ft,Qsxi]at h
 split at h
 ·obtain⟨hg,rfl,rfl⟩:=eoh h
  exact Qpph _ hg
 ·cases h
theorem Qg3a{N:Nm}{H:List O}{w:World}(h:HR CP N (hpOf H) w):Lib.TabIs Tryz.prog w "internal/strconv.uint64pow10" .u64 Lib.pow10Tab:=by
 obtain⟨hq,_,arr,t,fr,h1,h2⟩:=h.gl 2 (globT.map fun n=>.int .u64 n) rfl
 have hn:Tryz.prog.globalNamed "internal/strconv.uint64pow10" = some 2:=by kernel_rfl
 have hcell:∀j,j<20→w.cell? ⟨2,j,none⟩=some (.int .u64 (globT.getD j 0)):=fun j hj=>by
  generalize hp:(Value.pointer (some ⟨2,0,none⟩))=q at hq
  cases hq with
  | rop cs b o off f hro hcell hrep =>
   simp only[Value.pointer.injEq,qsI,Addr.mk.injEq,and_true]at hp
   obtain⟨rfl,ho⟩:=hp
   obtain rfl:o=0:=by omega
   have h3:=hcell j (by rw[List.length_map];exact hj)
   rw[Nat.zero_add]at h3
   have h4:(globT.map fun n=>(.int .u64 n:V))[j]? = some (.int .u64 (globT.getD j 0)):=by
    rw[List.getElem?_map,qgD,qeG (show j<globT.length from hj)];rfl
   rw[h3,(hrep j _ h4).inv_int]
 unfold Lib.TabIs
 have e:Lib.pow10Tab=globT:=by decide
 simp only[World.var?,hn,Option.bind_some,h1,e,qsI]
 apply Array.ext_getElem?
 intro j
 have hz:arr.size=20:=by rw[h2,List.length_map];rfl
 by_cases hj:j<20
 ·have h3:=hcell j hj
  simp only[World.cell?,h1]at h3
  have h4:arr[j]? = some (.int .u64 (globT.getD j 0)):=by simpa using h3
  rw[h4,List.getElem?_toArray,List.getElem?_map,qgD,qeG (show j<globT.length from hj)];rfl
 ·rw[Array.getElem?_eq_none (by omega),Array.getElem?_eq_none (by simp[globT];omega)]
theorem Qpzp(n:Int)(hg:inR n 0 1000000000=true):Qewq Tryz.prog CP Qvow [.int .i64 n] [] (.str (decS n)) []:=by
 refine Qewq.quietG CP_ok fun w N vs hN hsz hrep=>?_
 have h0:=Qf6o hrep hsz (j:=0) rfl
 rw[arr1 hsz h0]
 simp only[inR,qaT,qdT]at hg
 refine(Tryz.strconv_Itoa n (by omega) (by omega) w (Qg3a hN)).mono ?_
 rintro en w' ⟨rfl,k,os,rfl⟩
 refine⟨_,rfl,⟨rfl,rfl,rfl,by simp[Sort.grow,World.drewN],fun b hb _=>?_⟩,fun N' _ _=>?_⟩
 ·simp only[Sort.grow,World.drewN]
  rw[Array.getElem?_append_left hb]
 ·have e:Lib.itoa n=decS n:=by
   unfold Lib.itoa decS
   rw[if_neg (by omega)]
  rw[e]
  exact .str _ _ rfl
theorem Quvh:EntOK Tryz.prog CP Qvow Qo6n:=by
 refine⟨eob (by kernel_rfl),fun _ _ _ _ h=>?_⟩
 simp only[Qo6n]at h
 split at h
 ·obtain⟨hg,rfl,rfl⟩:=eoh h
  exact Qpzp _ hg
 ·cases h
end Lx
namespace Lx
open Go Go.Proofs
section
variable {Ty:Type} {El:Ty→Type} {R:RE Ty El} {f:FuncId} {res:AV Ty El} {H':List (AObj Ty El)}
theorem Sat.nd{c:Bool}{A:Option (Leaf Ty El)}(h:c=true)(hs:Sat R f res H' A):Sat R f res H' (Lx.ifb c A none):=by
 subst h;exact hs
end
def lensL:List Str→Nat
 | []=>0
 | w::l=>w.length+lensL l
theorem Qscd(c:UInt8)(k:Nat):Lib.splitK [c] 0 k []=[[]]:=by
 cases k with
 | zero=>rfl
 | succ k =>
  rw[Lib.splitK]
  rfl
theorem Qe7u(c:UInt8):∀(s:Str) (k:Nat),Lib.splitK [c] 0 k s=if k<(cutS (c.toNat:Int) s).length then (cutS (c.toNat:Int) s).take k++[s.drop (lensL ((cutS (c.toNat:Int) s).take k)+k)] else cutS (c.toNat:Int) s
 | [],0=>rfl
 | [],k+1=>by
  have e:cutS (c.toNat:Int) []=[[]]:=rfl
  rw[Qscd,e,if_neg (by simp)]
 | b::s,0=>by
  have:0<(cutS (c.toNat:Int) (b::s)).length:=List.length_pos_iff.2 (Qk4w _ _)
  rw[if_pos this];rfl
 | b::s,k+1=>by
  by_cases h:b=c
  ·subst h
   have e:cutS (b.toNat:Int) (b::s)=[]::cutS (b.toNat:Int) s:=by rw[cutS,if_pos (by simp)]
   rw[Qzmh,Qe7u b s k,e]
   by_cases hk:k<(cutS (b.toNat:Int) s).length
   ·rw[if_pos hk,if_pos (by simp only[List.length_cons];omega)]
    simp only[List.take_succ_cons,List.cons_append,lensL,List.length_nil,Nat.zero_add]
    rw[show lensL ((cutS (b.toNat:Int) s).take k)+(k+1)=(lensL ((cutS (b.toNat:Int) s).take k)+k)+1 by omega,List.drop_succ_cons]
   ·rw[if_neg hk,if_neg (by simp only[List.length_cons];omega)]
  ·obtain⟨w,ws,h1,h2⟩:=Q7sv h (k+1) s
   have ih:=Qe7u c s (k+1)
   rw[h1]at ih
   have hb:¬((b.toNat:Int)==(c.toNat:Int))=true:=fun e=>h (UInt8.toNat_inj.1 (by have:=eq_of_beq e;omega))
   cases hc:cutS (c.toNat:Int) s with
   | nil=>exact absurd hc (Qk4w _ _)
   | cons v vs =>
    have e:cutS (c.toNat:Int) (b::s)=(b::v)::vs:=by rw[cutS,if_neg hb,hc]
    rw[hc]at ih
    rw[h2,e]
    by_cases hk:k+1<(v::vs).length
    ·rw[if_pos hk]at ih
     simp only[List.take_succ_cons,List.cons_append,List.cons.injEq]at ih
     obtain⟨rfl,rfl⟩:=ih
     rw[if_pos (show k+1<((b::w)::vs).length by simpa using hk)]
     simp only[List.take_succ_cons,List.cons_append,lensL,List.length_cons]
     rw[show w.length+1+lensL (vs.take k)+(k+1)=(w.length+lensL (vs.take k)+(k+1))+1 by omega,List.drop_succ_cons]
    ·rw[if_neg hk]at ih
     obtain⟨rfl,rfl⟩:=List.cons.inj ih
     rw[if_neg (show ¬k+1<((b::w)::ws).length by simpa using hk)]
theorem Qh3y(c:Int):∀(s:Str),∀w∈cutS c s,w.length≤s.length
 | [],w,hw=>by
  simp only[cutS,List.mem_singleton]at hw
  subst hw;exact Nat.le_refl _
 | b::s,w,hw=>by
  have ih:=Qh3y c s
  rw[cutS]at hw
  split at hw
  ·rcases List.mem_cons.1 hw with rfl|hw
   ·simp
   ·have:=ih w hw;simp only[List.length_cons];omega
  ·split at hw
   ·rename_i hn;exact absurd hn (Qk4w _ _)
   ·rename_i v vs hv
    rcases List.mem_cons.1 hw with rfl|hw
    ·have:=ih v (by rw[hv];exact List.mem_cons_self ..);simp only[List.length_cons];omega
    ·have:=ih w (by rw[hv];exact List.mem_cons_of_mem _ hw);simp only[List.length_cons];omega
theorem Q72i(c:Int):∀(s:Str),lensL (cutS c s)+(cutS c s).length=s.length+1
 | []=>rfl
 | b::s=>by
  have ih:=Q72i c s
  rw[cutS]
  split
  ·simp only[lensL,List.length_nil,List.length_cons];omega
  ·split
   ·rename_i hn;exact absurd hn (Qk4w _ _)
   ·rename_i v vs hv
    rw[hv]at ih
    simp only[lensL,List.length_cons]at ih ⊢;omega
theorem Q34y(s:Str):(∃w0 w1 w2 w3 l,l≠[]∧cutS 32 s=w0::w1::w2::w3::l∧Lib.splitK [32] 0 (Q6c2 s 32 5) s=[w0,w1,w2,w3,s.drop (w0.length+w1.length+w2.length+w3.length+4)]∧w0.length+w1.length+w2.length+w3.length+4≤s.length) ∨
  ((cutS 32 s).length<5∧(Lib.splitK [32] 0 (Q6c2 s 32 5) s).length≠5):=by
 have hk:Q6c2 s 32 5=min 4 s.length:=by
  unfold Q6c2
  rw[if_neg (by omega)]
  have:(5:Int).toNat=5:=rfl
  rw[this];omega
 have hsp:=Qe7u 32 s (Q6c2 s 32 5)
 have e32:((32:UInt8).toNat:Int)=32:=rfl
 rw[e32]at hsp
 have hs:=Q72i 32 s
 have hl:=Qtox 32 s
 rw[hsp,hk]
 by_cases h5:5≤(cutS 32 s).length
 ·left
  match hc:cutS 32 s with
  | []=>rw[hc]at h5;simp at h5
  | [_]=>rw[hc]at h5;simp at h5
  | [_,_]=>rw[hc]at h5;simp at h5
  | [_,_,_]=>rw[hc]at h5;simp at h5
  | [_,_,_,_]=>rw[hc]at h5;simp at h5
  | w0::w1::w2::w3::w4::l =>
   rw[hc]at hs hl
   simp only[lensL,List.length_cons]at hs hl
   refine⟨w0,w1,w2,w3,w4::l,by simp,rfl, ?_,by omega⟩
   rw[show min 4 s.length=4 by omega,if_pos (by simp)]
   have e:w0.length+(w1.length+(w2.length+(w3.length+0)))+4=w0.length+w1.length+w2.length+w3.length+4:=by omega
   simp only[List.take_succ_cons,List.take_zero,lensL,List.cons_append,List.nil_append]
   rw[e]
 ·right
  refine⟨by omega, ?_⟩
  by_cases hq:min 4 s.length<(cutS 32 s).length
  ·rw[if_pos hq,List.length_append,List.length_take,List.length_singleton];omega
  ·rw[if_neg hq];omega
theorem anyNL(v:Str):(v.any fun b=>b==10)=hasNL v:=by
 unfold hasNL
 congr 1
 funext b
 apply Bool.eq_iff_iff.2
 simp only[beq_iff_eq]
 exact⟨fun h=>by rw[h];rfl,fun h=>UInt8.toNat_inj.1 h⟩
theorem Qgf2{c:Chg}(h:Qenx c=false):formF c=[]:=if_neg (by simp[h])
theorem Qj32{n:Int}(h:inR n 0 1000000000=true):(decS n).length≤10:=by
 simp only[inR,qaT,qdT]at h
 exact Qqxq 9 (by omega)
theorem Q9ne(k:Int):(Qkm3.getD k.toNat []).length≤5:=by
 have:∀w∈Qkm3,w.length≤5:=by decide
 rw[qgD]
 cases h:Qkm3[k.toNat]? with
 | none=>exact Nat.zero_le _
 | some w=>exact this w (qmG h)
theorem Qtk8{s:Str}(h:(cutS 32 s).length<5):readF s=none:=by
 unfold readF
 rw[if_neg (fun hh=>by omega)]
theorem Qfem(w:Str):max2A (idxF (fun y=>y==w) globW) 0=whatF w:=by
 unfold max2A whatF
 have e:globW=Qkm3:=rfl
 rw[e]
 by_cases h:(0:Int)>idxF (fun y=>y==w) Qkm3
 ·rw[if_pos h,Int.max_eq_right (by omega)]
 ·rw[if_neg h,Int.max_eq_left (by omega)]
def Q2ck:List Str:=[wKind,wTime,Qswv,Qxlh,Qbwf]
def whatG(w:Str):Nat→Int
 | 0=>0
 | i+1=>if (Q2ck.getD i []==w)=true then ((i+1:Nat):Int) else whatG w i
theorem Qu0p(w:Str):whatG w 5=whatF w:=by
 by_cases h5:w=Qbwf
 ·subst h5;decide
 by_cases h4:w=Qxlh
 ·subst h4;decide
 by_cases h3:w=Qswv
 ·subst h3;decide
 by_cases h2:w=wTime
 ·subst h2;decide
 by_cases h1:w=wKind
 ·subst h1;decide
 have n1:(wKind==w)=false:=by simp only[beq_eq_false_iff_ne];exact fun e=>h1 e.symm
 have n2:(wTime==w)=false:=by simp only[beq_eq_false_iff_ne];exact fun e=>h2 e.symm
 have n3:(Qswv==w)=false:=by simp only[beq_eq_false_iff_ne];exact fun e=>h3 e.symm
 have n4:(Qxlh==w)=false:=by simp only[beq_eq_false_iff_ne];exact fun e=>h4 e.symm
 have n5:(Qbwf==w)=false:=by simp only[beq_eq_false_iff_ne];exact fun e=>h5 e.symm
 have e0:whatG w 5=0:=by
  simp only[whatG,Q2ck,List.getD_cons_zero,List.getD_cons_succ,n1,n2,n3,n4,n5,Bool.false_eq_true,if_false]
 rw[e0]
 unfold whatF idxF Qkm3
 simp only[List.findIdx?_cons,n1,n2,n3,n4,n5,List.findIdx?_nil,Bool.false_eq_true,if_false,Option.map_none]
 by_cases hw:(([]:Str)==w)=true
 ·rw[if_pos hw];rfl
 ·rw[if_neg hw];rfl
theorem Q7ri{w3:Str}(h:decB w3=true):decV w3=numF w3:=by
 have:=of_decide_eq_true h
 unfold decV;omega
theorem Q8g8{s:Str}{w0 w1 w2 w3:Str}{l:List Str}(hc:cutS 32 s=w0::w1::w2::w3::l)(h:decB w3=false):readF s=none:=by
 unfold readF
 rw[if_neg]
 rintro⟨h5,hf⟩
 have hn:Qenx (readC s (cutS 32 s))=false:=by
  have:(readC s (cutS 32 s)).number=numF w3:=by rw[hc];rfl
  have h3:=of_decide_eq_false h
  simp only[Qenx,this,inR]
  rw[decide_eq_false (show ¬(1:Int)≤numF w3 by omega)]
  simp
 rw[Qgf2 hn]at hf
 rw[←hf]at h5
 simp[cutS]at h5
end Lx
namespace Lx
open Go Go.Proofs
noncomputable def Q9xq:RE Ty El:=⟨Tryz.prog,CP,[(Qnsr,Q1ft)],Tryz.f105,0,[],[]⟩
theorem Qxf1:REOK Q9xq Qiq5:=⟨CP_ok,(TabOK.cons Q6zv Qye1),by kernel_rfl,by kernel_rfl⟩
theorem Qbx0(s:Str):aRun Q9xq 600 false (body0 Q9xq.fn) (Q4gm Q9xq.fn [.str s] []) =
 ifb (szS s) (some (.ret (.str s) [])) none:=by kernel_rfl
theorem Qpk2(s:Str)(hg:szS s=true):Qewq Tryz.prog CP Qiq5 [.str s] [] (.str s) []:=by
 refine Qewq.of Qxf1 (by kernel_rfl) (Qbx0 s) ?_
 exact Sat.nd hg (Sat.ret rfl rfl)
theorem Q8il:EntOK Tryz.prog CP Qiq5 Qsxi:=by
 refine⟨eob (by kernel_rfl),fun _ _ _ _ h=>?_⟩
 simp only[Qsxi]at h
 split at h
 ·obtain⟨hg,rfl,rfl⟩:=eoh h
  exact Qpk2 _ hg
 ·cases h

noncomputable def Qrep:RE Ty El:=⟨Tryz.prog,CP,[],Tryz.f106,0,[],[(2,[(0,.any),(1,.any),(7,.any),(8,.any)])]⟩
theorem Q7m2:REOK Qrep Qbag:=⟨CP_ok,Qye1,by kernel_rfl,by kernel_rfl⟩
theorem Q9x3(l:List Str)(x:Str):aRun Qrep 600 false (body0 Qrep.fn) (Q4gm Qrep.fn [.sl .str l,.str x] []) =
 some (.go (Qu6t Qrep.fn 2) [.sl .str l,.str x,.int .i64 (↑l.length:Int),.int .i64 0] []):=by kernel_rfl
theorem Q4qn(x0:List (El .str))(x1:Str)(x2:Int)(x3:Int):aRun Qrep 600 true (Qu6t Qrep.fn 2) (cutSt Qrep.fn (Q1m4 Qrep (Qu6t Qrep.fn 2)) [.sl .str x0,.str x1,.int .i64 x2,.int .i64 x3] []) =
 ifb (decide (x3<x2)) (ifb (inb x3 x0.length) (ifb (x1==x0.getD x3.toNat (Qrep.C.dflt Ty.str)) (some (.ret (.int .i64 x3) [])) (some (.go (Qu6t Qrep.fn 2) [.sl .str x0,.str x1,.int .i64 x2,.int .i64 (IntKind.i64.wrap (x3+1))] []))) none) (some (.ret (.int .i64 (-1:Int)) [])):=by kernel_rfl
theorem Qrub(l:List Str)(x:Str)(h0:l.length≤1000000000):∀(d i:Nat),i+d=l.length→(∀k<i,∀y,l[k]? = some y→(y==x)=false)→Cut Qrep Qbag 2 [.sl .str l,.str x,.int .i64 (l.length:Int),.int .i64 (i:Int)] [] (.int .i64 (idxF (fun y=>y==x) l)) []:=by
 intro d
 induction d with
 | zero =>
  intro i hi hno
  refine Cut.of Q7m2 rfl (Q4qn l x l.length i) ?_
  rw[show decide ((i:Int)<(l.length:Int))=false from decide_eq_false (by omega),Qk7y]
  refine Sat.retI ?_ rfl
  unfold idxF
  rw[List.findIdx?_eq_none_iff.2 (fun y hy=>by
   obtain⟨j,hj,rfl⟩:=List.getElem_of_mem hy
   exact hno j (by omega) _ (qeG hj))]
 | succ d ih =>
  intro i hi hno
  refine Cut.of Q7m2 rfl (Q4qn l x l.length i) ?_
  have hlt:i<l.length:=by omega
  have hw:IntKind.wrap .i64 ((i:Int)+1)=((i+1:Nat):Int):=by rw[Qbrg]<;>omega
  have hx:l.getD (i:Int).toNat (Qrep.C.dflt .str)=l[i]:=by simp[hlt]
  have hin:inb (i:Int) l.length=true:=by simp only[inb,qaT,qdT];omega
  have hc:(x==l[i])=(l[i]==x):=by
   by_cases e:x=l[i]
   ·rw[e]
   ·rw[beq_eq_false_iff_ne.2 e,beq_eq_false_iff_ne.2 (fun q=>e q.symm)]
  rw[show decide ((i:Int)<(l.length:Int))=true from decide_eq_true (by omega),hin,hx,hw,hc]
  simp only[Qd8q]
  cases hn:(l[i]==x) with
  | true =>
   rw[Qd8q]
   refine Sat.retI ?_ rfl
   unfold idxF
   rw[List.findIdx?_eq_some_iff_getElem.2 ⟨hlt,hn,fun j hj=>by rw[hno j hj _ (qeG (by omega))];simp⟩]
  | false =>
   rw[Qk7y]
   refine Sat.cut (ih (i+1) (by omega) (fun k hk y hy=>?_))
   rcases Nat.lt_or_ge k i with h|h
   ·exact hno k h y hy
   ·obtain rfl:k=i:=by omega
    rw[qeG hlt]at hy
    obtain rfl:=Option.some.inj hy
    exact hn
theorem Q6lv(l:List Str)(x:Str)(hg:decide (l.length≤1000000000)=true):Qewq Tryz.prog CP Qbag [.sl .str l,.str x] [] (.int .i64 (idxF (fun y=>y==x) l)) []:=by
 refine Qewq.of Q7m2 (by kernel_rfl) (Q9x3 l x) ?_
 exact Sat.cut (Qrub l x (of_decide_eq_true hg) l.length 0 (by omega) (fun k hk=>by omega))
theorem Q3bw:EntOK Tryz.prog CP Qbag Qqy9:=by
 refine⟨eob (by kernel_rfl),fun _ _ _ _ h=>?_⟩
 simp only[Qqy9]at h
 split at h
 ·obtain⟨hg,rfl,rfl⟩:=eoh h
  exact Q6lv _ _ hg
 ·cases h

noncomputable def Qasx:RE Ty El:=⟨Tryz.prog,CP,[],Tryz.f108,0,[],[]⟩
theorem Qvco:REOK Qasx Qg7d:=⟨CP_ok,Qye1,by kernel_rfl,by kernel_rfl⟩
theorem Qcql  : aRun Qasx 600 false (body0 Qasx.fn) (Q4gm Qasx.fn [] []) =
 some (.ret (.sl .str [#[(107:UInt8),105,110,100].toList, #[(116:UInt8),105,109,101].toList, #[(108:UInt8),101,118,101,108].toList, #[(114:UInt8),111,117,116,101].toList, #[(115:UInt8),116,97,116,101].toList]) []):=by kernel_rfl
theorem Qsuz  : Qewq Tryz.prog CP Qg7d [] [] (.sl .str [wKind,wTime,Qswv,Qxlh,Qbwf]) []:=by
 refine Qewq.of Qvco (by kernel_rfl) (Qcql ) ?_
 exact Sat.ret rfl rfl
theorem Qld0:EntOK Tryz.prog CP Qg7d Qz84:=by
 refine⟨eob (by kernel_rfl),fun _ _ _ _ h=>?_⟩
 simp only[Qz84]at h
 split at h
 ·obtain⟨hg,rfl,rfl⟩:=eoh h
  exact Qsuz
 ·cases h

noncomputable def Qx3z:RE Ty El:=⟨Tryz.prog,CP,[],Tryz.f107,0,[],[(2,[(0,.any),(3,.any)])]⟩
theorem Q6v2:REOK Qx3z Q0xl:=⟨CP_ok,Qye1,by kernel_rfl,by kernel_rfl⟩
theorem Q286(v:Str):aRun Qx3z 600 false (body0 Qx3z.fn) (Q4gm Qx3z.fn [.str v] []) =
 some (.go (Qu6t Qx3z.fn 2) [.str v,.int .i64 0] []):=by kernel_rfl
theorem Qaeg(x0:Str)(x1:Int):aRun Qx3z 600 true (Qu6t Qx3z.fn 2) (cutSt Qx3z.fn (Q1m4 Qx3z (Qu6t Qx3z.fn 2)) [.str x0,.int .i64 x1] []) =
 ifb (decide (x1<(↑(List.length x0):Int))) (ifb (inb x1 (List.length x0)) (ifb ((↑(List.getD x0 x1.toNat (0:UInt8)).toNat:Int)==(10:Int)) (some (.ret (.bool true) [])) (some (.go (Qu6t Qx3z.fn 2) [.str x0,.int .i64 (IntKind.i64.wrap (x1+1))] []))) none) (some (.ret (.bool false) [])):=by kernel_rfl
theorem Qyv0(v:Str)(h0:v.length≤1000000000):∀(d i:Nat),i+d=v.length→Cut Qx3z Q0xl 2 [.str v,.int .i64 (i:Int)] [] (.bool (hasNL (v.drop i))) []:=by
 intro d
 induction d with
 | zero =>
  intro i hi
  refine Cut.of Q6v2 rfl (Qaeg v i) ?_
  rw[show decide ((i:Int)<(v.length:Int))=false from decide_eq_false (by omega),List.drop_of_length_le (by omega)]
  exact Sat.ret rfl rfl
 | succ d ih =>
  intro i hi
  refine Cut.of Q6v2 rfl (Qaeg v i) ?_
  have hlt:i<v.length:=by omega
  have hw:IntKind.wrap .i64 ((i:Int)+1)=((i+1:Nat):Int):=by rw[Qbrg]<;>omega
  have hx:v.getD (i:Int).toNat 0=v[i]:=by simp[hlt]
  have hin:inb (i:Int) v.length=true:=by simp only[inb,qaT,qdT];omega
  have hd:v.drop i=v[i]::v.drop (i+1):=qdC hlt
  have e:(((v[i].toNat:Nat):Int)==10)=(v[i].toNat==10):=by
   apply Bool.eq_iff_iff.2
   simp only[beq_iff_eq];omega
  have nx:=ih (i+1) (by omega)
  rw[show decide ((i:Int)<(v.length:Int))=true from decide_eq_true (by omega),hin,hx,hw,hd,e]
  simp only[Qd8q]
  have hc:hasNL (v[i]::v.drop (i+1))=(v[i].toNat==10||hasNL (v.drop (i+1))):=rfl
  rw[hc]
  cases v[i].toNat==10 with
  | true=>exact Sat.ret rfl rfl
  | false=>rw[Bool.false_or];exact Sat.cut nx
theorem Qw5x(v:Str)(hg:szV v=true):Qewq Tryz.prog CP Q0xl [.str v] [] (.bool (hasNL v)) []:=by
 refine Qewq.of Q6v2 (by kernel_rfl) (Q286 v) ?_
 exact Sat.cut (Qyv0 v (of_decide_eq_true hg) v.length 0 (by omega))
theorem Q1w4:EntOK Tryz.prog CP Q0xl Qsiq:=by
 refine⟨eob (by kernel_rfl),fun _ _ _ _ h=>?_⟩
 simp only[Qsiq]at h
 split at h
 ·obtain⟨hg,rfl,rfl⟩:=eoh h
  exact Qw5x _ hg
 ·cases h

noncomputable def Qtej:RE Ty El:=⟨Tryz.prog,CP,[],Tryz.f109,0,[],[]⟩
theorem Qfoi:REOK Qtej Qstj:=⟨CP_ok,Qye1,by kernel_rfl,by kernel_rfl⟩
theorem Q8b0(n:Int):aRun Qtej 600 false (body0 Qtej.fn) (Q4gm Qtej.fn [.int .i64 n] []) =
 ifb (decide (n<10)) (some (.ret (.str (List.map (fun n=>UInt8.ofNat n.toNat) (List.map (fun n=>n) [IntKind.u8.wrap (IntKind.i64.wrap ((48:Int)+n))]))) [])) none:=by kernel_rfl
theorem Qf50(n:Int)(hg:inR n 0 9=true):Qewq Tryz.prog CP Qstj [.int .i64 n] [] (.str (decS n)) []:=by
 refine Qewq.of Qfoi (by kernel_rfl) (Q8b0 n) ?_
 simp only[inR,qaT,qdT]at hg
 obtain⟨g0,g1⟩:=hg
 have hn:n=(n.toNat:Int):=by omega
 have hw1:n<10→IntKind.u8.wrap (IntKind.i64.wrap ((48:Int)+n))=48+n:=fun h=>by
  rw[Qbrg (by omega) (by omega)];unfold IntKind.wrap;simp[IntKind.bits,IntKind.signed];omega
 have hw2:IntKind.u8.wrap (IntKind.i64.wrap ((48:Int)+n.tmod 10))=48+((n.toNat%10:Nat):Int):=by
  have e:n.tmod 10=((n.toNat%10:Nat):Int):=by rw[Int.tmod_eq_emod_of_nonneg g0];omega
  rw[e,Qbrg (by omega) (by omega)];unfold IntKind.wrap;simp[IntKind.bits,IntKind.signed];omega
 have hq:IntKind.i64.wrap (n.tdiv 10)=((n.toNat / 10:Nat):Int):=by
  have e:n.tdiv 10=((n.toNat / 10:Nat):Int):=by rw[Int.tdiv_eq_ediv_of_nonneg g0];omega
  rw[e,Qbrg (by omega) (by omega)]
 refine Sat.ifb (fun h=>?_) (fun h=>?_)
 ·have h:=of_decide_eq_true h
  refine Sat.ret ?_ rfl
  rw[hw1 h,decS,Lib.decDigits_one (by omega)]
  simp only[List.map_cons,List.map_nil]
  rw[show(48+n).toNat=48+n.toNat by omega]
 ·have h:=of_decide_eq_false h
  omega
theorem Q9fy:EntOK Tryz.prog CP Qstj Q9bk:=by
 refine⟨eob (by kernel_rfl),fun _ _ _ _ h=>?_⟩
 simp only[Q9bk,Q947]at h
 split at h
 ·obtain⟨hg,rfl,rfl⟩:=eoh h
  exact Qf50 _ hg
 ·cases h

noncomputable def Qubs:RE Ty El:=⟨Tryz.prog,CP,[(Qstj,Q9bk)],Tryz.f109,0,[],[]⟩
theorem Qp8v:REOK Qubs Qstj:=⟨CP_ok,(TabOK.cons Q9fy Qye1),by kernel_rfl,by kernel_rfl⟩
theorem Q7nv(n:Int):aRun Qubs 600 false (body0 Qubs.fn) (Q4gm Qubs.fn [.int .i64 n] []) =
 ifb (decide (n<10)) (some (.ret (.str (List.map (fun n=>UInt8.ofNat n.toNat) (List.map (fun n=>n) [IntKind.u8.wrap (IntKind.i64.wrap ((48:Int)+n))]))) [])) (ifb (inR (IntKind.i64.wrap (n.tdiv (10:Int))) (0:Int) (9:Int)) (ifb (decide (List.length (decS (IntKind.i64.wrap (n.tdiv (10:Int))))+(List.map (fun n=>UInt8.ofNat n.toNat) (List.map (fun n=>n) [IntKind.u8.wrap (IntKind.i64.wrap ((48:Int)+n.tmod (10:Int)))])).length≤(9223372036854775807:Nat))) (some (.ret (.str (decS (IntKind.i64.wrap (n.tdiv (10:Int)))++List.map (fun n=>UInt8.ofNat n.toNat) (List.map (fun n=>n) [IntKind.u8.wrap (IntKind.i64.wrap ((48:Int)+n.tmod (10:Int)))]))) [])) none) none):=by kernel_rfl
theorem Qdmy(n:Int)(hg:inR n 0 99=true):Qewq Tryz.prog CP Qstj [.int .i64 n] [] (.str (decS n)) []:=by
 refine Qewq.of Qp8v (by kernel_rfl) (Q7nv n) ?_
 simp only[inR,qaT,qdT]at hg
 obtain⟨g0,g1⟩:=hg
 have hn:n=(n.toNat:Int):=by omega
 have hw1:n<10→IntKind.u8.wrap (IntKind.i64.wrap ((48:Int)+n))=48+n:=fun h=>by
  rw[Qbrg (by omega) (by omega)];unfold IntKind.wrap;simp[IntKind.bits,IntKind.signed];omega
 have hw2:IntKind.u8.wrap (IntKind.i64.wrap ((48:Int)+n.tmod 10))=48+((n.toNat%10:Nat):Int):=by
  have e:n.tmod 10=((n.toNat%10:Nat):Int):=by rw[Int.tmod_eq_emod_of_nonneg g0];omega
  rw[e,Qbrg (by omega) (by omega)];unfold IntKind.wrap;simp[IntKind.bits,IntKind.signed];omega
 have hq:IntKind.i64.wrap (n.tdiv 10)=((n.toNat / 10:Nat):Int):=by
  have e:n.tdiv 10=((n.toNat / 10:Nat):Int):=by rw[Int.tdiv_eq_ediv_of_nonneg g0];omega
  rw[e,Qbrg (by omega) (by omega)]
 refine Sat.ifb (fun h=>?_) (fun h=>?_)
 ·have h:=of_decide_eq_true h
  refine Sat.ret ?_ rfl
  rw[hw1 h,decS,Lib.decDigits_one (by omega)]
  simp only[List.map_cons,List.map_nil]
  rw[show(48+n).toNat=48+n.toNat by omega]
 ·have h:=of_decide_eq_false h
  rw[hq,hw2]
  refine Sat.nd (by simp only[inR,qaT,qdT];omega) ?_
  refine Sat.nd (decide_eq_true (by have:=Qqxq 9 (n:=n.toNat / 10) (by omega);simp only[decS,Int.toNat_natCast,List.map_cons,List.map_nil,List.length_singleton];omega)) ?_
  refine Sat.ret ?_ rfl
  have e:decS n=Lib.decDigits (n.toNat / 10)++[UInt8.ofNat (48+n.toNat%10)]:=Qadg (by omega)
  rw[e,show decS ((n.toNat / 10:Nat):Int)=Lib.decDigits (n.toNat / 10) by rw[decS,Int.toNat_natCast]]
  simp only[List.map_cons,List.map_nil]
  rw[show((48:Int)+((n.toNat%10:Nat):Int)).toNat=48+n.toNat%10 by omega]
theorem Qxgz:EntOK Tryz.prog CP Qstj Qol5:=by
 refine⟨eob (by kernel_rfl),fun _ _ _ _ h=>?_⟩
 simp only[Qol5,Q947]at h
 split at h
 ·obtain⟨hg,rfl,rfl⟩:=eoh h
  exact Qdmy _ hg
 ·cases h

noncomputable def Qc1d:RE Ty El:=⟨Tryz.prog,CP,[(Qstj,Qol5)],Tryz.f109,0,[],[]⟩
theorem Q2gp:REOK Qc1d Qstj:=⟨CP_ok,(TabOK.cons Qxgz Qye1),by kernel_rfl,by kernel_rfl⟩
theorem Ql4j(n:Int):aRun Qc1d 600 false (body0 Qc1d.fn) (Q4gm Qc1d.fn [.int .i64 n] []) =
 ifb (decide (n<10)) (some (.ret (.str (List.map (fun n=>UInt8.ofNat n.toNat) (List.map (fun n=>n) [IntKind.u8.wrap (IntKind.i64.wrap ((48:Int)+n))]))) [])) (ifb (inR (IntKind.i64.wrap (n.tdiv (10:Int))) (0:Int) (99:Int)) (ifb (decide (List.length (decS (IntKind.i64.wrap (n.tdiv (10:Int))))+(List.map (fun n=>UInt8.ofNat n.toNat) (List.map (fun n=>n) [IntKind.u8.wrap (IntKind.i64.wrap ((48:Int)+n.tmod (10:Int)))])).length≤(9223372036854775807:Nat))) (some (.ret (.str (decS (IntKind.i64.wrap (n.tdiv (10:Int)))++List.map (fun n=>UInt8.ofNat n.toNat) (List.map (fun n=>n) [IntKind.u8.wrap (IntKind.i64.wrap ((48:Int)+n.tmod (10:Int)))]))) [])) none) none):=by kernel_rfl
theorem Qi08(n:Int)(hg:inR n 0 999=true):Qewq Tryz.prog CP Qstj [.int .i64 n] [] (.str (decS n)) []:=by
 refine Qewq.of Q2gp (by kernel_rfl) (Ql4j n) ?_
 simp only[inR,qaT,qdT]at hg
 obtain⟨g0,g1⟩:=hg
 have hn:n=(n.toNat:Int):=by omega
 have hw1:n<10→IntKind.u8.wrap (IntKind.i64.wrap ((48:Int)+n))=48+n:=fun h=>by
  rw[Qbrg (by omega) (by omega)];unfold IntKind.wrap;simp[IntKind.bits,IntKind.signed];omega
 have hw2:IntKind.u8.wrap (IntKind.i64.wrap ((48:Int)+n.tmod 10))=48+((n.toNat%10:Nat):Int):=by
  have e:n.tmod 10=((n.toNat%10:Nat):Int):=by rw[Int.tmod_eq_emod_of_nonneg g0];omega
  rw[e,Qbrg (by omega) (by omega)];unfold IntKind.wrap;simp[IntKind.bits,IntKind.signed];omega
 have hq:IntKind.i64.wrap (n.tdiv 10)=((n.toNat / 10:Nat):Int):=by
  have e:n.tdiv 10=((n.toNat / 10:Nat):Int):=by rw[Int.tdiv_eq_ediv_of_nonneg g0];omega
  rw[e,Qbrg (by omega) (by omega)]
 refine Sat.ifb (fun h=>?_) (fun h=>?_)
 ·have h:=of_decide_eq_true h
  refine Sat.ret ?_ rfl
  rw[hw1 h,decS,Lib.decDigits_one (by omega)]
  simp only[List.map_cons,List.map_nil]
  rw[show(48+n).toNat=48+n.toNat by omega]
 ·have h:=of_decide_eq_false h
  rw[hq,hw2]
  refine Sat.nd (by simp only[inR,qaT,qdT];omega) ?_
  refine Sat.nd (decide_eq_true (by have:=Qqxq 9 (n:=n.toNat / 10) (by omega);simp only[decS,Int.toNat_natCast,List.map_cons,List.map_nil,List.length_singleton];omega)) ?_
  refine Sat.ret ?_ rfl
  have e:decS n=Lib.decDigits (n.toNat / 10)++[UInt8.ofNat (48+n.toNat%10)]:=Qadg (by omega)
  rw[e,show decS ((n.toNat / 10:Nat):Int)=Lib.decDigits (n.toNat / 10) by rw[decS,Int.toNat_natCast]]
  simp only[List.map_cons,List.map_nil]
  rw[show((48:Int)+((n.toNat%10:Nat):Int)).toNat=48+n.toNat%10 by omega]
theorem Qnin:EntOK Tryz.prog CP Qstj Q5dm:=by
 refine⟨eob (by kernel_rfl),fun _ _ _ _ h=>?_⟩
 simp only[Q5dm,Q947]at h
 split at h
 ·obtain⟨hg,rfl,rfl⟩:=eoh h
  exact Qi08 _ hg
 ·cases h

noncomputable def Qv1p:RE Ty El:=⟨Tryz.prog,CP,[(Qstj,Q5dm)],Tryz.f109,0,[],[]⟩
theorem Qyvr:REOK Qv1p Qstj:=⟨CP_ok,(TabOK.cons Qnin Qye1),by kernel_rfl,by kernel_rfl⟩
theorem Qedb(n:Int):aRun Qv1p 600 false (body0 Qv1p.fn) (Q4gm Qv1p.fn [.int .i64 n] []) =
 ifb (decide (n<10)) (some (.ret (.str (List.map (fun n=>UInt8.ofNat n.toNat) (List.map (fun n=>n) [IntKind.u8.wrap (IntKind.i64.wrap ((48:Int)+n))]))) [])) (ifb (inR (IntKind.i64.wrap (n.tdiv (10:Int))) (0:Int) (999:Int)) (ifb (decide (List.length (decS (IntKind.i64.wrap (n.tdiv (10:Int))))+(List.map (fun n=>UInt8.ofNat n.toNat) (List.map (fun n=>n) [IntKind.u8.wrap (IntKind.i64.wrap ((48:Int)+n.tmod (10:Int)))])).length≤(9223372036854775807:Nat))) (some (.ret (.str (decS (IntKind.i64.wrap (n.tdiv (10:Int)))++List.map (fun n=>UInt8.ofNat n.toNat) (List.map (fun n=>n) [IntKind.u8.wrap (IntKind.i64.wrap ((48:Int)+n.tmod (10:Int)))]))) [])) none) none):=by kernel_rfl
theorem Qrcc(n:Int)(hg:inR n 0 9999=true):Qewq Tryz.prog CP Qstj [.int .i64 n] [] (.str (decS n)) []:=by
 refine Qewq.of Qyvr (by kernel_rfl) (Qedb n) ?_
 simp only[inR,qaT,qdT]at hg
 obtain⟨g0,g1⟩:=hg
 have hn:n=(n.toNat:Int):=by omega
 have hw1:n<10→IntKind.u8.wrap (IntKind.i64.wrap ((48:Int)+n))=48+n:=fun h=>by
  rw[Qbrg (by omega) (by omega)];unfold IntKind.wrap;simp[IntKind.bits,IntKind.signed];omega
 have hw2:IntKind.u8.wrap (IntKind.i64.wrap ((48:Int)+n.tmod 10))=48+((n.toNat%10:Nat):Int):=by
  have e:n.tmod 10=((n.toNat%10:Nat):Int):=by rw[Int.tmod_eq_emod_of_nonneg g0];omega
  rw[e,Qbrg (by omega) (by omega)];unfold IntKind.wrap;simp[IntKind.bits,IntKind.signed];omega
 have hq:IntKind.i64.wrap (n.tdiv 10)=((n.toNat / 10:Nat):Int):=by
  have e:n.tdiv 10=((n.toNat / 10:Nat):Int):=by rw[Int.tdiv_eq_ediv_of_nonneg g0];omega
  rw[e,Qbrg (by omega) (by omega)]
 refine Sat.ifb (fun h=>?_) (fun h=>?_)
 ·have h:=of_decide_eq_true h
  refine Sat.ret ?_ rfl
  rw[hw1 h,decS,Lib.decDigits_one (by omega)]
  simp only[List.map_cons,List.map_nil]
  rw[show(48+n).toNat=48+n.toNat by omega]
 ·have h:=of_decide_eq_false h
  rw[hq,hw2]
  refine Sat.nd (by simp only[inR,qaT,qdT];omega) ?_
  refine Sat.nd (decide_eq_true (by have:=Qqxq 9 (n:=n.toNat / 10) (by omega);simp only[decS,Int.toNat_natCast,List.map_cons,List.map_nil,List.length_singleton];omega)) ?_
  refine Sat.ret ?_ rfl
  have e:decS n=Lib.decDigits (n.toNat / 10)++[UInt8.ofNat (48+n.toNat%10)]:=Qadg (by omega)
  rw[e,show decS ((n.toNat / 10:Nat):Int)=Lib.decDigits (n.toNat / 10) by rw[decS,Int.toNat_natCast]]
  simp only[List.map_cons,List.map_nil]
  rw[show((48:Int)+((n.toNat%10:Nat):Int)).toNat=48+n.toNat%10 by omega]
theorem Qsjv:EntOK Tryz.prog CP Qstj Qyz8:=by
 refine⟨eob (by kernel_rfl),fun _ _ _ _ h=>?_⟩
 simp only[Qyz8,Q947]at h
 split at h
 ·obtain⟨hg,rfl,rfl⟩:=eoh h
  exact Qrcc _ hg
 ·cases h

noncomputable def Q5in:RE Ty El:=⟨Tryz.prog,CP,[(Qstj,Qyz8)],Tryz.f109,0,[],[]⟩
theorem Q8qk:REOK Q5in Qstj:=⟨CP_ok,(TabOK.cons Qsjv Qye1),by kernel_rfl,by kernel_rfl⟩
theorem Qphx(n:Int):aRun Q5in 600 false (body0 Q5in.fn) (Q4gm Q5in.fn [.int .i64 n] []) =
 ifb (decide (n<10)) (some (.ret (.str (List.map (fun n=>UInt8.ofNat n.toNat) (List.map (fun n=>n) [IntKind.u8.wrap (IntKind.i64.wrap ((48:Int)+n))]))) [])) (ifb (inR (IntKind.i64.wrap (n.tdiv (10:Int))) (0:Int) (9999:Int)) (ifb (decide (List.length (decS (IntKind.i64.wrap (n.tdiv (10:Int))))+(List.map (fun n=>UInt8.ofNat n.toNat) (List.map (fun n=>n) [IntKind.u8.wrap (IntKind.i64.wrap ((48:Int)+n.tmod (10:Int)))])).length≤(9223372036854775807:Nat))) (some (.ret (.str (decS (IntKind.i64.wrap (n.tdiv (10:Int)))++List.map (fun n=>UInt8.ofNat n.toNat) (List.map (fun n=>n) [IntKind.u8.wrap (IntKind.i64.wrap ((48:Int)+n.tmod (10:Int)))]))) [])) none) none):=by kernel_rfl
theorem Q908(n:Int)(hg:inR n 0 99999=true):Qewq Tryz.prog CP Qstj [.int .i64 n] [] (.str (decS n)) []:=by
 refine Qewq.of Q8qk (by kernel_rfl) (Qphx n) ?_
 simp only[inR,qaT,qdT]at hg
 obtain⟨g0,g1⟩:=hg
 have hn:n=(n.toNat:Int):=by omega
 have hw1:n<10→IntKind.u8.wrap (IntKind.i64.wrap ((48:Int)+n))=48+n:=fun h=>by
  rw[Qbrg (by omega) (by omega)];unfold IntKind.wrap;simp[IntKind.bits,IntKind.signed];omega
 have hw2:IntKind.u8.wrap (IntKind.i64.wrap ((48:Int)+n.tmod 10))=48+((n.toNat%10:Nat):Int):=by
  have e:n.tmod 10=((n.toNat%10:Nat):Int):=by rw[Int.tmod_eq_emod_of_nonneg g0];omega
  rw[e,Qbrg (by omega) (by omega)];unfold IntKind.wrap;simp[IntKind.bits,IntKind.signed];omega
 have hq:IntKind.i64.wrap (n.tdiv 10)=((n.toNat / 10:Nat):Int):=by
  have e:n.tdiv 10=((n.toNat / 10:Nat):Int):=by rw[Int.tdiv_eq_ediv_of_nonneg g0];omega
  rw[e,Qbrg (by omega) (by omega)]
 refine Sat.ifb (fun h=>?_) (fun h=>?_)
 ·have h:=of_decide_eq_true h
  refine Sat.ret ?_ rfl
  rw[hw1 h,decS,Lib.decDigits_one (by omega)]
  simp only[List.map_cons,List.map_nil]
  rw[show(48+n).toNat=48+n.toNat by omega]
 ·have h:=of_decide_eq_false h
  rw[hq,hw2]
  refine Sat.nd (by simp only[inR,qaT,qdT];omega) ?_
  refine Sat.nd (decide_eq_true (by have:=Qqxq 9 (n:=n.toNat / 10) (by omega);simp only[decS,Int.toNat_natCast,List.map_cons,List.map_nil,List.length_singleton];omega)) ?_
  refine Sat.ret ?_ rfl
  have e:decS n=Lib.decDigits (n.toNat / 10)++[UInt8.ofNat (48+n.toNat%10)]:=Qadg (by omega)
  rw[e,show decS ((n.toNat / 10:Nat):Int)=Lib.decDigits (n.toNat / 10) by rw[decS,Int.toNat_natCast]]
  simp only[List.map_cons,List.map_nil]
  rw[show((48:Int)+((n.toNat%10:Nat):Int)).toNat=48+n.toNat%10 by omega]
theorem Qho8:EntOK Tryz.prog CP Qstj Q8wj:=by
 refine⟨eob (by kernel_rfl),fun _ _ _ _ h=>?_⟩
 simp only[Q8wj,Q947]at h
 split at h
 ·obtain⟨hg,rfl,rfl⟩:=eoh h
  exact Q908 _ hg
 ·cases h

noncomputable def Q183:RE Ty El:=⟨Tryz.prog,CP,[(Qstj,Q8wj)],Tryz.f109,0,[],[]⟩
theorem Q5ku:REOK Q183 Qstj:=⟨CP_ok,(TabOK.cons Qho8 Qye1),by kernel_rfl,by kernel_rfl⟩
theorem Q03t(n:Int):aRun Q183 600 false (body0 Q183.fn) (Q4gm Q183.fn [.int .i64 n] []) =
 ifb (decide (n<10)) (some (.ret (.str (List.map (fun n=>UInt8.ofNat n.toNat) (List.map (fun n=>n) [IntKind.u8.wrap (IntKind.i64.wrap ((48:Int)+n))]))) [])) (ifb (inR (IntKind.i64.wrap (n.tdiv (10:Int))) (0:Int) (99999:Int)) (ifb (decide (List.length (decS (IntKind.i64.wrap (n.tdiv (10:Int))))+(List.map (fun n=>UInt8.ofNat n.toNat) (List.map (fun n=>n) [IntKind.u8.wrap (IntKind.i64.wrap ((48:Int)+n.tmod (10:Int)))])).length≤(9223372036854775807:Nat))) (some (.ret (.str (decS (IntKind.i64.wrap (n.tdiv (10:Int)))++List.map (fun n=>UInt8.ofNat n.toNat) (List.map (fun n=>n) [IntKind.u8.wrap (IntKind.i64.wrap ((48:Int)+n.tmod (10:Int)))]))) [])) none) none):=by kernel_rfl
theorem Q7qp(n:Int)(hg:inR n 0 999999=true):Qewq Tryz.prog CP Qstj [.int .i64 n] [] (.str (decS n)) []:=by
 refine Qewq.of Q5ku (by kernel_rfl) (Q03t n) ?_
 simp only[inR,qaT,qdT]at hg
 obtain⟨g0,g1⟩:=hg
 have hn:n=(n.toNat:Int):=by omega
 have hw1:n<10→IntKind.u8.wrap (IntKind.i64.wrap ((48:Int)+n))=48+n:=fun h=>by
  rw[Qbrg (by omega) (by omega)];unfold IntKind.wrap;simp[IntKind.bits,IntKind.signed];omega
 have hw2:IntKind.u8.wrap (IntKind.i64.wrap ((48:Int)+n.tmod 10))=48+((n.toNat%10:Nat):Int):=by
  have e:n.tmod 10=((n.toNat%10:Nat):Int):=by rw[Int.tmod_eq_emod_of_nonneg g0];omega
  rw[e,Qbrg (by omega) (by omega)];unfold IntKind.wrap;simp[IntKind.bits,IntKind.signed];omega
 have hq:IntKind.i64.wrap (n.tdiv 10)=((n.toNat / 10:Nat):Int):=by
  have e:n.tdiv 10=((n.toNat / 10:Nat):Int):=by rw[Int.tdiv_eq_ediv_of_nonneg g0];omega
  rw[e,Qbrg (by omega) (by omega)]
 refine Sat.ifb (fun h=>?_) (fun h=>?_)
 ·have h:=of_decide_eq_true h
  refine Sat.ret ?_ rfl
  rw[hw1 h,decS,Lib.decDigits_one (by omega)]
  simp only[List.map_cons,List.map_nil]
  rw[show(48+n).toNat=48+n.toNat by omega]
 ·have h:=of_decide_eq_false h
  rw[hq,hw2]
  refine Sat.nd (by simp only[inR,qaT,qdT];omega) ?_
  refine Sat.nd (decide_eq_true (by have:=Qqxq 9 (n:=n.toNat / 10) (by omega);simp only[decS,Int.toNat_natCast,List.map_cons,List.map_nil,List.length_singleton];omega)) ?_
  refine Sat.ret ?_ rfl
  have e:decS n=Lib.decDigits (n.toNat / 10)++[UInt8.ofNat (48+n.toNat%10)]:=Qadg (by omega)
  rw[e,show decS ((n.toNat / 10:Nat):Int)=Lib.decDigits (n.toNat / 10) by rw[decS,Int.toNat_natCast]]
  simp only[List.map_cons,List.map_nil]
  rw[show((48:Int)+((n.toNat%10:Nat):Int)).toNat=48+n.toNat%10 by omega]
theorem Qi9x:EntOK Tryz.prog CP Qstj Q7xl:=by
 refine⟨eob (by kernel_rfl),fun _ _ _ _ h=>?_⟩
 simp only[Q7xl,Q947]at h
 split at h
 ·obtain⟨hg,rfl,rfl⟩:=eoh h
  exact Q7qp _ hg
 ·cases h

noncomputable def Qtqu:RE Ty El:=⟨Tryz.prog,CP,[(Qstj,Q7xl)],Tryz.f109,0,[],[]⟩
theorem Qn7g:REOK Qtqu Qstj:=⟨CP_ok,(TabOK.cons Qi9x Qye1),by kernel_rfl,by kernel_rfl⟩
theorem Qnbl(n:Int):aRun Qtqu 600 false (body0 Qtqu.fn) (Q4gm Qtqu.fn [.int .i64 n] []) =
 ifb (decide (n<10)) (some (.ret (.str (List.map (fun n=>UInt8.ofNat n.toNat) (List.map (fun n=>n) [IntKind.u8.wrap (IntKind.i64.wrap ((48:Int)+n))]))) [])) (ifb (inR (IntKind.i64.wrap (n.tdiv (10:Int))) (0:Int) (999999:Int)) (ifb (decide (List.length (decS (IntKind.i64.wrap (n.tdiv (10:Int))))+(List.map (fun n=>UInt8.ofNat n.toNat) (List.map (fun n=>n) [IntKind.u8.wrap (IntKind.i64.wrap ((48:Int)+n.tmod (10:Int)))])).length≤(9223372036854775807:Nat))) (some (.ret (.str (decS (IntKind.i64.wrap (n.tdiv (10:Int)))++List.map (fun n=>UInt8.ofNat n.toNat) (List.map (fun n=>n) [IntKind.u8.wrap (IntKind.i64.wrap ((48:Int)+n.tmod (10:Int)))]))) [])) none) none):=by kernel_rfl
theorem Qg09(n:Int)(hg:inR n 0 9999999=true):Qewq Tryz.prog CP Qstj [.int .i64 n] [] (.str (decS n)) []:=by
 refine Qewq.of Qn7g (by kernel_rfl) (Qnbl n) ?_
 simp only[inR,qaT,qdT]at hg
 obtain⟨g0,g1⟩:=hg
 have hn:n=(n.toNat:Int):=by omega
 have hw1:n<10→IntKind.u8.wrap (IntKind.i64.wrap ((48:Int)+n))=48+n:=fun h=>by
  rw[Qbrg (by omega) (by omega)];unfold IntKind.wrap;simp[IntKind.bits,IntKind.signed];omega
 have hw2:IntKind.u8.wrap (IntKind.i64.wrap ((48:Int)+n.tmod 10))=48+((n.toNat%10:Nat):Int):=by
  have e:n.tmod 10=((n.toNat%10:Nat):Int):=by rw[Int.tmod_eq_emod_of_nonneg g0];omega
  rw[e,Qbrg (by omega) (by omega)];unfold IntKind.wrap;simp[IntKind.bits,IntKind.signed];omega
 have hq:IntKind.i64.wrap (n.tdiv 10)=((n.toNat / 10:Nat):Int):=by
  have e:n.tdiv 10=((n.toNat / 10:Nat):Int):=by rw[Int.tdiv_eq_ediv_of_nonneg g0];omega
  rw[e,Qbrg (by omega) (by omega)]
 refine Sat.ifb (fun h=>?_) (fun h=>?_)
 ·have h:=of_decide_eq_true h
  refine Sat.ret ?_ rfl
  rw[hw1 h,decS,Lib.decDigits_one (by omega)]
  simp only[List.map_cons,List.map_nil]
  rw[show(48+n).toNat=48+n.toNat by omega]
 ·have h:=of_decide_eq_false h
  rw[hq,hw2]
  refine Sat.nd (by simp only[inR,qaT,qdT];omega) ?_
  refine Sat.nd (decide_eq_true (by have:=Qqxq 9 (n:=n.toNat / 10) (by omega);simp only[decS,Int.toNat_natCast,List.map_cons,List.map_nil,List.length_singleton];omega)) ?_
  refine Sat.ret ?_ rfl
  have e:decS n=Lib.decDigits (n.toNat / 10)++[UInt8.ofNat (48+n.toNat%10)]:=Qadg (by omega)
  rw[e,show decS ((n.toNat / 10:Nat):Int)=Lib.decDigits (n.toNat / 10) by rw[decS,Int.toNat_natCast]]
  simp only[List.map_cons,List.map_nil]
  rw[show((48:Int)+((n.toNat%10:Nat):Int)).toNat=48+n.toNat%10 by omega]
theorem Qse0:EntOK Tryz.prog CP Qstj Qzn9:=by
 refine⟨eob (by kernel_rfl),fun _ _ _ _ h=>?_⟩
 simp only[Qzn9,Q947]at h
 split at h
 ·obtain⟨hg,rfl,rfl⟩:=eoh h
  exact Qg09 _ hg
 ·cases h

noncomputable def Qroh:RE Ty El:=⟨Tryz.prog,CP,[(Q9ho,Qcc2),(Qn2h,Q0vx),(Q0am,Qf28),(Qvow,Qo6n)],Tryz.f26,0,[],[]⟩
theorem Qu89:REOK Qroh Qfq7:=⟨CP_ok,(TabOK.cons Q8k7 (TabOK.cons Qfgu (TabOK.cons Q8b1 (TabOK.cons Quvh Qye1)))),by kernel_rfl,by kernel_rfl⟩
theorem Qk49(fl:Str)(w m:Int)(v:Str):aRun Qroh 600 false (body0 Qroh.fn) (Q4gm Qroh.fn [.agg [.str fl,.int .i64 w,.int .i64 m,.str v]] []) =
 let z0:=(9223372036854775807:Nat);let z1:=(Qroh.C.dflt Ty.str);let z2:OL:=(some (.ret (.str #[].toList) []));let z3:=(32:UInt8);let z4:=(115:UInt8);ifb (!Q2rq fl) z2 (ifb (!inR w (1:Int) (5:Int)) z2 (ifb (!inR m (1:Int) (1000000:Int)) z2 (ifb (v==#[].toList) z2 (ifb (szS v) (ifb (List.any v fun b=>b==(10:UInt8)) z2 (ifb (decide (#[z4,101,116,32].toList.length+List.length fl≤z0)) (ifb (decide ((#[z4,101,116,32].toList++fl).length+#[z3].toList.length≤z0)) (ifb (inb w globW.length) (ifb (decide ((#[z4,101,116,32].toList++fl++#[z3].toList).length+List.length (globW.getD w.toNat z1)≤z0)) (ifb (decide ((#[z4,101,116,32].toList++fl++#[z3].toList++globW.getD w.toNat z1).length+#[z3].toList.length≤z0)) (ifb (inR m (0:Int) (1000000000:Int)) (ifb (decide ((#[z4,101,116,32].toList++fl++#[z3].toList++globW.getD w.toNat z1++#[z3].toList).length+List.length (decS m)≤z0)) (ifb (decide ((#[z4,101,116,32].toList++fl++#[z3].toList++globW.getD w.toNat z1++#[z3].toList++decS m).length+#[z3].toList.length≤z0)) (ifb (decide ((#[z4,101,116,32].toList++fl++#[z3].toList++globW.getD w.toNat z1++#[z3].toList++decS m++#[z3].toList).length+List.length v≤z0)) (some (.ret (.str (#[z4,101,116,32].toList++fl++#[z3].toList++globW.getD w.toNat z1++#[z3].toList++decS m++#[z3].toList++v)) [])) none) none) none) none) none) none) none) none) none)) none)))):=by kernel_rfl
theorem Qhs9(fl:Str)(w m:Int)(v:Str)(hg:szV v=true):Qewq Tryz.prog CP Qfq7 [.agg [.str fl,.int .i64 w,.int .i64 m,.str v]] [] (.str (formF ⟨fl,w,m,v⟩)) []:=by
 refine Qewq.of Qu89 (by kernel_rfl) (Qk49 fl w m v) ?_
 conv=>zeta
 have hv:=of_decide_eq_true (show szV v=true from hg)
 cases h1:Q2rq fl with
 | false=>rw[Qgf2 (by simp[Qenx,h1])];exact Sat.ret rfl rfl
 | true =>
 simp only[Bool.not_true,Qk7y]
 cases h2:inR w 1 5 with
 | false=>rw[Qgf2 (by simp[Qenx,h2])];exact Sat.ret rfl rfl
 | true =>
 simp only[Bool.not_true,Qk7y]
 cases h3:inR m 1 1000000 with
 | false=>rw[Qgf2 (by simp[Qenx,h3])];exact Sat.ret rfl rfl
 | true =>
 simp only[Bool.not_true,Qk7y]
 by_cases h4:v=[]
 ·subst h4
  rw[Qgf2 (by simp[Qenx])];exact Sat.ret rfl rfl
 have h4':(v==[])=false:=beq_eq_false_iff_ne.2 h4
 rw[show(v==#[].toList)=false from h4']
 simp only[Qk7y]
 refine Sat.nd hg ?_
 rw[anyNL]
 cases h5:hasNL v with
 | true=>rw[Qgf2 (by simp[Qenx,h5])];exact Sat.ret rfl rfl
 | false =>
 simp only[Qk7y]
 have hf:formF ⟨fl,w,m,v⟩=formB ⟨fl,w,m,v⟩:=if_pos (by simp only[Qenx,h1,h2,h3,h4',h5];rfl)
 rw[hf]
 unfold formB
 have hfl:fl.length≤8:=by simp only[Q2rq,qaT,qdT]at h1;exact h1.2.1
 have hm:=h3
 have hw:=h2
 simp only[inR,qaT,qdT]at hm hw
 have hd:=Qj32 (n:=m) (by simp only[inR,qaT,qdT];omega)
 have hwl:=Q9ne w
 have e:globW.getD w.toNat (Qroh.C.dflt .str)=Qkm3.getD w.toNat []:=rfl
 have hin:inb w globW.length=true:=by rw[show globW.length=6 from rfl];simp only[inb,qaT,qdT];omega
 rw[e,hin]
 generalize Qkm3.getD w.toNat []=wd at hwl ⊢
 generalize decS m=dd at hd ⊢
 have q:∀n:Nat,n≤2000000000→decide (n≤9223372036854775807)=true:=fun n h=>decide_eq_true (by omega)
 refine Sat.nd (q _ (by simp;omega)) (Sat.nd (q _ (by simp;omega)) (Sat.nd rfl (Sat.nd (q _ (by simp;omega)) (Sat.nd (q _ (by simp;omega)) (Sat.nd (by simp only[inR,qaT,qdT];omega) (Sat.nd (q _ (by simp;omega)) (Sat.nd (q _ (by simp;omega)) (Sat.nd (q _ (by simp;omega)) (Sat.ret ?_ rfl)))))))))
 refine congrArg AV.str ?_
 simp[wSet]
theorem Q80o:EntOK Tryz.prog CP Qfq7 Qvn1:=by
 refine⟨eob (by kernel_rfl),fun _ _ _ _ h=>?_⟩
 simp only[Qvn1]at h
 split at h
 ·obtain⟨hg,rfl,rfl⟩:=eoh h
  exact Qhs9 _ _ _ _ hg
 ·cases h

noncomputable def Q0xa:RE Ty El:=⟨Tryz.prog,CP,[(Qnn1,Q4bc),(Qyp5,Qc4s),(Q0xl,Qsiq),(Qg7d,Qz84),(Qstj,Qzn9)],Tryz.f28,0,[],[]⟩
theorem Qq6u:REOK Q0xa Qyqz:=⟨CP_ok,(TabOK.cons Q7n8 (TabOK.cons Qzgd (TabOK.cons Q1w4 (TabOK.cons Qld0 (TabOK.cons Qse0 Qye1))))),by kernel_rfl,by kernel_rfl⟩
theorem Qsfr(fl:Str)(w m:Int)(v:Str):aRun Q0xa 600 false (body0 Q0xa.fn) (Q4gm Q0xa.fn [.agg [.str fl,.int .i64 w,.int .i64 m,.str v]] []) =
 let z0:=(9223372036854775807:Nat);let z1:=(Q0xa.C.dflt Ty.str);let z2:=(IntKind.i64.wrap (w-1));let z3:OL:=(some (.ret (.str #[].toList) []));let z4:=(32:UInt8);let z5:=(115:UInt8);ifb (!Q2rq fl) z3 (ifb (!inR m (1:Int) (1000000:Int)) z3 (ifb (!inR w (1:Int) (5:Int)) z3 (ifb (v==#[].toList) z3 (ifb (szV v) (ifb (hasNL v) z3 (ifb (decide (#[z5,101,116,32].toList.length+List.length fl≤z0)) (ifb (decide ((#[z5,101,116,32].toList++fl).length+#[z4].toList.length≤z0)) (ifb (inb z2 [wKind,wTime,Qswv,Qxlh,Qbwf].length) (ifb (decide ((#[z5,101,116,32].toList++fl++#[z4].toList).length+List.length ([wKind,wTime,Qswv,Qxlh,Qbwf].getD z2.toNat z1)≤z0)) (ifb (decide ((#[z5,101,116,32].toList++fl++#[z4].toList++[wKind,wTime,Qswv,Qxlh,Qbwf].getD z2.toNat z1).length+#[z4].toList.length≤z0)) (ifb (inR m (0:Int) (9999999:Int)) (ifb (decide ((#[z5,101,116,32].toList++fl++#[z4].toList++[wKind,wTime,Qswv,Qxlh,Qbwf].getD z2.toNat z1++#[z4].toList).length+List.length (decS m)≤z0)) (ifb (decide ((#[z5,101,116,32].toList++fl++#[z4].toList++[wKind,wTime,Qswv,Qxlh,Qbwf].getD z2.toNat z1++#[z4].toList++decS m).length+#[z4].toList.length≤z0)) (ifb (decide ((#[z5,101,116,32].toList++fl++#[z4].toList++[wKind,wTime,Qswv,Qxlh,Qbwf].getD z2.toNat z1++#[z4].toList++decS m++#[z4].toList).length+List.length v≤z0)) (some (.ret (.str (#[z5,101,116,32].toList++fl++#[z4].toList++[wKind,wTime,Qswv,Qxlh,Qbwf].getD z2.toNat z1++#[z4].toList++decS m++#[z4].toList++v)) [])) none) none) none) none) none) none) none) none) none)) none)))):=by kernel_rfl
theorem Qmu9(fl:Str)(w m:Int)(v:Str)(hg:szV v=true):Qewq Tryz.prog CP Qyqz [.agg [.str fl,.int .i64 w,.int .i64 m,.str v]] [] (.str (formF ⟨fl,w,m,v⟩)) []:=by
 refine Qewq.of Qq6u (by kernel_rfl) (Qsfr fl w m v) ?_
 conv=>zeta
 have hv:=of_decide_eq_true (show szV v=true from hg)
 cases h1:Q2rq fl with
 | false=>rw[Qgf2 (by simp[Qenx,h1])];exact Sat.ret rfl rfl
 | true =>
 simp only[Bool.not_true,Qk7y]
 cases h3:inR m 1 1000000 with
 | false=>rw[Qgf2 (by simp[Qenx,h3])];exact Sat.ret rfl rfl
 | true =>
 simp only[Bool.not_true,Qk7y]
 cases h2:inR w 1 5 with
 | false=>rw[Qgf2 (by simp[Qenx,h2])];exact Sat.ret rfl rfl
 | true =>
 simp only[Bool.not_true,Qk7y]
 by_cases h4:v=[]
 ·subst h4
  rw[Qgf2 (by simp[Qenx])];exact Sat.ret rfl rfl
 have h4':(v==[])=false:=beq_eq_false_iff_ne.2 h4
 rw[show(v==#[].toList)=false from h4']
 simp only[Qk7y]
 refine Sat.nd hg ?_
 cases h5:hasNL v with
 | true=>rw[Qgf2 (by simp[Qenx,h5])];exact Sat.ret rfl rfl
 | false =>
 simp only[Qk7y]
 have hf:formF ⟨fl,w,m,v⟩=formB ⟨fl,w,m,v⟩:=if_pos (by simp only[Qenx,h1,h2,h3,h4',h5];rfl)
 rw[hf]
 unfold formB
 have hfl:fl.length≤8:=by simp only[Q2rq,qaT,qdT]at h1;exact h1.2.1
 have hm:=h3
 have hw:=h2
 simp only[inR,qaT,qdT]at hm hw
 have hd:=Qj32 (n:=m) (by simp only[inR,qaT,qdT];omega)
 have hwl:=Q9ne w
 have e0:IntKind.i64.wrap (w-1)=w-1:=by rw[Qbrg]<;>omega
 rw[e0]
 have e:[wKind,wTime,Qswv,Qxlh,Qbwf].getD (w-1).toNat (Q0xa.C.dflt .str)=Qkm3.getD w.toNat []:=by
  obtain⟨k,rfl⟩:∃k:Nat,w=(k:Int)+1:=⟨(w-1).toNat,by omega⟩
  rw[show((k:Int)+1-1).toNat=k by omega,show((k:Int)+1).toNat=k+1 by omega];rfl
 have hin:inb (w-1) [wKind,wTime,Qswv,Qxlh,Qbwf].length=true:=by simp only[inb,List.length_cons,List.length_nil,qaT,qdT];omega
 rw[e,hin]
 generalize Qkm3.getD w.toNat []=wd at hwl ⊢
 generalize decS m=dd at hd ⊢
 have q:∀n:Nat,n≤2000000000→decide (n≤9223372036854775807)=true:=fun n h=>decide_eq_true (by omega)
 refine Sat.nd (q _ (by simp;omega)) (Sat.nd (q _ (by simp;omega)) (Sat.nd rfl (Sat.nd (q _ (by simp;omega)) (Sat.nd (q _ (by simp;omega)) (Sat.nd (by simp only[inR,qaT,qdT];omega) (Sat.nd (q _ (by simp;omega)) (Sat.nd (q _ (by simp;omega)) (Sat.nd (q _ (by simp;omega)) (Sat.ret ?_ rfl)))))))))
 refine congrArg AV.str ?_
 simp[wSet]
theorem Qawc:EntOK Tryz.prog CP Qyqz Qzlv:=by
 refine⟨eob (by kernel_rfl),fun _ _ _ _ h=>?_⟩
 simp only[Qzlv,Qvn1]at h
 split at h
 ·obtain⟨hg,rfl,rfl⟩:=eoh h
  exact Qmu9 _ _ _ _ hg
 ·cases h

noncomputable def Q6ts:RE Ty El:=⟨Tryz.prog,CP,[(Qzc0,Q56p),(Q8l1,Q18u),(Qiq5,Qsxi),(Qbag,Qqy9),(Qfq7,Qvn1)],Tryz.f27,0,[],[]⟩
theorem Qobc:REOK Q6ts Qg3n:=⟨CP_ok,(TabOK.cons Qicf (TabOK.cons Qbi7 (TabOK.cons Q8il (TabOK.cons Q3bw (TabOK.cons Q80o Qye1))))),by kernel_rfl,by kernel_rfl⟩
theorem Qhuv(s:Str):aRun Q6ts 600 false (body0 Q6ts.fn) (Q4gm Q6ts.fn [.str s] []) =
 let z0:=(Lib.splitK [(32:UInt8)] (0:Nat) (Q6c2 s (32:UInt8) (5:Int)) s);let z1:OL:=(some (.ret (.tup [.agg [.str #[].toList,.int .i64 0,.int .i64 0,.str #[].toList],.bool false]) []));let z2:=(Q6ts.C.dflt Ty.str);let z3:=(z0.getD (Int.toNat (4:Int)) z2);let z4:=(z0.getD (Int.toNat (1:Int)) z2);let z5:=(z0.getD (Int.toNat (3:Int)) z2);ifb (szS s&&(!decide ((5:Int)=(0:Int))&&decide ((5:Int)≤(1000000000:Int)))) (ifb ((↑z0.length:Int) !=(5:Int)) z1 (ifb (inb (3:Int) z0.length) (ifb (inb (1:Int) z0.length) (ifb (szS z4) (ifb (inb (2:Int) z0.length) (ifb (inb (4:Int) z0.length) (ifb (szS z3) (ifb (!decB z5) z1 (ifb (s==#[].toList) z1 (ifb (szV z3) (ifb (!formF (Chg.mk z4 (max2A (idxF (fun y=>y==z0.getD (Int.toNat (2:Int)) z2) globW) (0:Int)) (decV z5) z3)==s) z1 (some (.ret (.tup [.agg [.str z4,.int .i64 (max2A (idxF (fun y=>y==z0.getD (Int.toNat (2:Int)) z2) globW) (0:Int)),.int .i64 (decV z5),.str z3],.bool true]) []))) none))) none) none) none) none) none) none)) none:=by kernel_rfl
theorem Q6tf(s:Str)(hg:szS s=true):Qewq Tryz.prog CP Qg3n [.str s] [] (.tup [chV (readR s),.bool (readF s).isSome]) []:=by
 refine Qewq.of Qobc (by kernel_rfl) (Qhuv s) ?_
 conv=>zeta
 have hs:=of_decide_eq_true (show szS s=true from hg)
 rw[show(szS s&&(!decide ((5:Int)=(0:Int))&&decide ((5:Int)≤(1000000000:Int))))=true by rw[show szS s=true from hg];rfl]
 simp only[Qd8q]
 rcases Q34y s with ⟨w0,w1,w2,w3,l,hl,hc,hk,hn⟩|⟨h1,h2⟩
 ·have hp:∀w∈[w0,w1,w2,w3],w.length≤s.length:=fun w hw=>Qh3y 32 s w (by
   rw[hc];simp only[List.mem_cons,List.not_mem_nil,or_false]at hw ⊢
   rcases hw with rfl|rfl|rfl|rfl<;>simp)
  have p1:=hp w1 (by simp)
  have hr:∀k:Int,k=numF w3→(Chg.mk w1 (whatF w2) k (s.drop (w0.length+w1.length+w2.length+w3.length+4)))=readC s (cutS 32 s):=fun k hk=>by
   rw[hk,hc];rfl
  rw[hk]
  simp only[List.length_cons,List.length_nil,List.getD_cons_zero,List.getD_cons_succ,Int.toNat_zero,show Int.toNat 1=1 from rfl,show Int.toNat 2=2 from rfl,show Int.toNat 3=3 from rfl,show Int.toNat 4=4 from rfl]
  have hd:(s.drop (w0.length+w1.length+w2.length+w3.length+4)).length≤1000000000:=by rw[List.length_drop];omega
  generalize hv:s.drop (w0.length+w1.length+w2.length+w3.length+4)=v at hd hr ⊢
  simp only[show inb (1:Int) (0+1+1+1+1+1)=true from rfl,show inb (2:Int) (0+1+1+1+1+1)=true from rfl,show inb (3:Int) (0+1+1+1+1+1)=true from rfl,show inb (4:Int) (0+1+1+1+1+1)=true from rfl,show(((0+1+1+1+1+1:Nat):Int) !=5)=false from rfl,Bool.not_true,Qd8q,Qk7y]
  refine Sat.nd (decide_eq_true (by omega)) (Sat.nd (decide_eq_true hd) ?_)
  cases hb:decB w3 with
  | false =>
   rw[readR,Q8g8 hc hb]
   exact Sat.ret rfl rfl
  | true =>
   have hnil:(s==[])=false:=by
    rw[beq_eq_false_iff_ne];intro e;subst e;simp at hn
   rw[show(s==#[].toList)=false from hnil,Q7ri hb,show max2A (idxF (fun y=>y==w2) globW) (0:Int)=whatF w2 from Qfem w2]
   simp only[Bool.not_true,Qk7y]
   refine Sat.nd (decide_eq_true hd) ?_
   rw[hr _ rfl]
   have h5:5≤(cutS 32 s).length:=by
    rw[hc];have:=List.length_pos_iff.2 hl;simp only[List.length_cons];omega
   cases hf:(formF (readC s (cutS 32 s))==s) with
   | true =>
    have e:readF s=some (readC s (cutS 32 s)):=if_pos ⟨h5,eq_of_beq hf⟩
    rw[readR,e]
    simp only[Bool.not_true,Qk7y]
    refine Sat.ret ?_ rfl
    rw[Option.getD_some,←hr _ rfl];rfl
   | false =>
    have e:readF s=none:=if_neg (fun h=>by rw[h.2]at hf;simp at hf)
    rw[readR,e]
    exact Sat.ret rfl rfl
 ·have hne:(((Lib.splitK [(32:UInt8)] (0:Nat) (Q6c2 s (32:UInt8) (5:Int)) s).length:Int) !=(5:Int))=true:=by
   simp only[bne_iff_ne,ne_eq];omega
  rw[hne,readR,Qtk8 h1]
  exact Sat.ret rfl rfl
theorem Qrmu:EntOK Tryz.prog CP Qg3n Qdux:=by
 refine⟨eob (by kernel_rfl),fun _ _ _ _ h=>?_⟩
 simp only[Qdux]at h
 split at h
 ·obtain⟨hg,rfl,rfl⟩:=eoh h
  exact Q6tf _ hg
 ·cases h

noncomputable def Qxdv:RE Ty El:=⟨Tryz.prog,CP,[(Q001,Qi2p),(Qqw4,Qmli),(Qg7d,Qz84),(Qyqz,Qzlv)],Tryz.f30,0,[],[(6,[(0,.any),(2,.any),(4,.any),(5,.any),(6,.any)])]⟩
theorem Q57s:REOK Qxdv Qs3r:=⟨CP_ok,(TabOK.cons Ql4s (TabOK.cons Qlxw (TabOK.cons Qld0 (TabOK.cons Qawc Qye1)))),by kernel_rfl,by kernel_rfl⟩
theorem Q7ne(s:Str):aRun Qxdv 600 false (body0 Qxdv.fn) (Q4gm Qxdv.fn [.str s] []) =
 let z0:=(cutS (32:Int) s);let z1:=(Qxdv.C.dflt Ty.str);ifb (decide (List.length s≤(1000000000:Nat))) (ifb (decide ((↑z0.length:Int)<(5:Int))) (some (.ret (.tup [.agg [.str #[].toList,.int .i64 0,.int .i64 0,.str #[].toList],.bool false]) [])) (ifb (inb (1:Int) z0.length) (ifb (inb (3:Int) z0.length) (some (.go (Qu6t Qxdv.fn 6) [.str s,.ptr 0 0,.sl .str z0,.ptr 1 0,.int .i64 0] [.box [.str #[].toList,.int .i64 0,.int .i64 0,.str #[].toList],.box [.str (z0.getD (Int.toNat (1:Int)) z1),.int .i64 0,.int .i64 (numF (z0.getD (Int.toNat (3:Int)) z1)),.str #[].toList]])) none) none)) none:=by kernel_rfl
theorem Qza2(x0:Str)(x1:List (El .str))(x2:Int)(x3:Str)(x4:Int)(x5:Int)(x6:Str)(x7:Str)(x8:Int)(x9:Int)(x10:Str):aRun Qxdv 600 true (Qu6t Qxdv.fn 6) (cutSt Qxdv.fn (Q1m4 Qxdv (Qu6t Qxdv.fn 6)) [.str x0,.ptr 0 0,.sl .str x1,.ptr 1 0,.int .i64 x2] [.box [.str x3,.int .i64 x4,.int .i64 x5,.str x6],.box [.str x7,.int .i64 x8,.int .i64 x9,.str x10]]) =
 let z2:=(Qxdv.C.dflt Ty.str);let z0:=(IntKind.i64.wrap (IntKind.i64.wrap (IntKind.i64.wrap ((↑(List.length (x1.getD (Int.toNat (0:Int)) z2)):Int)+(↑(List.length (x1.getD (Int.toNat (1:Int)) z2)):Int))+(↑(List.length (x1.getD (Int.toNat (2:Int)) z2)):Int))+(↑(List.length (x1.getD (Int.toNat (3:Int)) z2)):Int))+4);let z3:=(↑(List.length x0):Int);let z1:=(List.take (z3.toNat-(IntKind.i64.wrap z0).toNat) (List.drop (IntKind.i64.wrap z0).toNat x0));let z4:=(IntKind.i64.wrap (x2+1));ifb (decide (x2<(↑[wKind,wTime,Qswv,Qxlh,Qbwf].length:Int))) (ifb (inb x2 [wKind,wTime,Qswv,Qxlh,Qbwf].length) (ifb (inb (2:Int) x1.length) (ifb ([wKind,wTime,Qswv,Qxlh,Qbwf].getD x2.toNat z2==x1.getD (Int.toNat (2:Int)) z2) (some (.go (Qu6t Qxdv.fn 6) [.str x0,.ptr 0 0,.sl .str x1,.ptr 1 0,.int .i64 z4] [.box [.str x3,.int .i64 x4,.int .i64 x5,.str x6],.box [.str x7,.int .i64 z4,.int .i64 x9,.str x10]])) (some (.go (Qu6t Qxdv.fn 6) [.str x0,.ptr 0 0,.sl .str x1,.ptr 1 0,.int .i64 z4] [.box [.str x3,.int .i64 x4,.int .i64 x5,.str x6],.box [.str x7,.int .i64 x8,.int .i64 x9,.str x10]]))) none) none) (ifb (inb (0:Int) x1.length) (ifb (inb (1:Int) x1.length) (ifb (inb (2:Int) x1.length) (ifb (inb (3:Int) x1.length) (ifb (decide (0≤IntKind.i64.wrap z0)&&(decide (IntKind.i64.wrap z0≤z3)&&decide (z3≤z3))) (ifb (szV z1) (ifb (!formF (Chg.mk x7 x8 x9 z1)==x0) (some (.ret (.tup [.agg [.str #[].toList,.int .i64 0,.int .i64 0,.str #[].toList],.bool false]) [])) (some (.ret (.tup [.agg [.str x7,.int .i64 x8,.int .i64 x9,.str z1],.bool true]) []))) none) none) none) none) none) none):=by kernel_rfl
theorem Qsqn(s w0 w1 w2 w3:Str)(l:List Str)(hs:s.length≤1000000000)(hl:l≠[])(hc:cutS 32 s=w0::w1::w2::w3::l)(hn:w0.length+w1.length+w2.length+w3.length+4≤s.length):∀(d i:Nat),i+d=5 →
  Cut Qxdv Qs3r 6 [.str s,.ptr 0 0,.sl .str (w0::w1::w2::w3::l),.ptr 1 0,.int .i64 (i:Int)] [.box [.str [],.int .i64 (0:Int),.int .i64 (0:Int),.str []],.box [.str w1,.int .i64 (whatG w2 i),.int .i64 (numF w3),.str []]] (.tup [chV (readR s),.bool (readF s).isSome]) []:=by
 intro d
 induction d with
 | zero =>
  intro i hi
  obtain rfl:i=5:=by omega
  refine Cut.of Q57s rfl (Qza2 s _ _ [] 0 0 [] w1 _ (numF w3) []) ?_
  conv=>zeta
  have e0:∀(a b:Nat),a+b≤2000000000→IntKind.i64.wrap ((a:Int)+(b:Int))=((a+b:Nat):Int):=fun a b h=>by rw[Qbrg]<;>omega
  rw[show decide (((5:Nat):Int)<(([wKind,wTime,Qswv,Qxlh,Qbwf].length:Nat):Int))=false from rfl]
  simp only[Qk7y]
  refine Sat.nd (by simp[inb];omega) (Sat.nd (by simp[inb];omega) (Sat.nd (by simp[inb];omega) (Sat.nd (by simp[inb];omega) ?_)))
  simp only[List.getD_cons_zero,List.getD_cons_succ,Int.toNat_zero,show Int.toNat 1=1 from rfl,show Int.toNat 2=2 from rfl,show Int.toNat 3=3 from rfl]
  rw[e0 _ _ (by omega),e0 _ _ (by omega),e0 _ _ (by omega),show((4:Int))=((4:Nat):Int) from rfl,e0 _ _ (by omega),Qu0p]
  have hr:(Chg.mk w1 (whatF w2) (numF w3) (s.drop (w0.length+w1.length+w2.length+w3.length+4)))=readC s (cutS 32 s):=by rw[hc];rfl
  have ht:List.take (((s.length:Nat):Int).toNat-((w0.length+w1.length+w2.length+w3.length+4:Nat):Int).toNat) (List.drop ((w0.length+w1.length+w2.length+w3.length+4:Nat):Int).toNat s)=s.drop (w0.length+w1.length+w2.length+w3.length+4):=by
   rw[Int.toNat_natCast,Int.toNat_natCast]
   exact List.take_of_length_le (by rw[List.length_drop];omega)
  rw[ht]
  have hd:(s.drop (w0.length+w1.length+w2.length+w3.length+4)).length≤1000000000:=by rw[List.length_drop];omega
  refine Sat.nd (by simp only[qaT,qdT];omega) (Sat.nd (decide_eq_true hd) ?_)
  rw[hr]
  have h5:5≤(cutS 32 s).length:=by
   rw[hc];have:=List.length_pos_iff.2 hl;simp only[List.length_cons];omega
  cases hf:(formF (readC s (cutS 32 s))==s) with
  | true =>
   have e:readF s=some (readC s (cutS 32 s)):=if_pos ⟨h5,eq_of_beq hf⟩
   rw[readR,e]
   simp only[Bool.not_true,Qk7y]
   refine Sat.ret ?_ rfl
   rw[Option.getD_some,←hr];rfl
  | false =>
   have e:readF s=none:=if_neg (fun h=>by rw[h.2]at hf;simp at hf)
   rw[readR,e]
   exact Sat.ret rfl rfl
 | succ d ih =>
  intro i hi
  refine Cut.of Q57s rfl (Qza2 s _ i [] 0 0 [] w1 _ (numF w3) []) ?_
  conv=>zeta
  have hw:IntKind.wrap .i64 ((i:Int)+1)=((i+1:Nat):Int):=by rw[Qbrg]<;>omega
  have nx:=ih (i+1) (by omega)
  have ex:[wKind,wTime,Qswv,Qxlh,Qbwf].getD (i:Int).toNat (Qxdv.C.dflt .str)=Q2ck.getD i []:=rfl
  have e2:(w0::w1::w2::w3::l).getD (Int.toNat 2) (Qxdv.C.dflt .str)=w2:=rfl
  rw[show decide ((i:Int)<(([wKind,wTime,Qswv,Qxlh,Qbwf].length:Nat):Int))=true from decide_eq_true (by simp only[List.length_cons,List.length_nil];omega)]
  simp only[Qd8q]
  refine Sat.nd (by simp only[inb,List.length_cons,List.length_nil,qaT,qdT];omega) (Sat.nd (by simp[inb];omega) ?_)
  rw[ex,e2,hw]
  cases hq:(Q2ck.getD i []==w2) with
  | true =>
   have eg:whatG w2 (i+1)=((i+1:Nat):Int):=by rw[whatG,if_pos hq]
   rw[eg]at nx
   exact Sat.cut nx
  | false =>
   have eg:whatG w2 (i+1)=whatG w2 i:=by rw[whatG,if_neg (by rw[hq];simp)]
   rw[eg]at nx
   exact Sat.cut nx
theorem Qugs(s:Str)(hg:szS s=true):Qewq Tryz.prog CP Qs3r [.str s] [] (.tup [chV (readR s),.bool (readF s).isSome]) []:=by
 refine Qewq.of Q57s (by kernel_rfl) (Q7ne s) ?_
 conv=>zeta
 have hs:=of_decide_eq_true (show szS s=true from hg)
 rw[decide_eq_true hs]
 simp only[Qd8q]
 rcases Q34y s with ⟨w0,w1,w2,w3,l,hl,hc,hk,hn⟩|⟨h1,h2⟩
 ·rw[hc,decide_eq_false (show ¬(((w0::w1::w2::w3::l).length:Nat):Int)<5 by have:=List.length_pos_iff.2 hl;simp only[List.length_cons];omega)]
  simp only[Qk7y]
  refine Sat.nd (by simp[inb];omega) (Sat.nd (by simp[inb];omega) ?_)
  exact Sat.cut (Qsqn s w0 w1 w2 w3 l hs hl hc hn 5 0 rfl)
 ·rw[decide_eq_true (show(((cutS 32 s).length:Nat):Int)<5 by omega),readR,Qtk8 h1]
  exact Sat.ret rfl rfl
theorem Qkik:EntOK Tryz.prog CP Qs3r Q01i:=by
 refine⟨eob (by kernel_rfl),fun _ _ _ _ h=>?_⟩
 simp only[Q01i,Qdux]at h
 split at h
 ·obtain⟨hg,rfl,rfl⟩:=eoh h
  exact Qugs _ hg
 ·cases h
end Lx
namespace Lx
open Go Go.Proofs
def Qq2m:Str:=[107,105,110,100]
def Qisw:Str:=[112,111,105,110,116]
def wSetL:Str:=[115,101,116]
def Qehh(s:Str):List Str:=if ((cutS 10 s).getD ((cutS 10 s).length-1) []==[])=true then (cutS 10 s).take ((cutS 10 s).length-1) else cutS 10 s
structure LineR where
 ks:List Kind
 ps:List Point
 es:List Entry
 code:Int
 deriving Inhabited
def posK(ks:List Kind)(n:Str):Nat:=(ks.takeWhile fun k=>Q7zj k.name n).length
def insK(ks:List Kind)(k:Kind):List Kind:=ks.take (posK ks k.name)++k::ks.drop (posK ks k.name)
def Qypu(ws:List Str):Kind:=⟨ws.getD 1 [],numF (ws.getD 2 []),numF (ws.getD 3 [])⟩
def kindC(ks:List Kind)(ws:List Str):Int :=
 if ws.length=4 then if (Qypu ws).ok=true then if 0≤Qh2z ks (Qypu ws).name then 4 else if 6≤ks.length then 6 else 0 else 3 else 3
def Qbgk(ks:List Kind)(ws:List Str):List Kind:=if kindC ks ws=0 then insK ks (Qypu ws) else ks
def lastP(n:Str):List Point→Nat→Nat→Nat
 | [],_,m=>m
 | p::ps,i,m=>lastP n ps (i+1) (if Q7zj p.name n=true then i+1 else m)
def insP(ps:List Point)(p:Point):List Point:=ps.take (lastP p.name ps 0 0)++p::ps.drop (lastP p.name ps 0 0)
def Qh70(ws:List Str):Point:=⟨ws.getD 1 [],numF (ws.getD 2 []),numF (ws.getD 3 [])⟩
def Qvcq(ps:List Point)(ws:List Str):Int :=
 if ws.length=4 then if (Qh70 ws).ok=true then if 0≤Qigq ps (Qh70 ws).name then 4 else if Q343 ps (Qh70 ws)=true then if 16≤ps.length then 6 else 0 else 5 else 3 else 3
def Q5pt(ps:List Point)(ws:List Str):List Point:=if Qvcq ps ws=0 then insP ps (Qh70 ws) else ps
def setCn(ks:List Kind)(ps:List Point)(es:List Entry)(line:Str):Int :=
 match readF line with
 | none=>3
 | some c=>if (takeF ks ps es c).code=2 then 7 else if (takeF ks ps es c).code=3 then 6 else 0
def setLn(ks:List Kind)(ps:List Point)(es:List Entry)(line:Str):BookR :=
 if setCn ks ps es line=0 then takeF ks ps es (readR line) else ⟨ks,ps,es,0⟩
def lineF(ks:List Kind)(ps:List Point)(es:List Entry)(line:Str):LineR :=
 if ((cutS 32 line).getD 0 []==Qq2m)=true then ⟨Qbgk ks (cutS 32 line),ps,es,kindC ks (cutS 32 line)⟩
 else if ((cutS 32 line).getD 0 []==Qisw)=true then ⟨ks,Q5pt ps (cutS 32 line),es,Qvcq ps (cutS 32 line)⟩
 else if ((cutS 32 line).getD 0 []==wSetL)=true then ⟨(setLn ks ps es line).ks,(setLn ks ps es line).ps,(setLn ks ps es line).es,setCn ks ps es line⟩
 else ⟨ks,ps,es,2⟩
def Q9c0:Ent Ty El:=⟨[.ro],0,fun a h=>match a,h with
 | [.str s],[]=>some (szS s,.sl .str (Qehh s),[])
 | _,_=>none⟩
def Ql1w:Ent Ty El:=⟨[.ro,.ro],0,fun a h=>match a,h with
 | [.agg [.sl .kind ks,.sl .point ps,.sl .entry es],.sl .str ws],[]=>some (decide (ks.length≤1000000),.tup [.agg [.sl .kind (Qbgk ks ws),.sl .point ps,.sl .entry es],.int .i64 (kindC ks ws)],[])
 | _,_=>none⟩
def Qhby:Ent Ty El:=⟨[.ro,.ro],0,fun a h=>match a,h with
 | [.agg [.sl .kind ks,.sl .point ps,.sl .entry es],.sl .str ws],[]=>some (decide (ps.length≤1000000),.tup [.agg [.sl .kind ks,.sl .point (Q5pt ps ws),.sl .entry es],.int .i64 (Qvcq ps ws)],[])
 | _,_=>none⟩
def Qq4o:Ent Ty El:=⟨[.ro,.ro],0,fun a h=>match a,h with
 | [.agg [.sl .kind ks,.sl .point ps,.sl .entry es],.str line],[]=>some (goodB ks ps es&&szS line,.tup [.agg [.sl .kind (setLn ks ps es line).ks,.sl .point (setLn ks ps es line).ps,.sl .entry (setLn ks ps es line).es],.int .i64 (setCn ks ps es line)],[])
 | _,_=>none⟩
def lineK(ks:List Kind)(ps:List Point)(es:List Entry)(line:Str):Bool:=goodB ks ps es&&(szS line&&(decide (ks.length≤1000000)&&decide (ps.length≤1000000)))
def Q7af:Ent Ty El:=⟨[.ro,.ro],0,fun a h=>match a,h with
 | [.agg [.sl .kind ks,.sl .point ps,.sl .entry es],.str line],[]=>some (lineK ks ps es line,.tup [.agg [.sl .kind (lineF ks ps es line).ks,.sl .point (lineF ks ps es line).ps,.sl .entry (lineF ks ps es line).es],.int .i64 (lineF ks ps es line).code],[])
 | _,_=>none⟩
theorem newLg{α:Type}{l:List α}{i:Nat}{f:α}:([]++List.take ((i:Int).toNat-Int.toNat (0:Int)) (List.drop (Int.toNat (0:Int)) l)++[f]++List.take ((l.length:Int).toNat-(i:Int).toNat) (List.drop (i:Int).toNat l))=l.take i++f::l.drop i:=by
 have e:List.take (l.length-i) (l.drop i)=l.drop i:=List.take_of_length_le (Nat.le_of_eq List.length_drop)
 rw[show Int.toNat 0=0 from rfl,Int.toNat_natCast,Int.toNat_natCast,List.drop_zero,Nat.sub_zero,List.nil_append,e,List.append_assoc,List.singleton_append]
theorem Qntr{ks:List Kind}{ws:List Str}(h:kindC ks ws≠0):Qbgk ks ws=ks:=if_neg h
theorem Qfnn{ps:List Point}{ws:List Str}(h:Qvcq ps ws≠0):Q5pt ps ws=ps:=if_neg h
theorem list4{α:Type}{l:List α}(h:l.length=4):∃a b c d,l=[a,b,c,d]:=by
 match l,h with
 | [a,b,c,d],_=>exact⟨a,b,c,d,rfl⟩
theorem Qwje{s:Str}(h:szS s=true):szV (readR s).value=true:=by
 have hs:=of_decide_eq_true (show decide (s.length≤1000000000)=true from h)
 unfold readR readF
 split
 ·refine decide_eq_true ?_
  show(List.drop _ s).length≤1000000000
  rw[List.length_drop];omega
 ·rfl
end Lx
namespace Lx
open Go Go.Proofs
noncomputable def Qvke:RE Ty El:=⟨Tryz.prog,CP,[(Q001,Qi2p)],Tryz.f162,0,[],[]⟩
theorem Q8e6:REOK Qvke Q0il:=⟨CP_ok,(TabOK.cons Ql4s Qye1),by kernel_rfl,by kernel_rfl⟩
theorem Qw8f(s:Str):aRun Qvke 600 false (body0 Qvke.fn) (Q4gm Qvke.fn [.str s] []) =
 let z1:=(cutS (10:Int) s);let z0:=(↑z1.length:Int);let z2:=(IntKind.i64.wrap (z0-1));ifb (decide (List.length s≤(1000000000:Nat))) (ifb (inb z2 z1.length) (ifb (z1.getD z2.toNat (Qvke.C.dflt Ty.str)==#[].toList) (ifb (decide ((0:Int)≤(0:Int))&&(decide (0≤IntKind.i64.wrap (z0-1))&&decide (IntKind.i64.wrap (z0-1)≤z0))) (some (.ret (.sl .str (List.take (z2.toNat-Int.toNat (0:Int)) (List.drop (Int.toNat (0:Int)) z1))) [])) none) (some (.ret (.sl .str z1) []))) none) none:=by kernel_rfl
theorem Qlzv(s:Str)(hg:szS s=true):Qewq Tryz.prog CP Q0il [.str s] [] (.sl .str (Qehh s)) []:=by
 refine Qewq.of Q8e6 (by kernel_rfl) (Qw8f s) ?_
 conv=>zeta
 have hs:=of_decide_eq_true (show decide (s.length≤1000000000)=true from hg)
 have hl:=Qtox 10 s
 have hp:=List.length_pos_iff.2 (Qk4w 10 s)
 rw[decide_eq_true hs,Qehh]
 generalize cutS 10 s=l at hl hp ⊢
 have hw:IntKind.wrap .i64 ((l.length:Int)-1)=((l.length-1:Nat):Int):=by rw[Qbrg]<;>omega
 rw[hw]
 simp only[Qd8q,Int.toNat_natCast]
 refine Sat.nd (by simp only[inb,qaT,qdT];omega) ?_
 rw[show(l.getD (l.length-1) (Qvke.C.dflt Ty.str)==#[].toList)=(l.getD (l.length-1) []==[]) from rfl]
 cases h:(l.getD (l.length-1) []==[]) with
 | true =>
  simp only[Qd8q,if_true]
  refine Sat.nd (by simp only[qaT,qdT];omega) (Sat.ret ?_ rfl)
  rw[show Int.toNat 0=0 from rfl,List.drop_zero,Nat.sub_zero]
 | false=>exact Sat.ret rfl rfl
theorem Q9n7:EntOK Tryz.prog CP Q0il Q9c0:=by
 refine⟨eob (by kernel_rfl),fun _ _ _ _ h=>?_⟩
 simp only[Q9c0]at h
 split at h
 ·obtain⟨hg,rfl,rfl⟩:=eoh h
  exact Qlzv _ hg
 ·cases h

noncomputable def Qkwf:RE Ty El:=⟨Tryz.prog,CP,[(Qqw4,Qmli),(Qycj,Qaw0),(Q780,Qqer)],Tryz.f224,0,[.agg [.ro .kind,.ro .point,.ro .entry],.any],[(11,[(2,.any),(4,.any),(6,.any),(7,.any)])]⟩
theorem Q4ui:REOK Qkwf Qav7:=⟨CP_ok,(TabOK.cons Qlxw (TabOK.cons Qnkx (TabOK.cons Qlgy Qye1))),by kernel_rfl,by kernel_rfl⟩
theorem Qdkb(ks:List Kind)(ps:List Point)(es:List Entry)(ws:List Str):aRun Qkwf 600 false (body0 Qkwf.fn) (Q4gm Qkwf.fn [.agg [.sl .kind ks,.sl .point ps,.sl .entry es],.sl .str ws] []) =
 let z0:=(Qkwf.C.dflt Ty.str);let z1:OL:=(some (.ret (.tup [.agg [.sl .kind ks,.sl .point ps,.sl .entry es],.int .i64 3]) []));let z2:=(numF (ws.getD (Int.toNat (2:Int)) z0));let z3:=(numF (ws.getD (Int.toNat (3:Int)) z0));let z4:=(Int.toNat (1:Int));ifb ((↑ws.length:Int) !=(4:Int)) z1 (ifb (inb (1:Int) ws.length) (ifb (inb (2:Int) ws.length) (ifb (inb (3:Int) ws.length) (ifb (!(Kind.mk (ws.getD z4 z0) z2 z3).ok) z1 (ifb (decide (ks.length<(1000000000:Nat))) (ifb (decide (idxF (fun p=>p.name==ws.getD z4 z0) ks≥0)) (some (.ret (.tup [.agg [.sl .kind ks,.sl .point ps,.sl .entry es],.int .i64 4]) [])) (ifb (decide ((↑ks.length:Int)≥(6:Int))) (some (.ret (.tup [.agg [.sl .kind ks,.sl .point ps,.sl .entry es],.int .i64 6]) [])) (some (.go (Qu6t Qkwf.fn 11) [.ptr 0 0,.ptr 1 0,.ptr 2 0,.int .i64 0] [.box [.sl .kind ks,.sl .point ps,.sl .entry es],.box [.nils,.nils,.nils],.box [.str (ws.getD z4 z0),.int .i64 z2,.int .i64 z3]])))) none)) none) none) none):=by kernel_rfl
theorem Qsex(x0:Int)(x1:List (El .kind))(x2:List (El .point))(x3:List (El .entry))(x4:Str)(x5:Int)(x6:Int):aRun Qkwf 600 true (Qu6t Qkwf.fn 11) (cutSt Qkwf.fn (Q1m4 Qkwf (Qu6t Qkwf.fn 11)) [.ptr 0 0,.ptr 1 0,.ptr 2 0,.int .i64 x0] [.box [.sl .kind x1,.sl .point x2,.sl .entry x3],.box [.nils,.nils,.nils],.box [.str x4,.int .i64 x5,.int .i64 x6]]) =
 let z3:=(↑x1.length:Int);let z4:=(List.drop (Int.toNat (0:Int)) x1);let z5:=(x0.toNat-Int.toNat (0:Int));let z1:OL:=(some (.ret (.tup [.agg [.sl .kind ([]++List.take z5 z4++[Kind.mk x4 x5 x6]++List.take (z3.toNat-x0.toNat) (List.drop x0.toNat x1)),.sl .point x2,.sl .entry x3],.int .i64 0]) []));let z6:=(140737488355328:Nat);let z0:=(decide ((([]++List.take z5 z4++[Kind.mk x4 x5 x6]).length+(List.take (z3.toNat-x0.toNat) (List.drop x0.toNat x1)).length)*Qbhn Qkwf.P (40:Nat)≤z6));let z2:=(ifb (decide ((0:Int)≤(0:Int))&&(decide (0≤x0)&&decide (x0≤z3))) (ifb (decide (((0:Nat)+(List.take z5 z4).length)*Qbhn Qkwf.P (40:Nat)≤z6)) (ifb (decide ((([]++List.take z5 z4).length+[Kind.mk x4 x5 x6].length)*Qbhn Qkwf.P (40:Nat)≤z6)) (ifb (decide (0≤x0)&&(decide (x0≤z3)&&decide (z3≤z3))) (ifb z0 z1 none) none) none) none) none);ifb (decide (x0<z3)) (ifb (inb x0 x1.length) (ifb (Q7zj (x1.getD x0.toNat (Qkwf.C.dflt Ty.kind)).name x4) (some (.go (Qu6t Qkwf.fn 11) [.ptr 0 0,.ptr 1 0,.ptr 2 0,.int .i64 (IntKind.i64.wrap (x0+1))] [.box [.sl .kind x1,.sl .point x2,.sl .entry x3],.box [.nils,.nils,.nils],.box [.str x4,.int .i64 x5,.int .i64 x6]])) z2) none) z2:=by kernel_rfl
theorem Qcci(ks:List Kind)(ps:List Point)(es:List Entry)(k:Kind)(h0:ks.length≤1000000):∀(d i:Nat),i+d=ks.length→posK ks k.name=i+((ks.drop i).takeWhile fun x=>Q7zj x.name k.name).length →
  Cut Qkwf Qav7 11 [.ptr 0 0,.ptr 1 0,.ptr 2 0,.int .i64 (i:Int)] [.box [.sl .kind ks,.sl .point ps,.sl .entry es],.box [.nils,.nils,.nils],.box [.str k.name,.int .i64 k.quick,.int .i64 k.slow]] (.tup [.agg [.sl .kind (insK ks k),.sl .point ps,.sl .entry es],.int .i64 (0:Int)]) []:=by
 have hbb:Qbhn Qkwf.P 40≤256:=of_decide_eq_true (by kernel_rfl)
 intro d
 induction d with
 | zero =>
  intro i hi hp
  refine Cut.of Q4ui rfl (Qsex i ks ps es k.name k.quick k.slow) ?_
  conv=>zeta
  rw[List.drop_of_length_le (by omega)]at hp
  have hp':posK ks k.name=i:=by simpa using hp
  rw[show decide ((i:Int)<(ks.length:Int))=false from decide_eq_false (by omega),Qk7y]
  refine Sat.nd (by simp only[qaT,qdT];omega) (Sat.nd (Q1mk hbb (by simp;omega)) (Sat.nd (Q1mk hbb (by simp;omega)) (Sat.nd (by simp only[qaT,qdT];omega) (Sat.nd (Q1mk hbb (by simp;omega)) (Sat.ret ?_ rfl)))))
  rw[newLg,insK,hp']
 | succ d ih =>
  intro i hi hp
  refine Cut.of Q4ui rfl (Qsex i ks ps es k.name k.quick k.slow) ?_
  conv=>zeta
  have hlt:i<ks.length:=by omega
  have hw:IntKind.wrap .i64 ((i:Int)+1)=((i+1:Nat):Int):=by rw[Qbrg]<;>omega
  have hd:ks.drop i=ks[i]::ks.drop (i+1):=qdC hlt
  have hx:ks.getD (i:Int).toNat (Qkwf.C.dflt .kind)=ks[i]:=by simp[hlt]
  have hin:inb (i:Int) ks.length=true:=by simp only[inb,qaT,qdT];omega
  have hlo:decide ((i:Int)<(ks.length:Int))=true:=decide_eq_true (by omega)
  rw[hlo,hx,hw]
  simp only[Qd8q]
  refine Sat.nd hin ?_
  rw[hd,List.takeWhile_cons]at hp
  cases hb:Q7zj ks[i].name k.name with
  | true =>
   rw[hb,if_pos rfl,List.length_cons]at hp
   exact Sat.cut (ih (i+1) (by omega) (by omega))
  | false =>
  rw[hb,if_neg (by simp)]at hp
  have hp':posK ks k.name=i:=by simpa using hp
  simp only[Qk7y]
  refine Sat.nd (by simp only[qaT,qdT];omega) (Sat.nd (Q1mk hbb (by simp;omega)) (Sat.nd (Q1mk hbb (by simp;omega)) (Sat.nd (by simp only[qaT,qdT];omega) (Sat.nd (Q1mk hbb (by simp;omega)) (Sat.ret ?_ rfl)))))
  rw[newLg,insK,hp']

theorem Qcmj(ks:List Kind)(ps:List Point)(es:List Entry)(ws:List Str)(hg:decide (ks.length≤1000000)=true):Qewq Tryz.prog CP Qav7 [.agg [.sl .kind ks,.sl .point ps,.sl .entry es],.sl .str ws] [] (.tup [.agg [.sl .kind (Qbgk ks ws),.sl .point ps,.sl .entry es],.int .i64 (kindC ks ws)]) []:=by
 refine Qewq.of Q4ui (by kernel_rfl) (Qdkb ks ps es ws) ?_
 conv=>zeta
 have h0:=of_decide_eq_true (show decide (ks.length≤1000000)=true from hg)
 by_cases h4:ws.length=4
 ·obtain⟨a,b,c,d,rfl⟩:=list4 h4
  have hl:=Qcci ks ps es (Qypu [a,b,c,d]) h0 ks.length 0 (by omega) (by simp[posK])
  have e0:∀x:Int,((if (Qypu [a,b,c,d]).ok=true then if 0≤Qh2z ks (Qypu [a,b,c,d]).name then 4 else if 6≤ks.length then 6 else 0 else 3:Int)=x)→kindC ks [a,b,c,d]=x:=fun x h=>by rw[kindC,if_pos h4];exact h
  simp only[show((([a,b,c,d].length:Nat):Int) !=4)=false from rfl,show inb (1:Int) [a,b,c,d].length=true from rfl,show inb (2:Int) [a,b,c,d].length=true from rfl,show inb (3:Int) [a,b,c,d].length=true from rfl,Qd8q,Qk7y]
  rw[show(Kind.mk ([a,b,c,d].getD (Int.toNat 1) (Qkwf.C.dflt .str)) (numF ([a,b,c,d].getD (Int.toNat 2) (Qkwf.C.dflt .str))) (numF ([a,b,c,d].getD (Int.toNat 3) (Qkwf.C.dflt .str))))=Qypu [a,b,c,d] from rfl]
  cases hk:(Qypu [a,b,c,d]).ok with
  | false =>
   have e:=e0 3 (by rw[hk];rfl)
   rw[Qntr (by rw[e];decide),e]
   exact Sat.ret rfl rfl
  | true =>
  rw[hk,if_pos rfl]at e0
  simp only[Bool.not_true,Qk7y]
  refine Sat.nd (decide_eq_true (by omega)) ?_
  rw[show idxF (fun p:Kind=>p.name==[a,b,c,d].getD (Int.toNat 1) (Qkwf.C.dflt .str)) ks=Qh2z ks (Qypu [a,b,c,d]).name from rfl]
  by_cases h5:0≤Qh2z ks (Qypu [a,b,c,d]).name
  ·have e:=e0 4 (if_pos h5)
   rw[Qntr (by rw[e];decide),e,decide_eq_true (show Qh2z ks (Qypu [a,b,c,d]).name≥0 from h5)]
   exact Sat.ret rfl rfl
  ·rw[if_neg h5]at e0
   rw[decide_eq_false (show ¬Qh2z ks (Qypu [a,b,c,d]).name≥0 from h5),Qk7y]
   by_cases h6:6≤ks.length
   ·have e:=e0 6 (if_pos h6)
    rw[Qntr (by rw[e];decide),e,decide_eq_true (show(ks.length:Int)≥6 by omega)]
    exact Sat.ret rfl rfl
   ·have e:=e0 0 (if_neg h6)
    rw[Qbgk,e,if_pos rfl,decide_eq_false (show ¬(ks.length:Int)≥6 by omega),Qk7y]
    exact Sat.cut hl
 ·have e:kindC ks ws=3:=if_neg h4
  rw[Qntr (by rw[e];decide),e,show((ws.length:Int) !=4)=true by simp only[bne_iff_ne,ne_eq];omega]
  exact Sat.ret rfl rfl
theorem Qtgs:EntOK Tryz.prog CP Qav7 Ql1w:=by
 refine⟨eob (by kernel_rfl),fun _ _ _ _ h=>?_⟩
 simp only[Ql1w]at h
 split at h
 ·obtain⟨hg,rfl,rfl⟩:=eoh h
  exact Qcmj _ _ _ _ hg
 ·cases h

noncomputable def Qqu1:RE Ty El:=⟨Tryz.prog,CP,[(Qqw4,Qmli),(Qwjz,Q2zc),(Qne3,Q41f)],Tryz.f225,0,[.agg [.ro .kind,.ro .point,.ro .entry],.any],[(10,[(2,.any),(4,.any),(6,.any),(7,.any),(8,.any)])]⟩
theorem Qf08:REOK Qqu1 Qlpv:=⟨CP_ok,(TabOK.cons Qlxw (TabOK.cons Ql10 (TabOK.cons Qcao Qye1))),by kernel_rfl,by kernel_rfl⟩
theorem Q0k8(ks:List Kind)(ps:List Point)(es:List Entry)(ws:List Str):aRun Qqu1 600 false (body0 Qqu1.fn) (Q4gm Qqu1.fn [.agg [.sl .kind ks,.sl .point ps,.sl .entry es],.sl .str ws] []) =
 let z0:=(Qqu1.C.dflt Ty.str);let z1:OL:=(some (.ret (.tup [.agg [.sl .kind ks,.sl .point ps,.sl .entry es],.int .i64 3]) []));let z2:=(numF (ws.getD (Int.toNat (2:Int)) z0));let z3:=(numF (ws.getD (Int.toNat (3:Int)) z0));let z4:=(Int.toNat (1:Int));ifb ((↑ws.length:Int) !=(4:Int)) z1 (ifb (inb (1:Int) ws.length) (ifb (inb (2:Int) ws.length) (ifb (inb (3:Int) ws.length) (ifb (!(Point.mk (ws.getD z4 z0) z2 z3).ok) z1 (ifb (decide (ps.length<(1000000000:Nat))) (ifb (decide (idxF (fun p=>p.name==ws.getD z4 z0) ps≥0)) (some (.ret (.tup [.agg [.sl .kind ks,.sl .point ps,.sl .entry es],.int .i64 4]) [])) (some (.go (Qu6t Qqu1.fn 10) [.ptr 0 0,.ptr 1 0,.ptr 2 0,.int .i64 0,.int .i64 0] [.box [.sl .kind ks,.sl .point ps,.sl .entry es],.box [.nils,.nils,.nils],.box [.str (ws.getD z4 z0),.int .i64 z2,.int .i64 z3]]))) none)) none) none) none):=by kernel_rfl
theorem Q0gr(x0:Int)(x1:Int)(x2:List (El .kind))(x3:List (El .point))(x4:List (El .entry))(x5:Str)(x6:Int)(x7:Int):aRun Qqu1 600 true (Qu6t Qqu1.fn 10) (cutSt Qqu1.fn (Q1m4 Qqu1 (Qu6t Qqu1.fn 10)) [.ptr 0 0,.ptr 1 0,.ptr 2 0,.int .i64 x0,.int .i64 x1] [.box [.sl .kind x2,.sl .point x3,.sl .entry x4],.box [.nils,.nils,.nils],.box [.str x5,.int .i64 x6,.int .i64 x7]]) =
 let z0:HL:=[.box [.sl .kind x2,.sl .point x3,.sl .entry x4],.box [.nils,.nils,.nils],.box [.str x5,.int .i64 x6,.int .i64 x7]];let z2:=(x3.getD x1.toNat (Qqu1.C.dflt Ty.point));let z4:=(↑x3.length:Int);let z5:=(List.drop (Int.toNat (0:Int)) x3);let z6:=(x0.toNat-Int.toNat (0:Int));let z8:=(IntKind.i64.wrap (x1+1));let z9:=(140737488355328:Nat);let z10:=(inb x1 x3.length);let z11:=(Qu6t Qqu1.fn 10);let z1:OL:=(some (.go z11 [.ptr 0 0,.ptr 1 0,.ptr 2 0,.int .i64 z8,.int .i64 z8] z0));let z3:OL:=(some (.go z11 [.ptr 0 0,.ptr 1 0,.ptr 2 0,.int .i64 x0,.int .i64 z8] z0));let z7:=(ifb z10 (ifb (Q7zj z2.name x5) z1 z3) none);ifb (decide (x1<z4)) (ifb z10 (ifb (z2.x==x6) (ifb z10 (ifb (z2.y==x7) (some (.ret (.tup [.agg [.sl .kind x2,.sl .point x3,.sl .entry x4],.int .i64 5]) [])) z7) none) z7) none) (ifb (decide (z4≥(16:Int))) (some (.ret (.tup [.agg [.sl .kind x2,.sl .point x3,.sl .entry x4],.int .i64 6]) [])) (ifb (decide ((0:Int)≤(0:Int))&&(decide (0≤x0)&&decide (x0≤z4))) (ifb (decide (((0:Nat)+(List.take z6 z5).length)*Qbhn Qqu1.P (160:Nat)≤z9)) (ifb (decide ((([]++List.take z6 z5).length+[Point.mk x5 x6 x7].length)*Qbhn Qqu1.P (160:Nat)≤z9)) (ifb (decide (0≤x0)&&(decide (x0≤z4)&&decide (z4≤z4))) (ifb (decide ((([]++List.take z6 z5++[Point.mk x5 x6 x7]).length+(List.take (z4.toNat-x0.toNat) (List.drop x0.toNat x3)).length)*Qbhn Qqu1.P (160:Nat)≤z9)) (some (.ret (.tup [.agg [.sl .kind x2,.sl .point ([]++List.take z6 z5++[Point.mk x5 x6 x7]++List.take (z4.toNat-x0.toNat) (List.drop x0.toNat x3)),.sl .entry x4],.int .i64 0]) [])) none) none) none) none) none)):=by kernel_rfl
theorem Qw6z(ks:List Kind)(ps:List Point)(es:List Entry)(k:Point)(h0:ps.length≤1000000):∀(d i m:Nat),i+d=ps.length→m≤i→lastP k.name ps 0 0=lastP k.name (ps.drop i) i m→Q343 ps k=Q343 (ps.drop i) k →
  Cut Qqu1 Qlpv 10 [.ptr 0 0,.ptr 1 0,.ptr 2 0,.int .i64 (m:Int),.int .i64 (i:Int)] [.box [.sl .kind ks,.sl .point ps,.sl .entry es],.box [.nils,.nils,.nils],.box [.str k.name,.int .i64 k.x,.int .i64 k.y]] (.tup [.agg [.sl .kind ks,.sl .point (if (if Q343 ps k=true then if 16≤ps.length then 6 else 0 else 5:Int)=0 then insP ps k else ps),.sl .entry es],.int .i64 (if Q343 ps k=true then if 16≤ps.length then 6 else 0 else 5:Int)]) []:=by
 have hbb:Qbhn Qqu1.P 160≤256:=of_decide_eq_true (by kernel_rfl)
 intro d
 induction d with
 | zero =>
  intro i m hi hm hp hf
  refine Cut.of Qf08 rfl (Q0gr m i ks ps es k.name k.x k.y) ?_
  conv=>zeta
  rw[List.drop_of_length_le (by omega)]at hp hf
  have hp':lastP k.name ps 0 0=m:=hp
  rw[show decide ((i:Int)<(ps.length:Int))=false from decide_eq_false (by omega),Qk7y,if_pos (show Q343 ps k=true from hf)]
  by_cases h6:16≤ps.length
  ·rw[decide_eq_true (show(ps.length:Int)≥16 by omega),if_pos h6]
   exact Sat.ret rfl rfl
  rw[decide_eq_false (show ¬(ps.length:Int)≥16 by omega),if_neg h6,if_pos rfl,Qk7y]
  refine Sat.nd (by simp only[qaT,qdT];omega) (Sat.nd (Q1mk hbb (by simp;omega)) (Sat.nd (Q1mk hbb (by simp;omega)) (Sat.nd (by simp only[qaT,qdT];omega) (Sat.nd (Q1mk hbb (by simp;omega)) (Sat.ret ?_ rfl)))))
  rw[newLg,insP,hp']
 | succ d ih =>
  intro i m hi hm hp hf
  refine Cut.of Qf08 rfl (Q0gr m i ks ps es k.name k.x k.y) ?_
  conv=>zeta
  have hlt:i<ps.length:=by omega
  have hw:IntKind.wrap .i64 ((i:Int)+1)=((i+1:Nat):Int):=by rw[Qbrg]<;>omega
  have hd:ps.drop i=ps[i]::ps.drop (i+1):=qdC hlt
  have hx:ps.getD (i:Int).toNat (Qqu1.C.dflt .point)=ps[i]:=by simp[hlt]
  have hin:inb (i:Int) ps.length=true:=by simp only[inb,qaT,qdT];omega
  have hlo:decide ((i:Int)<(ps.length:Int))=true:=decide_eq_true (by omega)
  rw[hlo,hx,hw,hin]
  simp only[Qd8q]
  rw[hd]at hp hf
  rw[show Q343 (ps[i]::ps.drop (i+1)) k=(!(ps[i].x==k.x&&ps[i].y==k.y)&&Q343 (ps.drop (i+1)) k) from rfl]at hf
  rw[show lastP k.name (ps[i]::ps.drop (i+1)) i m=lastP k.name (ps.drop (i+1)) (i+1) (if Q7zj ps[i].name k.name=true then i+1 else m) from rfl]at hp
  have nx:Q343 ps k=Q343 (ps.drop (i+1)) k→Sat Qqu1 Qlpv (.tup [.agg [.sl .kind ks,.sl .point (if (if Q343 ps k=true then if 16≤ps.length then 6 else 0 else 5:Int)=0 then insP ps k else ps),.sl .entry es],.int .i64 (if Q343 ps k=true then if 16≤ps.length then 6 else 0 else 5:Int)]) [] (ifb (Q7zj ps[i].name k.name) (some (.go (Qu6t Qqu1.fn 10) [.ptr 0 0,.ptr 1 0,.ptr 2 0,.int .i64 ((i+1:Nat):Int),.int .i64 ((i+1:Nat):Int)] [.box [.sl .kind ks,.sl .point ps,.sl .entry es],.box [.nils,.nils,.nils],.box [.str k.name,.int .i64 k.x,.int .i64 k.y]])) (some (.go (Qu6t Qqu1.fn 10) [.ptr 0 0,.ptr 1 0,.ptr 2 0,.int .i64 (m:Int),.int .i64 ((i+1:Nat):Int)] [.box [.sl .kind ks,.sl .point ps,.sl .entry es],.box [.nils,.nils,.nils],.box [.str k.name,.int .i64 k.x,.int .i64 k.y]]))):=fun hf'=>by
   cases hb:Q7zj ps[i].name k.name with
   | true=>rw[hb,if_pos rfl]at hp;exact Sat.cut (ih (i+1) (i+1) (by omega) (by omega) hp hf')
   | false=>rw[hb,if_neg (by simp)]at hp;exact Sat.cut (ih (i+1) m (by omega) (by omega) hp hf')
  cases hx1:(ps[i].x==k.x) with
  | true =>
   cases hy1:(ps[i].y==k.y) with
   | true =>
    rw[hx1,hy1]at hf
    have e5:(if Q343 ps k=true then if 16≤ps.length then 6 else 0 else 5:Int)=5:=if_neg (by rw[hf];simp)
    rw[e5,if_neg (by decide)]
    exact Sat.ret rfl rfl
   | false=>rw[hx1,hy1]at hf;exact nx (by simpa using hf)
  | false=>rw[hx1]at hf;exact nx (by simpa using hf)
theorem Qogo(ks:List Kind)(ps:List Point)(es:List Entry)(ws:List Str)(hg:decide (ps.length≤1000000)=true):Qewq Tryz.prog CP Qlpv [.agg [.sl .kind ks,.sl .point ps,.sl .entry es],.sl .str ws] [] (.tup [.agg [.sl .kind ks,.sl .point (Q5pt ps ws),.sl .entry es],.int .i64 (Qvcq ps ws)]) []:=by
 refine Qewq.of Qf08 (by kernel_rfl) (Q0k8 ks ps es ws) ?_
 conv=>zeta
 have h0:=of_decide_eq_true (show decide (ps.length≤1000000)=true from hg)
 by_cases h4:ws.length=4
 ·obtain⟨a,b,c,d,rfl⟩:=list4 h4
  have hl:=Qw6z ks ps es (Qh70 [a,b,c,d]) h0 ps.length 0 0 (by omega) (by omega) rfl rfl
  have e0:∀x:Int,((if (Qh70 [a,b,c,d]).ok=true then if 0≤Qigq ps (Qh70 [a,b,c,d]).name then 4 else if Q343 ps (Qh70 [a,b,c,d])=true then if 16≤ps.length then 6 else 0 else 5 else 3:Int)=x)→Qvcq ps [a,b,c,d]=x:=fun x h=>by rw[Qvcq,if_pos h4];exact h
  simp only[show((([a,b,c,d].length:Nat):Int) !=4)=false from rfl,show inb (1:Int) [a,b,c,d].length=true from rfl,show inb (2:Int) [a,b,c,d].length=true from rfl,show inb (3:Int) [a,b,c,d].length=true from rfl,Qd8q,Qk7y]
  rw[show(Point.mk ([a,b,c,d].getD (Int.toNat 1) (Qqu1.C.dflt .str)) (numF ([a,b,c,d].getD (Int.toNat 2) (Qqu1.C.dflt .str))) (numF ([a,b,c,d].getD (Int.toNat 3) (Qqu1.C.dflt .str))))=Qh70 [a,b,c,d] from rfl]
  cases hk:(Qh70 [a,b,c,d]).ok with
  | false =>
   have e:=e0 3 (by rw[hk];rfl)
   rw[Qfnn (by rw[e];decide),e]
   exact Sat.ret rfl rfl
  | true =>
  rw[hk,if_pos rfl]at e0
  simp only[Bool.not_true,Qk7y]
  refine Sat.nd (decide_eq_true (by omega)) ?_
  rw[show idxF (fun p:Point=>p.name==[a,b,c,d].getD (Int.toNat 1) (Qqu1.C.dflt .str)) ps=Qigq ps (Qh70 [a,b,c,d]).name from rfl]
  by_cases h5:0≤Qigq ps (Qh70 [a,b,c,d]).name
  ·have e:=e0 4 (if_pos h5)
   rw[Qfnn (by rw[e];decide),e,decide_eq_true (show Qigq ps (Qh70 [a,b,c,d]).name≥0 from h5)]
   exact Sat.ret rfl rfl
  ·rw[if_neg h5]at e0
   rw[decide_eq_false (show ¬Qigq ps (Qh70 [a,b,c,d]).name≥0 from h5),Qk7y]
   have e:=e0 _ rfl
   rw[Q5pt,e]
   exact Sat.cut hl
 ·have e:Qvcq ps ws=3:=if_neg h4
  rw[Qfnn (by rw[e];decide),e,show((ws.length:Int) !=4)=true by simp only[bne_iff_ne,ne_eq];omega]
  exact Sat.ret rfl rfl
theorem Q6b6:EntOK Tryz.prog CP Qlpv Qhby:=by
 refine⟨eob (by kernel_rfl),fun _ _ _ _ h=>?_⟩
 simp only[Qhby]at h
 split at h
 ·obtain⟨hg,rfl,rfl⟩:=eoh h
  exact Qogo _ _ _ _ hg
 ·cases h

noncomputable def Qeku:RE Ty El:=⟨Tryz.prog,CP,[(Qs3r,Q01i),(Qbeb,Q8t5)],Tryz.f226,0,[.agg [.ro .kind,.ro .point,.ro .entry],.any],[]⟩
theorem Quhb:REOK Qeku Q08b:=⟨CP_ok,(TabOK.cons Qkik (TabOK.cons Q2a7 Qye1)),by kernel_rfl,by kernel_rfl⟩
theorem Q9t0(ks:List Kind)(ps:List Point)(es:List Entry)(line:Str):aRun Qeku 600 false (body0 Qeku.fn) (Q4gm Qeku.fn [.agg [.sl .kind ks,.sl .point ps,.sl .entry es],.str line] []) =
 let z0:=(takeF ks ps es (readR line));ifb (szS line) (ifb (!(readF line).isSome) (some (.ret (.tup [.agg [.sl .kind ks,.sl .point ps,.sl .entry es],.int .i64 3]) [])) (ifb (goodB ks ps es&&szV (readR line).value) (ifb (z0.code==2) (some (.ret (.tup [.agg [.sl .kind ks,.sl .point ps,.sl .entry es],.int .i64 7]) [])) (ifb (z0.code==3) (some (.ret (.tup [.agg [.sl .kind ks,.sl .point ps,.sl .entry es],.int .i64 6]) [])) (some (.ret (.tup [.agg [.sl .kind (z0.ks),.sl .point (z0.ps),.sl .entry (z0.es)],.int .i64 0]) [])))) none)) none:=by kernel_rfl
theorem Qzoj(ks:List Kind)(ps:List Point)(es:List Entry)(line:Str)(hg:(goodB ks ps es&&szS line)=true):Qewq Tryz.prog CP Q08b [.agg [.sl .kind ks,.sl .point ps,.sl .entry es],.str line] [] (.tup [.agg [.sl .kind (setLn ks ps es line).ks,.sl .point (setLn ks ps es line).ps,.sl .entry (setLn ks ps es line).es],.int .i64 (setCn ks ps es line)]) []:=by
 refine Qewq.of Quhb (by kernel_rfl) (Q9t0 ks ps es line) ?_
 conv=>zeta
 simp only[qaT]at hg
 obtain⟨hb,hs⟩:=hg
 rw[hs,hb]
 simp only[Qd8q]
 cases hr:readF line with
 | none =>
  have e:setCn ks ps es line=3:=by rw[setCn,hr]
  rw[setLn,e,if_neg (by decide)]
  exact Sat.ret rfl rfl
 | some c =>
  have er:readR line=c:=by rw[readR,hr];rfl
  have hv:szV (readR line).value=true:=Qwje hs
  rw[er]at hv ⊢
  have e:setCn ks ps es line=if (takeF ks ps es c).code=2 then 7 else if (takeF ks ps es c).code=3 then 6 else 0:=by rw[setCn,hr]
  rw[hv]
  simp only[Option.isSome_some,Bool.not_true,Bool.and_self,Qd8q,Qk7y]
  by_cases h2:(takeF ks ps es c).code=2
  ·rw[if_pos h2]at e
   rw[setLn,e,if_neg (by decide),show((takeF ks ps es c).code==2)=true from beq_iff_eq.2 h2]
   exact Sat.ret rfl rfl
  ·rw[if_neg h2]at e
   rw[show((takeF ks ps es c).code==2)=false from beq_eq_false_iff_ne.2 h2,Qk7y]
   by_cases h3:(takeF ks ps es c).code=3
   ·rw[if_pos h3]at e
    rw[setLn,e,if_neg (by decide),show((takeF ks ps es c).code==3)=true from beq_iff_eq.2 h3]
    exact Sat.ret rfl rfl
   ·rw[if_neg h3]at e
    rw[setLn,e,if_pos rfl,er,show((takeF ks ps es c).code==3)=false from beq_eq_false_iff_ne.2 h3]
    exact Sat.ret rfl rfl
theorem Qzwi:EntOK Tryz.prog CP Q08b Qq4o:=by
 refine⟨eob (by kernel_rfl),fun _ _ _ _ h=>?_⟩
 simp only[Qq4o]at h
 split at h
 ·obtain⟨hg,rfl,rfl⟩:=eoh h
  exact Qzoj _ _ _ _ hg
 ·cases h

noncomputable def Q0kv:RE Ty El:=⟨Tryz.prog,CP,[(Q001,Qi2p),(Qav7,Ql1w),(Qlpv,Qhby),(Q08b,Qq4o)],Tryz.f163,0,[.agg [.ro .kind,.ro .point,.ro .entry],.any],[]⟩
theorem Q9qw:REOK Q0kv Qgz0:=⟨CP_ok,(TabOK.cons Ql4s (TabOK.cons Qtgs (TabOK.cons Q6b6 (TabOK.cons Qzwi Qye1)))),by kernel_rfl,by kernel_rfl⟩
theorem Qldq(ks:List Kind)(ps:List Point)(es:List Entry)(line:Str):aRun Q0kv 600 false (body0 Q0kv.fn) (Q4gm Q0kv.fn [.agg [.sl .kind ks,.sl .point ps,.sl .entry es],.str line] []) =
 let z0:=(cutS (32:Int) line);let z1:=(Q0kv.C.dflt Ty.str);let z2:=(Int.toNat (0:Int));let z3:=(setLn ks ps es line);ifb (decide (List.length line≤(1000000000:Nat))) (ifb (inb (0:Int) z0.length) (ifb (z0.getD z2 z1==#[(107:UInt8),105,110,100].toList) (ifb (decide (ks.length≤(1000000:Nat))) (some (.ret (.tup [.agg [.sl .kind (Qbgk ks z0),.sl .point ps,.sl .entry es],.int .i64 (kindC ks z0)]) [])) none) (ifb (z0.getD z2 z1==#[(112:UInt8),111,105,110,116].toList) (ifb (decide (ps.length≤(1000000:Nat))) (some (.ret (.tup [.agg [.sl .kind ks,.sl .point (Q5pt ps z0),.sl .entry es],.int .i64 (Qvcq ps z0)]) [])) none) (ifb (z0.getD z2 z1==#[(115:UInt8),101,116].toList) (ifb (goodB ks ps es&&szS line) (some (.ret (.tup [.agg [.sl .kind (z3.ks),.sl .point (z3.ps),.sl .entry (z3.es)],.int .i64 (setCn ks ps es line)]) [])) none) (some (.ret (.tup [.agg [.sl .kind ks,.sl .point ps,.sl .entry es],.int .i64 2]) []))))) none) none:=by kernel_rfl
theorem Qjxt(ks:List Kind)(ps:List Point)(es:List Entry)(line:Str)(hg:lineK ks ps es line=true):Qewq Tryz.prog CP Qgz0 [.agg [.sl .kind ks,.sl .point ps,.sl .entry es],.str line] [] (.tup [.agg [.sl .kind (lineF ks ps es line).ks,.sl .point (lineF ks ps es line).ps,.sl .entry (lineF ks ps es line).es],.int .i64 (lineF ks ps es line).code]) []:=by
 refine Qewq.of Q9qw (by kernel_rfl) (Qldq ks ps es line) ?_
 conv=>zeta
 simp only[lineK,qaT,qdT]at hg
 obtain⟨hb,hs,h1,h2⟩:=hg
 have hp:=List.length_pos_iff.2 (Qk4w 32 line)
 rw[decide_eq_true (show line.length≤1000000000 from of_decide_eq_true hs),hs,hb,decide_eq_true h1,decide_eq_true h2,lineF]
 rw[show(List.getD (cutS 32 line) (Int.toNat 0) (Q0kv.C.dflt Ty.str)==#[(107:UInt8),105,110,100].toList)=((cutS 32 line).getD 0 []==Qq2m) from rfl,show(List.getD (cutS 32 line) (Int.toNat 0) (Q0kv.C.dflt Ty.str)==#[(112:UInt8),111,105,110,116].toList)=((cutS 32 line).getD 0 []==Qisw) from rfl,show(List.getD (cutS 32 line) (Int.toNat 0) (Q0kv.C.dflt Ty.str)==#[(115:UInt8),101,116].toList)=((cutS 32 line).getD 0 []==wSetL) from rfl]
 simp only[Qd8q,Bool.and_self]
 refine Sat.nd (by simp only[inb,qaT,qdT];omega) ?_
 cases k1:((cutS 32 line).getD 0 []==Qq2m) with
 | true=>exact Sat.ret rfl rfl
 | false =>
 cases k2:((cutS 32 line).getD 0 []==Qisw) with
 | true=>exact Sat.ret rfl rfl
 | false =>
 cases k3:((cutS 32 line).getD 0 []==wSetL) with
 | true=>exact Sat.ret rfl rfl
 | false=>exact Sat.ret rfl rfl
theorem Qn4h:EntOK Tryz.prog CP Qgz0 Q7af:=by
 refine⟨eob (by kernel_rfl),fun _ _ _ _ h=>?_⟩
 simp only[Q7af]at h
 split at h
 ·obtain⟨hg,rfl,rfl⟩:=eoh h
  exact Qjxt _ _ _ _ hg
 ·cases h
end Lx
namespace Lx
open Go Go.Proofs
def Qlwf:Option Str→List Str→Bool
 | _,[]=>true
 | q,n::l=>Qe7t q n&&Qlwf (some n) l
def twG{α:Type}(key:α→Str)(n:Str)(l:List α):Nat:=(l.takeWhile fun y=>Q7zj (key y) n).length
def insG{α:Type}(key:α→Str)(l:List α)(x:α):List α:=l.take (twG key (key x) l)++x::l.drop (twG key (key x) l)
theorem Qzu6{α:Type}{key:α→Str}{a x:α}{l:List α}:insG key (a::l) x=if Q7zj (key a) (key x)=true then a::insG key l x else x::a::l:=by
 unfold insG twG
 rw[List.takeWhile_cons]
 split<;>simp
theorem Qcn3{α:Type}{key:α→Str}{x:α}{l:List α}:(insG key l x).Perm (x::l):=by
 unfold insG
 refine List.perm_middle.trans ?_
 rw[List.take_append_drop]
theorem Qdhw{α:Type}{key:α→Str}{x:α}:∀{l:List α} {q:Option Str},Qlwf q (l.map key)=true→Qe7t q (key x)=true→(∀y∈l,key y≠key x)→Qlwf q ((insG key l x).map key)=true
 | [],q,_,h2,_=>by simp[insG,twG,Qlwf,h2]
 | a::l,q,h1,h2,h3=>by
  simp only[List.map_cons,Qlwf,qaT]at h1
  rw[Qzu6]
  split
  ·rename_i h
   simp only[List.map_cons,Qlwf,qaT]
   exact⟨h1.1,Qdhw h1.2 h (fun y hy=>h3 y (List.mem_cons_of_mem _ hy))⟩
  ·rename_i h
   simp only[List.map_cons,Qlwf,qaT]
   refine⟨h2, ?_,h1.2⟩
   show Q7zj (key x) (key a)=true
   cases hb:Q7zj (key x) (key a) with
   | true=>rfl
   | false=>exact absurd (Qj9t _ _ (by simpa using h) hb) (h3 a (List.mem_cons_self ..))
theorem Qlo8:∀(ks:List Kind) (q:Option Str),Qh9e q ks=true↔(∀k∈ks,k.ok=true)∧Qlwf q (ks.map Kind.name)=true
 | [],q=>by simp[Qh9e,Qlwf]
 | k::ks,q=>by
  simp only[Qh9e,Qlwf,List.map_cons,qaT,Qlo8 ks,List.forall_mem_cons]
  constructor
  ·rintro⟨a,b,c,d⟩;exact⟨⟨a,c⟩,b,d⟩
  ·rintro⟨⟨a,c⟩,b,d⟩;exact⟨a,b,c,d⟩
theorem Qdyc{ks:List Kind}{k:Kind}(h:Qh9e none ks=true)(hk:k.ok=true)(hn:∀y∈ks,y.name≠k.name):Qh9e none (insK ks k)=true:=by
 rw[Qlo8]at h ⊢
 refine⟨fun y hy=>?_,Qdhw (key:=Kind.name) h.2 rfl hn⟩
 rcases List.mem_cons.1 ((Qcn3 (key:=Kind.name)).mem_iff.1 (show y∈insG Kind.name ks k from hy))with rfl|h2
 ·exact hk
 ·exact h.1 y h2
def sameP(a b:Point):Prop:=a.x=b.x∧a.y=b.y
theorem Qvmh{seen:List Point}{p:Point}:Q343 seen p=true↔∀q∈seen,¬sameP q p:=by
 simp only[Q343,qlA,Bool.not_eq_true',Bool.and_eq_false_iff,beq_eq_false_iff_ne,sameP]
 constructor
 ·intro h q hq ⟨h1,h2⟩
  rcases h q hq with h3|h3
  ·exact h3 h1
  ·exact h3 h2
 ·intro h q hq
  by_cases h1:q.x=p.x
  ·exact .inr fun h2=>h q hq ⟨h1,h2⟩
  ·exact .inl h1
theorem Qriy:∀(ps seen:List Point) (q:Option Str),Qaym seen q ps=true↔(∀p∈ps,p.ok=true)∧Qlwf q (ps.map Point.name)=true∧ps.Pairwise (fun a b=>¬sameP a b)∧∀p∈ps,∀s∈seen,¬sameP s p
 | [],seen,q=>by simp[Qaym,Qlwf]
 | p::ps,seen,q=>by
  simp only[Qaym,Qlwf,List.map_cons,qaT,Qriy ps,List.forall_mem_cons,List.pairwise_cons,Qvmh]
  constructor
  ·rintro⟨a,b,c,d,e,f,g⟩
   exact⟨⟨a,d⟩,⟨b,e⟩,⟨fun y hy=>g y hy p (by simp),f⟩,c,fun y hy s hs=>g y hy s (List.mem_append_left _ hs)⟩
  ·rintro⟨⟨a,d⟩,⟨b,e⟩,⟨g,f⟩,c,i⟩
   refine⟨a,b,c,d,e,f,fun y hy s hs=>?_⟩
   rcases List.mem_append.1 hs with h|h
   ·exact i y hy s h
   ·rw[List.mem_singleton.1 h];exact g y hy
theorem Q6mk:∀{l:List Str} {q n:Str},Qlwf (some q) l=true→n∈l→Q7zj q n=true
 | a::l,q,n,h,hn=>by
  simp only[Qlwf,qaT]at h
  rcases List.mem_cons.1 hn with rfl|hn
  ·exact h.1
  ·exact lt_trans h.1 (Q6mk h.2 hn)
theorem Qfve(n:Str):∀(ps:List Point) (q:Option Str) (i m:Nat),Qlwf q (ps.map Point.name)=true→lastP n ps i m=if twG Point.name n ps=0 then m else i+twG Point.name n ps
 | [],q,i,m,_=>rfl
 | a::ps,q,i,m,h=>by
  simp only[List.map_cons,Qlwf,qaT]at h
  have ih:=fun i m=>Qfve n ps (some a.name) i m h.2
  rw[lastP,ih]
  unfold twG
  rw[List.takeWhile_cons]
  by_cases hb:Q7zj a.name n=true
  ·rw[if_pos hb,if_pos hb,List.length_cons,if_neg (show ¬((ps.takeWhile fun y:Point=>Q7zj y.name n).length+1=0) by omega)]
   split
   ·rename_i h0;omega
   ·omega
  ·rw[if_neg hb,if_neg hb]
   have h0:(ps.takeWhile fun y=>Q7zj y.name n).length=0:=by
    cases ps with
    | nil=>rfl
    | cons b ps =>
     rw[List.takeWhile_cons,if_neg];rfl
     intro h3
     exact hb (lt_trans (Q6mk h.2 (by simp)) h3)
   rw[if_pos h0];rfl
theorem Qa41{ps:List Point}{p:Point}(h:Qlwf none (ps.map Point.name)=true):insP ps p=insG Point.name ps p:=by
 have e:lastP p.name ps 0 0=twG Point.name p.name ps:=by
  rw[Qfve _ ps none 0 0 h];split<;>omega
 unfold insP insG;rw[e]
theorem Qhnr{ps:List Point}{p:Point}(h:Qaym [] none ps=true)(hp:p.ok=true)(hn:∀y∈ps,y.name≠p.name)(hf:Q343 ps p=true):Qaym [] none (insP ps p)=true:=by
 have h':=h
 rw[Qriy]at h ⊢
 obtain⟨h1,h2,h3,_⟩:=h
 rw[Qa41 h2]
 rw[Qvmh]at hf
 refine⟨fun y hy=>?_,Qdhw h2 rfl hn, ?_,fun _ _ _ hs=>by cases hs⟩
 ·rcases List.mem_cons.1 (Qcn3.mem_iff.1 hy)with rfl|h2
  ·exact hp
  ·exact h1 y h2
 ·refine(Qcn3.pairwise_iff (fun {a b} hs hs2=>hs ⟨hs2.1.symm,hs2.2.symm⟩)).2 ?_
  exact List.pairwise_cons.2 ⟨fun y hy hs=>hf y hy ⟨hs.1.symm,hs.2.symm⟩,h3⟩
theorem Q9yp{α:Type}{p:α→Bool}{l:List α}:0≤idxF p l↔∃x∈l,p x=true:=by
 unfold idxF
 cases h:l.findIdx? p with
 | none =>
  rw[List.findIdx?_eq_none_iff]at h
  constructor
  ·intro h2;exact absurd h2 (by decide)
  ·rintro⟨x,hx,h2⟩;rw[h x hx]at h2;cases h2
 | some i =>
  obtain⟨hi,h2,_⟩:=List.findIdx?_eq_some_iff_getElem.1 h
  exact⟨fun _=>⟨l[i],List.getElem_mem hi,h2⟩,fun _=>Int.natCast_nonneg i⟩
section
variable {ks ks2:List Kind} {ps ps2:List Point}
theorem Qe76(hp:∀n,0≤Qigq ps n→0≤Qigq ps2 n):∀{w:List Str} {q:Option Str},Qyf3 ps q w=true→Qyf3 ps2 q w=true
 | [],_,_=>rfl
 | n::w,q,h=>by
  simp only[Qyf3,qaT,Bool.not_eq_true',decide_eq_false_iff_not]at h ⊢
  exact⟨by have:=hp n (by omega);omega,h.2.1,Qe76 hp h.2.2⟩
theorem Qdim(hk:∀n,0≤Qh2z ks n→0≤Qh2z ks2 n)(hp:∀n,0≤Qigq ps n→0≤Qigq ps2 n){w:Int}{v:Str}(h:fitsV ks ps w v=true):fitsV ks2 ps2 w v=true:=by
 unfold fitsV at h ⊢
 split
 ·rename_i e;rw[if_pos e]at h;exact decide_eq_true (hk v (of_decide_eq_true h))
 ·rename_i e;rw[if_neg e]at h
  split
  ·rename_i e;rw[if_pos e]at h;exact h
  ·rename_i e;rw[if_neg e]at h
   split
   ·rename_i e;rw[if_pos e]at h;exact h
   ·rename_i e;rw[if_neg e]at h
    split
    ·rename_i e;rw[if_pos e]at h
     simp only[Qyhl,qaT]at h ⊢
     exact⟨h.1,Qe76 hp h.2⟩
    ·rename_i e;rw[if_neg e]at h;exact h
theorem Qz22(hk:∀n,0≤Qh2z ks n→0≤Qh2z ks2 n)(hp:∀n,0≤Qigq ps n→0≤Qigq ps2 n){n:Str}:∀{fs:List Fld} {q:Option Int},Qt03 ks ps n q fs=true→Qt03 ks2 ps2 n q fs=true
 | [],_,_=>rfl
 | f::fs,q,h=>by
  simp only[Qt03,Qh2h,qaT]at h ⊢
  exact⟨⟨h.1.1,h.1.2.1,Qdim hk hp h.1.2.2⟩,h.2.1,Qz22 hk hp h.2.2⟩
theorem Q81u(hk:∀n,0≤Qh2z ks n→0≤Qh2z ks2 n)(hp:∀n,0≤Qigq ps n→0≤Qigq ps2 n):∀{es:List Entry} {q:Option Str},Qgea ks ps q es=true→Qgea ks2 ps2 q es=true
 | [],_,_=>rfl
 | e::es,q,h=>by
  simp only[Qgea,Q7i7,qaT]at h ⊢
  exact⟨⟨h.1.1,h.1.2.1,Qz22 hk hp h.1.2.2⟩,h.2.1,Q81u hk hp h.2.2⟩
end
theorem Q58e{ks ks2:List Kind}{ps ps2:List Point}{es:List Entry}(hg:goodE ks ps es=true)(hb:Qib4 ks2 ps2=true)(hk:∀n,0≤Qh2z ks n→0≤Qh2z ks2 n)(hp:∀n,0≤Qigq ps n→0≤Qigq ps2 n):goodE ks2 ps2 es=true:=by
 have hb':=hb
 simp only[Qib4,qaT,qdT]at hb'
 simp only[goodE,goodB,Qn0o,Q8cx,Q6lz,Qjyp,qaT,qdT,and_true]at hg ⊢
 obtain⟨⟨_,g2,g3⟩,g4,_,_,g5⟩:=hg
 exact⟨⟨hb,g2,Q81u hk hp g3⟩,g4,by omega,by omega,g5⟩
theorem Qlnr{α:Type}{l:List α}{n:Nat}{x:α}:(l.take n++x::l.drop n).length=l.length+1:=by
 simp only[List.length_append,List.length_take,List.length_cons,List.length_drop];omega
theorem Qr8g{α:Type}{l:List α}{n:Nat}{x y:α}(h:y∈l):y∈l.take n++x::l.drop n:=by
 rw[←List.take_append_drop n l]at h
 rcases List.mem_append.1 h with h|h
 ·exact List.mem_append_left _ h
 ·exact List.mem_append_right _ (List.mem_cons_of_mem _ h)
theorem Qfim{ks:List Kind}{ws:List Str}(h:kindC ks ws=0):ws.length=4∧(Qypu ws).ok=true∧¬0≤Qh2z ks (Qypu ws).name∧ks.length<6:=by
 unfold kindC at h
 by_cases h1:ws.length=4
 ·rw[if_pos h1]at h
  by_cases h2:(Qypu ws).ok=true
  ·rw[if_pos h2]at h
   by_cases h3:0≤Qh2z ks (Qypu ws).name
   ·rw[if_pos h3]at h;cases h
   ·rw[if_neg h3]at h
    by_cases h4:6≤ks.length
    ·rw[if_pos h4]at h;cases h
    ·exact⟨h1,h2,h3,by omega⟩
  ·rw[if_neg h2]at h;cases h
 ·rw[if_neg h1]at h;cases h
theorem Qltu{ps:List Point}{ws:List Str}(h:Qvcq ps ws=0):ws.length=4∧(Qh70 ws).ok=true∧¬0≤Qigq ps (Qh70 ws).name∧Q343 ps (Qh70 ws)=true∧ps.length<16:=by
 unfold Qvcq at h
 by_cases h1:ws.length=4
 ·rw[if_pos h1]at h
  by_cases h2:(Qh70 ws).ok=true
  ·rw[if_pos h2]at h
   by_cases h3:0≤Qigq ps (Qh70 ws).name
   ·rw[if_pos h3]at h;cases h
   ·rw[if_neg h3]at h
    by_cases h5:Q343 ps (Qh70 ws)=true
    ·rw[if_pos h5]at h
     by_cases h4:16≤ps.length
     ·rw[if_pos h4]at h;cases h
     ·exact⟨h1,h2,h3,h5,by omega⟩
    ·rw[if_neg h5]at h;cases h
  ·rw[if_neg h2]at h;cases h
 ·rw[if_neg h1]at h;cases h
theorem Qbyg{ks:List Kind}{ps:List Point}{es:List Entry}{ws:List Str}(hg:goodE ks ps es=true):goodE (Qbgk ks ws) ps es=true:=by
 unfold Qbgk
 split
 ·rename_i h
  obtain⟨_,hk,hx,h6⟩:=Qfim h
  have hb:=hg
  simp only[goodE,Qn0o,Qib4,qaT,qdT]at hb
  obtain⟨⟨⟨b1,b2,b3,b4⟩,_⟩,_⟩:=hb
  refine Q58e hg ?_ (fun n hn=>?_) (fun n hn=>hn)
  ·simp only[Qib4,qaT,qdT]
   refine⟨by unfold insK;rw[Qlnr];omega,b2,Qdyc b3 hk (fun y hy e=>hx (Q9yp.2 ⟨y,hy,beq_iff_eq.2 e⟩)),b4⟩
  ·obtain⟨y,hy,e⟩:=Q9yp.1 hn
   exact Q9yp.2 ⟨y,Qr8g hy,e⟩
 ·exact hg
theorem Q861{ks:List Kind}{ps:List Point}{es:List Entry}{ws:List Str}(hg:goodE ks ps es=true):goodE ks (Q5pt ps ws) es=true:=by
 unfold Q5pt
 split
 ·rename_i h
  obtain⟨_,hk,hx,hf,h6⟩:=Qltu h
  have hb:=hg
  simp only[goodE,Qn0o,Qib4,qaT,qdT]at hb
  obtain⟨⟨⟨b1,b2,b3,b4⟩,_⟩,_⟩:=hb
  refine Q58e hg ?_ (fun n hn=>hn) (fun n hn=>?_)
  ·simp only[Qib4,qaT,qdT]
   exact⟨b1,by unfold insP;rw[Qlnr];omega,b3,Qhnr b4 hk (fun y hy e=>hx (Q9yp.2 ⟨y,hy,beq_iff_eq.2 e⟩)) hf⟩
  ·obtain⟨y,hy,e⟩:=Q9yp.1 hn
   exact Q9yp.2 ⟨y,Qr8g hy,e⟩
 ·exact hg
theorem Qb2x{ks:List Kind}{ps:List Point}{es:List Entry}{line:Str}(hg:goodE ks ps es=true)(hs:szS line=true):(setLn ks ps es line).ks=ks∧(setLn ks ps es line).ps=ps∧goodE ks ps (setLn ks ps es line).es=true:=by
 unfold setLn
 split
 ·exact Qy7k hg (Qwje hs)
 ·exact⟨rfl,rfl,hg⟩
theorem Qwdt{ks:List Kind}{ps:List Point}{es:List Entry}{line:Str}(hg:goodE ks ps es=true)(hs:szS line=true):goodE (lineF ks ps es line).ks (lineF ks ps es line).ps (lineF ks ps es line).es=true:=by
 unfold lineF
 split
 ·exact Qbyg hg
 ·split
  ·exact Q861 hg
  ·split
   ·obtain⟨a,b,c⟩:=Qb2x hg hs
    simp only[a,b];exact c
   ·exact hg
theorem Qgtn{ks:List Kind}{ps:List Point}{es:List Entry}{line:Str}(hg:goodE ks ps es=true)(hs:szS line=true):lineK ks ps es line=true:=by
 simp only[goodE,Qn0o,Qib4,qaT,qdT]at hg
 obtain⟨⟨⟨b1,b2,_⟩,_⟩,g⟩:=hg
 simp only[lineK,g,hs,Bool.true_and,qaT,qdT]
 omega
structure ParR where
 ks:List Kind
 ps:List Point
 es:List Entry
 line:Int
 code:Int
 deriving Inhabited
def Qqi5(ks:List Kind)(ps:List Point)(es:List Entry):List Str→Nat→ParR
 | [],_=>⟨ks,ps,es,0,0⟩
 | l::ls,i=>if (lineF ks ps es l).code=0 then Qqi5 (lineF ks ps es l).ks (lineF ks ps es l).ps (lineF ks ps es l).es ls (i+1) else ⟨[],[],[],((i+1:Nat):Int),(lineF ks ps es l).code⟩
def Qob6(s:Str):ParR:=if 10000<s.length∨200<(Qehh s).length then ⟨[],[],[],0,1⟩ else Qqi5 [] [] [] (Qehh s) 0
def Qzl2:Ent Ty El:=⟨[.ro],0,fun a h=>match a,h with
 | [.str s],[]=>some (szS s,.tup [.agg [.sl .kind (Qob6 s).ks,.sl .point (Qob6 s).ps,.sl .entry (Qob6 s).es],.agg [.int .i64 (Qob6 s).line,.int .i64 (Qob6 s).code]],[])
 | _,_=>none⟩
def Qm1b:Ent Ty El:=Q9c0
theorem Qhr2{s:Str}(h:szS s=true):∀l∈Qehh s,szS l=true:=fun l hl=>by
 have hs:=of_decide_eq_true (show decide (s.length≤1000000000)=true from h)
 have hm:l∈cutS 10 s:=by
  unfold Qehh at hl
  split at hl
  ·exact List.mem_of_mem_take hl
  ·exact hl
 have:=Qh3y 10 s l hm
 exact decide_eq_true (by omega)
theorem good0:goodE [] [] []=true:=by decide
end Lx
namespace Lx
open Go Go.Proofs
def kindT(k:Kind):Str:=Qq2m++32::(k.name++32::(decS k.quick++32::(decS k.slow++[10])))
def Q0f8(p:Point):Str:=Qisw++32::(p.name++32::(decS p.x++32::(decS p.y++[10])))
def fldT(n:Str)(f:Fld):Str:=formF ⟨n,f.what,f.number,f.value⟩++[10]
def Qbhp(e:Entry):Str:=e.fields.flatMap (fldT e.name)
def Q9kb(ks:List Kind)(ps:List Point)(es:List Entry):Str:=if Qn0o ks ps es=true then ks.flatMap kindT++(ps.flatMap Q0f8++es.flatMap Qbhp) else []
def Qnk5:Ent Ty El:=⟨[.ro],0,fun a h=>match a,h with
 | [.agg [.sl .kind ks,.sl .point ps,.sl .entry es]],[]=>some (szB es,.str (Q9kb ks ps es),[])
 | _,_=>none⟩
def Q55o:Ent Ty El:=Qnk5
theorem Qnab{c:Chg}:(formF c).length≤c.value.length+100:=by
 unfold formF
 split
 ·rename_i h
  simp only[Qenx,Q2rq,inR,qaT,qdT]at h
  obtain⟨⟨_,h1,_⟩,h2,h3,_⟩:=h
  have hd:=Qj32 (n:=c.number) (by simp only[inR,qaT,qdT];omega)
  have hw:=Q9ne c.what
  simp only[formB,wSet,List.length_append,List.length_cons,List.length_nil]
  omega
 ·simp
theorem Q9gv{k:Kind}(h:k.ok=true):k.name.length≤8∧inR k.quick 0 9999999=true∧inR k.slow 0 9999999=true∧(decS k.quick).length≤10∧(decS k.slow).length≤10:=by
 simp only[Kind.ok,Q2rq,qaT,qdT]at h
 obtain⟨⟨_,h1,_⟩,h2,h3,h4⟩:=h
 refine⟨h1, ?_, ?_,Qj32 ?_,Qj32 ?_⟩<;>simp only[inR,qaT,qdT]<;>omega
theorem Qa3t{k:Point}(h:k.ok=true):k.name.length≤8∧inR k.x 0 9999999=true∧inR k.y 0 9999999=true∧(decS k.x).length≤10∧(decS k.y).length≤10:=by
 simp only[Point.ok,Q2rq,inR,qaT,qdT]at h
 obtain⟨⟨_,h1,_⟩,h2,h3⟩:=h
 refine⟨h1, ?_, ?_,Qj32 ?_,Qj32 ?_⟩<;>simp only[inR,qaT,qdT]<;>omega
theorem Qgp5{k:Kind}(h:k.ok=true):(kindT k).length≤100:=by
 obtain⟨a,_,_,b,c⟩:=Q9gv h
 simp only[kindT,Qq2m,List.length_append,List.length_cons,List.length_nil];omega
theorem Qhew{k:Point}(h:k.ok=true):(Q0f8 k).length≤100:=by
 obtain⟨a,_,_,b,c⟩:=Qa3t h
 simp only[Q0f8,Qisw,List.length_append,List.length_cons,List.length_nil];omega
theorem Qpgn{n:Str}{f:Fld}(h:szV f.value=true):(fldT n f).length≤1500000000:=by
 have:=of_decide_eq_true (show decide (f.value.length≤1000000000)=true from h)
 have h2:=Qnab (c:=⟨n,f.what,f.number,f.value⟩)
 simp only[fldT,List.length_append,List.length_cons,List.length_nil]
 have h3:(Chg.mk n f.what f.number f.value).value.length=f.value.length:=rfl
 omega
end Lx
namespace Lx
open Go Go.Proofs
def noC(c:Int)(a:Str):Bool:=a.all fun b=>!((b.toNat:Int)==c)
theorem Qblf(c:UInt8):∀{a s:Str},noC (c.toNat:Int) a=true→cutS (c.toNat:Int) (a++c::s)=a::cutS (c.toNat:Int) s
 | [],s,_=>by rw[List.nil_append,cutS,if_pos (by simp)]
 | b::a,s,h=>by
  simp only[noC,List.all_cons,qaT,Bool.not_eq_true']at h
  have ih:=Qblf c (a:=a) (s:=s) (by simpa[noC]using h.2)
  rw[List.cons_append,cutS,if_neg (by rw[h.1];simp),ih]
theorem Q6dw(c:UInt8):∀{ls:List Str},(∀l∈ls,noC (c.toNat:Int) l=true)→cutS (c.toNat:Int) (ls.flatMap fun l=>l++[c])=ls++[[]]
 | [],_=>rfl
 | l::ls,h=>by
  have ih:=Q6dw c (ls:=ls) (fun x hx=>h x (List.mem_cons_of_mem _ hx))
  rw[List.flatMap_cons,List.append_assoc,List.singleton_append,Qblf c (h l (List.mem_cons_self ..)),ih];rfl
theorem Qmnp{ls:List Str}(h:∀l∈ls,noC 10 l=true):Qehh (ls.flatMap fun l=>l++[10])=ls:=by
 have e:cutS 10 (ls.flatMap fun l=>l++[(10:UInt8)])=ls++[[]]:=Q6dw (10:UInt8) h
 rw[Qehh,e]
 have hl:(ls++[([]:Str)]).length-1=ls.length:=by simp
 rw[hl,show(ls++[([]:Str)]).getD ls.length []=[] by simp[qgD],if_pos (show(([]:Str)==[])=true from rfl),List.take_left']
 rfl
def kindW(k:Kind):Str:=Qq2m++32::(k.name++32::(decS k.quick++32::decS k.slow))
def Qz58(p:Point):Str:=Qisw++32::(p.name++32::(decS p.x++32::decS p.y))
def fldW(n:Str)(f:Fld):Str:=formF ⟨n,f.what,f.number,f.value⟩
def Q59c(ks:List Kind)(ps:List Point)(es:List Entry):List Str:=ks.map kindW++(ps.map Qz58++es.flatMap fun e=>e.fields.map (fldW e.name))
theorem Q7g0:∀es:List Entry,es.flatMap Qbhp=(es.flatMap fun e=>e.fields.map (fldW e.name)).flatMap fun l=>l++[10]
 | []=>rfl
 | e::es=>by
  rw[List.flatMap_cons,List.flatMap_cons,List.flatMap_append,←Q7g0 es,List.flatMap_map];rfl
theorem Qzb6{ks:List Kind}{ps:List Point}{es:List Entry}(h:Qn0o ks ps es=true):Q9kb ks ps es=(Q59c ks ps es).flatMap fun l=>l++[10]:=by
 rw[Q9kb,if_pos h,Q59c,List.flatMap_append,List.flatMap_append,List.flatMap_map,List.flatMap_map,Q7g0]
 have e1:kindT=fun k=>kindW k++[10]:=by funext k;simp[kindT,kindW]
 have e2:Q0f8=fun k=>Qz58 k++[10]:=by funext k;simp[Q0f8,Qz58]
 rw[e1,e2]
theorem Qc1p:∀{a:Str},noSp a=true→cutS 32 a=[a]
 | [],_=>rfl
 | b::a,h=>by
  simp only[noSp,List.all_cons,qaT,Bool.not_eq_true']at h
  have ih:=Qc1p (a:=a) (by simpa[noSp]using h.2)
  rw[cutS,if_neg (by rw[h.1];simp),ih]
theorem Qxrn{k:Kind}(h:k.ok=true):cutS 32 (kindW k)=[Qq2m,k.name,decS k.quick,decS k.slow]:=by
 have hn:Q2rq k.name=true:=by simp only[Kind.ok,qaT]at h;exact h.1
 unfold kindW
 rw[Ql8q (by decide),Ql8q (Qx0s hn),Ql8q (a:=decS k.quick) (Qy1c (Qtlb _)),Qc1p (a:=decS k.slow) (Qy1c (Qtlb _))]
theorem Q92s{k:Point}(h:k.ok=true):cutS 32 (Qz58 k)=[Qisw,k.name,decS k.x,decS k.y]:=by
 have hn:Q2rq k.name=true:=by simp only[Point.ok,qaT]at h;exact h.1
 unfold Qz58
 rw[Ql8q (by decide),Ql8q (Qx0s hn),Ql8q (a:=decS k.x) (Qy1c (Qtlb _)),Qc1p (a:=decS k.y) (Qy1c (Qtlb _))]
theorem Q65a{α:Type}{key:α→Str}{l:List α}{x:α}(h:∀y∈l,Q7zj (key y) (key x)=true):insG key l x=l++[x]:=by
 have e:(l.takeWhile fun y=>Q7zj (key y) (key x))=l:=by
  induction l with
  | nil=>rfl
  | cons a l ih=>rw[List.takeWhile_cons,if_pos (h a (List.mem_cons_self ..)),ih (fun y hy=>h y (List.mem_cons_of_mem _ hy))]
 unfold insG twG
 rw[e]
 simp
end Lx
namespace Lx
open Go Go.Proofs Go.Sort Go.RowKit
set_option maxRecDepth 100000 in
theorem Qy5a(a b:ByteArray)(q s q2 s2:Int)(w:World) :
  Calls Tryz.prog 216 #[.agg #[.string a,.int .i64 q,.int .i64 s],.agg #[.string b,.int .i64 q2,.int .i64 s2]] w fun e w'=>e=.returned (.int .i64 (Lib.compareBytes a.data.toList b.data.toList))∧∃q os',w'=grow (w.drewN q) os':=by
 go_enter Tryz.func216,Tryz.ntmps216
 go_wp2_with (go_at_call 179;refine(Qzus _ _ _).mono ?_;rintro e w' ⟨rfl,rfl⟩)
 go_ret
 exact⟨rfl,0,_,grow2 _ _ _⟩
instance:Inhabited (SEl CP .kind (fun _=>true)):=⟨SEl.dflt CP_ok .kind rfl⟩
theorem Q141{p:Kind→Bool}(x:SEl CP .kind p):∃s,x.vs=[.string s,.int .i64 x.x.quick,.int .i64 x.x.slow]∧s.data.toList=x.x.name:=by
 obtain⟨a,b,c,e⟩:=list3 (show x.vs.length=3 from x.len)
 obtain⟨s,rfl,hs⟩:=x.sh 0 (.str x.x.name) a rfl (by rw[e];rfl)
 have h1:b=.int .i64 x.x.quick:=x.sh 1 (.int .i64 x.x.quick) b rfl (by rw[e];rfl)
 have h2:c=.int .i64 x.x.slow:=x.sh 2 (.int .i64 x.x.slow) c rfl (by rw[e];rfl)
 exact⟨s,by rw[e,h1,h2],hs⟩
theorem Qwhn:Qja8 Tryz.prog CP .kind (fun _=>true) (fun a b:Kind=>Lib.compareBytes a.name b.name) Qwr6 Quea:=by
 intro blk cap D w hH hblk hsz
 have hlt:(ltOf fun x y:SEl CP .kind (fun _=>true)=>Lib.compareBytes x.x.name y.x.name)=fun x y=>Q7zj x.x.name y.x.name:=by
  funext x y
  unfold ltOf
  have:=Q9yw x.x.name y.x.name
  cases h:Q7zj x.x.name y.x.name with
  | true=>exact decide_eq_true (this.2 h)
  | false=>exact decide_eq_false (fun h2=>by rw[this.1 h2]at h;cases h)
 refine AnyQ.slices_SortFunc Tryz.laysK 3 Tryz.isAgg40 Tryz.sizeOf40 SEl.vs (fun x:SEl CP .kind (fun _=>true)=>x.len) (fun x=>x.one) (fun x y=>Lib.compareBytes x.x.name y.x.name) (by rw[hlt];exact Qgb6 fun x:SEl CP .kind (fun _=>true)=>x.x.name) 216 #[] blk 0 cap D w (enters_of Tryz.func216 (by kernel_rfl) rfl) ?_ hH hblk hsz
 intro m os dk hs x y
 obtain⟨s,e1,e2⟩:=Q141 x
 obtain⟨s',f1,f2⟩:=Q141 y
 have hw:=Qy5a s s' x.x.quick x.x.slow y.x.quick y.x.slow (sortWorldK SEl.vs 3 w blk 0 m dk os)
 rw[e2,f2]at hw
 rw[e1,f1]
 exact hw
def sortK(l:List Kind):List Kind:=l.mergeSort fun a b=>!Q7zj b.name a.name
def srtKK(xs:List Kind):Bool:=decide (1≤xs.length)&&(decide (xs.length≤1000000)&&decide ((xs.map Kind.name).Nodup))
theorem Qh2t(l:List Kind):(sortK l).Perm l∧(sortK l).Pairwise (fun a b=>¬Lib.compareBytes b.name a.name<0):=by
 refine⟨List.mergeSort_perm _ _,(List.pairwise_mergeSort (le:=fun a b:Kind=>!Q7zj b.name a.name) (fun a b c h1 h2=>?_) (fun a b=>?_) l).imp fun {a b} h=>?_⟩
 ·simp only[Bool.not_eq_true']at *
  exact(Qgb6 Kind.name).ntrans c b a h2 h1
 ·simp only[Bool.or_eq_true,Bool.not_eq_true']
  cases h:Q7zj b.name a.name with
  | false=>exact .inl rfl
  | true=>exact .inr (Qi83 h)
 ·rw[Q9yw];simpa using h
theorem Q7hx(xs:List Kind)(hg:srtKK xs=true):Qewq Tryz.prog CP Qwr6 [.own 0 [] 0,.fn (.func Quea) []] [.row .kind xs 0 0 0 .no] (.tup []) [.row .kind (sortK xs) 0 0 0 .no]:=by
 simp only[srtKK,qaT,qdT]at hg
 obtain⟨h1,h2,h3⟩:=hg
 have ne:=Qudc Kind.name h3
 refine Qewq.sortFunc CP_ok Qwhn (fun _ _=>rfl) h1 (Nat.lt_of_le_of_lt h2 (by decide)) (fun zs hp hz=>?_)
 obtain⟨hp2,hs2⟩:=Qh2t xs
 refine(hp.trans hp2.symm).eq_of_pairwise (le:=fun a b:Kind=>¬Lib.compareBytes b.name a.name<0) (fun a b ha hb q1 q2=>?_) hz hs2
 rw[Q9yw]at q1 q2
 exact Qrj0 Kind.name ne (hp.mem_iff.1 ha) (hp2.mem_iff.1 hb) (Qj9t _ _ (by simpa using q2) (by simpa using q1))
def Qxwe:Ent Ty El:=⟨[.io,.ro],0,fun a h=>match a,h with
 | [.own 0 [] 0,.fn (.func g) []],[.row .kind xs 0 0 0 .no]=>some (decide (g=Quea)&&srtKK xs,.tup [],[.row .kind (sortK xs) 0 0 0 .no])
 | _,_=>none⟩
theorem Q763:EntOK Tryz.prog CP Qwr6 Qxwe:=by
 refine⟨eob (by kernel_rfl),fun _ _ _ _ h=>?_⟩
 simp only[Qxwe]at h
 split at h
 ·simp only[qsI,qpI,qaT,qdT]at h
  obtain⟨⟨rfl,hg⟩,rfl,rfl⟩:=h
  exact Q7hx _ hg
 ·cases h
theorem Qkf1:∀{l:List Kind} {q:Option Str},Qlwf q (l.map Kind.name)=true→l.Pairwise fun a b=>Q7zj a.name b.name=true
 | [],_,_=>.nil
 | a::l,q,h=>by
  simp only[List.map_cons,Qlwf,qaT]at h
  exact List.pairwise_cons.2 ⟨fun b hb=>Q6mk h.2 (List.mem_map_of_mem hb),Qkf1 h.2⟩
theorem Qz2h{l:List Kind}{x:Kind}(h:Qlwf none (l.map Kind.name)=true)(hn:∀y∈l,y.name≠x.name):sortK (l++[x])=insG Kind.name l x:=by
 obtain⟨hp,hs⟩:=Qh2t (l++[x])
 refine Qhss Kind.name (Qkf1 (Qdhw (key:=Kind.name) h rfl hn)) (hp.trans ?_) hs
 exact(List.perm_append_comm (l₁:=l) (l₂:=[x])).trans (Qcn3 (key:=Kind.name) (x:=x) (l:=l)).symm

set_option maxRecDepth 100000 in
theorem Qtuf(a b:ByteArray)(q s q2 s2:Int)(w:World) :
  Calls Tryz.prog 220 #[.agg #[.string a,.int .i64 q,.int .i64 s],.agg #[.string b,.int .i64 q2,.int .i64 s2]] w fun e w'=>e=.returned (.int .i64 (Lib.compareBytes a.data.toList b.data.toList))∧∃q os',w'=grow (w.drewN q) os':=by
 go_enter Tryz.func220,Tryz.ntmps220
 go_wp2_with (go_at_call 179;refine(Qzus _ _ _).mono ?_;rintro e w' ⟨rfl,rfl⟩)
 go_ret
 exact⟨rfl,0,_,grow2 _ _ _⟩
instance:Inhabited (SEl CP .point (fun _=>true)):=⟨SEl.dflt CP_ok .point rfl⟩
theorem Qa0s{p:Point→Bool}(x:SEl CP .point p):∃s,x.vs=[.string s,.int .i64 x.x.x,.int .i64 x.x.y]∧s.data.toList=x.x.name:=by
 obtain⟨a,b,c,e⟩:=list3 (show x.vs.length=3 from x.len)
 obtain⟨s,rfl,hs⟩:=x.sh 0 (.str x.x.name) a rfl (by rw[e];rfl)
 have h1:b=.int .i64 x.x.x:=x.sh 1 (.int .i64 x.x.x) b rfl (by rw[e];rfl)
 have h2:c=.int .i64 x.x.y:=x.sh 2 (.int .i64 x.x.y) c rfl (by rw[e];rfl)
 exact⟨s,by rw[e,h1,h2],hs⟩
theorem Qf4d:Qja8 Tryz.prog CP .point (fun _=>true) (fun a b:Point=>Lib.compareBytes a.name b.name) Qz8g Qne2:=by
 intro blk cap D w hH hblk hsz
 have hlt:(ltOf fun x y:SEl CP .point (fun _=>true)=>Lib.compareBytes x.x.name y.x.name)=fun x y=>Q7zj x.x.name y.x.name:=by
  funext x y
  unfold ltOf
  have:=Q9yw x.x.name y.x.name
  cases h:Q7zj x.x.name y.x.name with
  | true=>exact decide_eq_true (this.2 h)
  | false=>exact decide_eq_false (fun h2=>by rw[this.1 h2]at h;cases h)
 refine AnyQ.slices_SortFunc Tryz.laysP 3 Tryz.isAgg160 Tryz.sizeOf160 SEl.vs (fun x:SEl CP .point (fun _=>true)=>x.len) (fun x=>x.one) (fun x y=>Lib.compareBytes x.x.name y.x.name) (by rw[hlt];exact Qgb6 fun x:SEl CP .point (fun _=>true)=>x.x.name) 220 #[] blk 0 cap D w (enters_of Tryz.func220 (by kernel_rfl) rfl) ?_ hH hblk hsz
 intro m os dk hs x y
 obtain⟨s,e1,e2⟩:=Qa0s x
 obtain⟨s',f1,f2⟩:=Qa0s y
 have hw:=Qtuf s s' x.x.x x.x.y y.x.x y.x.y (sortWorldK SEl.vs 3 w blk 0 m dk os)
 rw[e2,f2]at hw
 rw[e1,f1]
 exact hw
def sortP(l:List Point):List Point:=l.mergeSort fun a b=>!Q7zj b.name a.name
def srtPK(xs:List Point):Bool:=decide (1≤xs.length)&&(decide (xs.length≤1000000)&&decide ((xs.map Point.name).Nodup))
theorem Q19o(l:List Point):(sortP l).Perm l∧(sortP l).Pairwise (fun a b=>¬Lib.compareBytes b.name a.name<0):=by
 refine⟨List.mergeSort_perm _ _,(List.pairwise_mergeSort (le:=fun a b:Point=>!Q7zj b.name a.name) (fun a b c h1 h2=>?_) (fun a b=>?_) l).imp fun {a b} h=>?_⟩
 ·simp only[Bool.not_eq_true']at *
  exact(Qgb6 Point.name).ntrans c b a h2 h1
 ·simp only[Bool.or_eq_true,Bool.not_eq_true']
  cases h:Q7zj b.name a.name with
  | false=>exact .inl rfl
  | true=>exact .inr (Qi83 h)
 ·rw[Q9yw];simpa using h
theorem Q4er(xs:List Point)(hg:srtPK xs=true):Qewq Tryz.prog CP Qz8g [.own 0 [] 0,.fn (.func Qne2) []] [.row .point xs 0 0 0 .no] (.tup []) [.row .point (sortP xs) 0 0 0 .no]:=by
 simp only[srtPK,qaT,qdT]at hg
 obtain⟨h1,h2,h3⟩:=hg
 have ne:=Qudc Point.name h3
 refine Qewq.sortFunc CP_ok Qf4d (fun _ _=>rfl) h1 (Nat.lt_of_le_of_lt h2 (by decide)) (fun zs hp hz=>?_)
 obtain⟨hp2,hs2⟩:=Q19o xs
 refine(hp.trans hp2.symm).eq_of_pairwise (le:=fun a b:Point=>¬Lib.compareBytes b.name a.name<0) (fun a b ha hb q1 q2=>?_) hz hs2
 rw[Q9yw]at q1 q2
 exact Qrj0 Point.name ne (hp.mem_iff.1 ha) (hp2.mem_iff.1 hb) (Qj9t _ _ (by simpa using q2) (by simpa using q1))
def Qkmo:Ent Ty El:=⟨[.io,.ro],0,fun a h=>match a,h with
 | [.own 0 [] 0,.fn (.func g) []],[.row .point xs 0 0 0 .no]=>some (decide (g=Qne2)&&srtPK xs,.tup [],[.row .point (sortP xs) 0 0 0 .no])
 | _,_=>none⟩
theorem Qkv7:EntOK Tryz.prog CP Qz8g Qkmo:=by
 refine⟨eob (by kernel_rfl),fun _ _ _ _ h=>?_⟩
 simp only[Qkmo]at h
 split at h
 ·simp only[qsI,qpI,qaT,qdT]at h
  obtain⟨⟨rfl,hg⟩,rfl,rfl⟩:=h
  exact Q4er _ hg
 ·cases h
theorem Qy56:∀{l:List Point} {q:Option Str},Qlwf q (l.map Point.name)=true→l.Pairwise fun a b=>Q7zj a.name b.name=true
 | [],_,_=>.nil
 | a::l,q,h=>by
  simp only[List.map_cons,Qlwf,qaT]at h
  exact List.pairwise_cons.2 ⟨fun b hb=>Q6mk h.2 (List.mem_map_of_mem hb),Qy56 h.2⟩
theorem Qg92{l:List Point}{x:Point}(h:Qlwf none (l.map Point.name)=true)(hn:∀y∈l,y.name≠x.name):sortP (l++[x])=insG Point.name l x:=by
 obtain⟨hp,hs⟩:=Q19o (l++[x])
 refine Qhss Point.name (Qy56 (Qdhw (key:=Point.name) h rfl hn)) (hp.trans ?_) hs
 exact(List.perm_append_comm (l₁:=l) (l₂:=[x])).trans (Qcn3 (key:=Point.name) (x:=x) (l:=l)).symm

end Lx
namespace Lx
open Go
section
variable {Ty:Type} {El:Ty→Type} {C:Cod Ty El} {P:Program}
def Qog5(j:Nat):AV Ty El→Bool
 | .own r _ _=>!(r==j)
 | _=>true
def Qsty(j:Nat):AObj Ty El→Bool
 | .box cs=>cs.all (Qog5 j)
 | _=>true
theorem Qewq.moveTo(hC:CodOK P C){g:FuncId}{args:List (AV Ty El)}{H:List (AObj Ty El)}{res:AV Ty El}{H' H2:List (AObj Ty El)}{T:Ty}{xs:List (El T)}{d:Nat}(h:Qewq P C g args H res H')(k j:Nat)(nek:k≠j)(hj:H.length≤j)(hL:hpOf H' j=.out)
  (hrow:hpOf H' k=.row T xs d 0 0 .no) (hres:∀(N N2:Nm) (w:World) (v:Value),RepA C N w v res→RepA C N2 w v res) (hnj:H'.all (Qsty j)=true) (hbox:H'.all swBox=true) (ob:∀r,hpOf H2 r=if r=k then .gone else if r=j then .row T xs d 0 0 .no else swO k j (hpOf H' r)):Qewq P C g args H res H2:=by
 intro w N vs hN hsz hrep
 refine(h w N vs hN hsz hrep).mono ?_
 rintro en w' ⟨v,N',rfl,hH,hv,hio,hroI,hroO,hfr,hF⟩
 have noF:∀b,¬N'.F j b:=fun b hb=>by
  have:=hH.obj j
  rw[hL]at this
  exact this b hb
 let N2:Nm:={ ν:=fun r=>if r=j then N'.ν k else N'.ν r,F:=fun r b=>(r≠k∧r≠j∧N'.F r b)∨(r=j∧N'.F k b),G:=fun r p v u=>(r≠k∧r≠j∧N'.G r p v u)∨(r=j∧N'.G k p v u),ro:=N'.ro }
 have rC:∀(v:Value) (c:AV Ty El),swOk c=true→Qog5 j c=true→RepA C N' w' v c→RepA C N2 w' v (swC k j c):=fun v c hc hcj hr=>by
  cases hr with
  | own r p ver _ hx =>
   simp only[swC]
   by_cases e:r=k
   ·subst e;rw[if_pos rfl];exact .own _ _ _ _ (.inr ⟨rfl,hx⟩)
   ·rw[if_neg e]
    exact .own _ _ _ _ (.inl ⟨e,by simpa[Qog5]using hcj,hx⟩)
  | int k n=>exact .int k n
  | bool b=>exact .bool b
  | str s l h=>exact .str s l h
  | nils=>exact .nils
  | _=>simp[swOk]at hc
 refine⟨v,N2,rfl,⟨fun r=>?_,fun r p v u hg=>?_,fun r=>?_,fun r p v u hg=>?_,fun r r' b h1 h2=>?_,fun r b h1 h2=>?_,hH.roLt,hH.glTo hC (fun _ h=>h) (fun _ _=>rfl)⟩, ?_,fun r hr hst=>?_,hroI,hroO,hfr,fun r b hb=>?_⟩
 ·rw[ob]
  by_cases h1:r=k
  ·rw[if_pos h1]
   rintro b (hb|hb)
   ·exact hb.1 h1
   ·exact nek (h1.symm.trans hb.1)
  ·rw[if_neg h1]
   by_cases h2:r=j
   ·rw[if_pos h2]
    have ho:=hH.obj k
    rw[hrow]at ho
    have eν:N2.ν r=N'.ν k:=if_pos h2
    refine⟨by rw[eν];exact ho.1, ?_⟩
    rw[eν]
    exact(Deep.cast (N:=N') (N':=N2) hC (fun _ h=>h) (fun _ _=>rfl) _ _ _ _ _ _ ho.2 (fun _ _=>rfl)).blkEq (fun b=>⟨fun hb=>hb.elim (fun hb=>absurd h2 hb.2.1) (fun hb=>hb.2),fun hb=>.inr ⟨h2,hb⟩⟩)
   ·rw[if_neg h2]
    have ho:=hH.obj r
    have eν:N2.ν r=N'.ν r:=if_neg h2
    have eF:∀b,N2.F r b↔N'.F r b:=fun b=>⟨fun hb=>hb.elim (fun hb=>hb.2.2) (fun hb=>absurd hb.1 h2),fun hb=>.inl ⟨h1,h2,hb⟩⟩
    cases e:hpOf H' r with
    | box cs =>
     rw[e]at ho
     have hm:=Q13r e (by simp)
     have hn:cs.all swOk=true:=qlA.1 hbox _ hm
     have hnn:cs.all (Qog5 j)=true:=qlA.1 hnj _ hm
     obtain⟨b,arr,t,q1,q2,q3,q4,q5,q6⟩:=ho
     refine⟨b,arr,t,eν.trans q1,q2,by rw[q3];simp,q4,fun j' v c hj' hc=>?_,fun b'=>(eF b').trans (q6 b')⟩
     rw[List.getElem?_map]at hc
     cases e2:cs[j']? with
     | none=>rw[e2]at hc;cases hc
     | some c0 =>
      rw[e2]at hc
      simp only[Option.map_some,qsI]at hc
      subst hc
      exact rC v c0 (qlA.1 hn c0 (qmG e2)) (qlA.1 hnn c0 (qmG e2)) (q5 j' v c0 hj' e2)
    | row T' xs' d' vr vn m =>
     rw[e]at ho
     refine⟨by rw[eν];exact ho.1, ?_⟩
     rw[eν]
     exact(Deep.cast (N:=N') (N':=N2) hC (fun _ h=>h) (fun _ _=>rfl) _ _ _ _ _ _ ho.2 (fun _ _=>rfl)).blkEq eF
    | mp K V es =>
     have hm:=Q13r e (by simp)
     have hn:=qlA.1 hbox _ hm
     simp[swBox]at hn
    | bld l =>
     have hm:=Q13r e (by simp)
     have hn:=qlA.1 hbox _ hm
     simp[swBox]at hn
    | gone=>rw[e]at ho;exact fun b hb=>ho b ((eF b).1 hb)
    | out=>rw[e]at ho;exact fun b hb=>ho b ((eF b).1 hb)
 ·rw[ob]
  rcases hg with ⟨h1,h2,hg⟩|⟨h2,hg⟩
  ·have eν:N2.ν r=N'.ν r:=if_neg h2
   rw[if_neg h1,if_neg h2,eν]
   have:=hH.reg r p v u hg
   cases e:hpOf H' r<;>rw[e]at this<;>exact this
  ·have eν:N2.ν r=N'.ν k:=if_pos h2
   rw[if_neg (fun e=>nek (e.symm.trans h2)),if_pos h2,eν]
   have:=hH.reg k p v u hg
   rw[hrow]at this
   exact this
 ·rw[ob]
  by_cases h1:r=k
  ·rw[if_pos h1];trivial
  ·rw[if_neg h1]
   by_cases h2:r=j
   ·rw[if_pos h2]
    have hf:=hH.full k
    rw[hrow]at hf
    have eν:N2.ν r=N'.ν k:=if_pos h2
    refine⟨.inr ⟨h2,by rw[eν];exact hf.1⟩,fun p u q1 q2 q3 q4=>.inr ⟨h2,hf.2 p u q1 q2 q3 (by rw[←eν];exact q4)⟩⟩
   ·rw[if_neg h2]
    have eν:N2.ν r=N'.ν r:=if_neg h2
    have hf:=hH.full r
    cases e:hpOf H' r with
    | box cs=>rw[e]at hf;exact .inl ⟨h1,h2,by rw[eν];exact hf⟩
    | mp K V es=>rw[e]at hf;exact .inl ⟨h1,h2,by rw[eν];exact hf⟩
    | bld l=>rw[e]at hf;exact .inl ⟨h1,h2,by rw[eν];exact hf⟩
    | row T' xs' d' vr vn m=>rw[e]at hf;exact⟨.inl ⟨h1,h2,by rw[eν];exact hf.1⟩,fun p u q1 q2 q3 q4=>.inl ⟨h1,h2,hf.2 p u q1 q2 q3 (by rw[←eν];exact q4)⟩⟩
    | gone=>trivial
    | out=>trivial
 ·rcases hg with ⟨_,_,hg⟩|⟨_,hg⟩
  ·exact hH.one _ _ _ _ hg
  ·exact hH.one _ _ _ _ hg
 ·rcases h1 with ⟨a1,a2,a3⟩|⟨a1,a3⟩<;>rcases h2 with ⟨b1,b2,b3⟩|⟨b1,b3⟩
  ·exact hH.dist r r' b a3 b3
  ·exact absurd (hH.dist r k b a3 b3) a1
  ·exact absurd (hH.dist r' k b b3 a3) b1
  ·exact a1.trans b1.symm
 ·rcases h1 with ⟨_,_,a3⟩|⟨_,a3⟩
  ·exact hH.roNot _ _ a3 h2
  ·exact hH.roNot _ _ a3 h2
 ·exact hres N' N2 w' v hv
 ·have hrk:r≠k:=fun e=>by
   have:hpOf H2 r=.gone:=by rw[ob,if_pos e]
   simp[stays,this]at hst
  have hrL:r≠j:=by omega
  have eν:N2.ν r=N'.ν r:=if_neg hrL
  rw[eν]
  refine hio r hr ?_
  have e1:hpOf H2 r=swO k j (hpOf H' r):=by rw[ob,if_neg hrk,if_neg hrL]
  simp only[stays,e1]at hst ⊢
  cases e:hpOf H' r<;>rw[e]at hst<;>exact hst
 ·rcases hb with ⟨_,_,hb⟩|⟨_,hb⟩
  ·exact hF _ _ hb
  ·exact hF _ _ hb
end
end Lx
namespace Lx
open Go Go.Proofs
def Qc18:Ent Ty El:=⟨[.ro,.ro],0,fun a h=>match a,h with
 | [.agg [.str s,.int .i64 x,.int .i64 y],.rop [.str n,.int .i64 z,.int .i64 w] 0],[]=>some (true,.bool (x==z&&y==w),[])
 | _,_=>none⟩
def Qcma:Ent Ty El:=⟨[.ro,.ro],0,fun a h=>match a,h with
 | [.sl .point ps,.fn (.func g) [.rop [.str n,.int .i64 z,.int .i64 w] 0]],[]=>some (decide (g=Qxxs)&&decide (ps.length<1000000000),.int .i64 (idxF (fun p=>p.x==z&&p.y==w) ps),[])
 | _,_=>none⟩
def Qwc8:Ent Ty El:=⟨[.ro,.ro],0,fun a h=>match a,h with
 | [.sl .point ps,.fn (.func g) [.rop [.str n,.int .i64 z,.int .i64 w] 0]],[]=>some (decide (g=Qxxs)&&decide (ps.length<1000000000),.bool (!Q343 ps ⟨n,z,w⟩),[])
 | _,_=>none⟩
def Qnkc(ks:List Kind)(ps:List Point)(es:List Entry)(l:Str):Bool:=goodE ks ps es&&szS l
def H0L(ks:List Kind)(ps:List Point)(es:List Entry):List O:=[.box [.own 1 [] 0,.own 2 [] 0,.own 3 [] 0],.row .kind ks 0 0 0 .no,.row .point ps 0 0 0 .no,.row .entry es 1 0 0 .no]
def HKL(ks:List Kind)(ps:List Point)(es:List Entry):List O:=[.box [.own 4 [] 0,.own 2 [] 0,.own 3 [] 0],.out,.row .point ps 0 0 0 .no,.row .entry es 1 0 0 .no,.row .kind ks 0 0 0 .no]
def HPL(ks:List Kind)(ps:List Point)(es:List Entry):List O:=[.box [.own 1 [] 0,.own 4 [] 0,.own 3 [] 0],.row .kind ks 0 0 0 .no,.out,.row .entry es 1 0 0 .no,.row .point ps 0 0 0 .no]
def HSL(ks:List Kind)(ps:List Point)(es:List Entry):List O:=[.box [.own 1 [] 0,.own 2 [] 0,.own 4 [] 0],.row .kind ks 0 0 0 .no,.row .point ps 0 0 0 .no,.out,.row .entry es 1 0 0 .no]
def HUL(ks:List Kind)(ps:List Point)(es:List Entry):List O:=[.box [.own 4 [] 0,.own 5 [] 0,.own 6 [] 0],.out,.out,.out,.row .kind ks 0 0 0 .no,.row .point ps 0 0 0 .no,.row .entry es 1 0 0 .no]
def Qbo0:Ent Ty El:=⟨[.io,.ro],3,fun a h=>match a,h with
 | [.ptr 0 0,.str l],[.box [.own 1 [] 0,.own 2 [] 0,.own 3 [] 0],.row .kind ks 0 0 0 .no,.row .point ps 0 0 0 .no,.row .entry es 1 0 0 .no] =>
  some (Qnkc ks ps es l,.int .i64 (lineF ks ps es l).code,[.box [.own 4 [] 0,.own 5 [] 0,.own 6 [] 0],.out,.out,.out,.row .kind (lineF ks ps es l).ks 0 0 0 .no,.row .point (lineF ks ps es l).ps 0 0 0 .no,.row .entry (lineF ks ps es l).es 1 0 0 .no])
 | _,_=>none⟩
section
variable {l:Str} {ks ks2:List Kind} {ps ps2:List Point} {es es2:List Entry} {c:Int}
theorem U0(h:Qewq Tryz.prog CP Qk0k [.ptr 0 0,.str l] (H0L ks ps es) (.int .i64 c) (H0L ks2 ps2 es2)):Qewq Tryz.prog CP Qk0k [.ptr 0 0,.str l] (H0L ks ps es) (.int .i64 c) (HUL ks2 ps2 es2) :=
 Qewq.moveAt CP_ok (Qewq.moveAt CP_ok (Qewq.moveAt CP_ok (h) 1 (by simp[H0L]) (by simp[H0L,H0L]) rfl rfl rfl) 2 (by simp[H0L]) (by simp[H0L,H0L]) rfl rfl rfl) 3 (by simp[H0L]) (by simp[H0L,H0L]) rfl rfl rfl
theorem UK(h:Qewq Tryz.prog CP Qk0k [.ptr 0 0,.str l] (H0L ks ps es) (.int .i64 c) (HKL ks2 ps2 es2)):Qewq Tryz.prog CP Qk0k [.ptr 0 0,.str l] (H0L ks ps es) (.int .i64 c) (HUL ks2 ps2 es2) :=
 Qewq.moveAt CP_ok (Qewq.moveAt CP_ok (h) 2 (by simp[HKL]) (by simp[H0L,HKL]) rfl rfl rfl) 3 (by simp[HKL]) (by simp[H0L,HKL]) rfl rfl rfl
theorem UP(h:Qewq Tryz.prog CP Qk0k [.ptr 0 0,.str l] (H0L ks ps es) (.int .i64 c) (HPL ks2 ps2 es2)):Qewq Tryz.prog CP Qk0k [.ptr 0 0,.str l] (H0L ks ps es) (.int .i64 c) (HUL ks2 ps2 es2) :=
 Qewq.moveTo CP_ok (Qewq.moveAt CP_ok (Qewq.moveAt CP_ok (Qewq.moveAt CP_ok (h) 4 (by simp[HPL]) (by simp[H0L,HPL]) rfl rfl rfl) 3 (by simp[HPL]) (by simp[H0L,HPL]) rfl rfl rfl) 1 (by simp[HPL]) (by simp[H0L,HPL]) rfl rfl rfl) 7 4 (by decide) (by simp[H0L]) rfl rfl (fun _ _ _ _ h=>by cases h;exact .int _ _) rfl rfl (fun r=>match r with
  | 0=>rfl|1=>rfl|2=>rfl|3=>rfl|4=>rfl|5=>rfl|6=>rfl|7=>rfl
  | r+8=>rfl)
theorem US(h:Qewq Tryz.prog CP Qk0k [.ptr 0 0,.str l] (H0L ks ps es) (.int .i64 c) (HSL ks2 ps2 es2)):Qewq Tryz.prog CP Qk0k [.ptr 0 0,.str l] (H0L ks ps es) (.int .i64 c) (HUL ks2 ps2 es2) :=
 Qewq.moveTo CP_ok (Qewq.moveAt CP_ok (Qewq.moveAt CP_ok (Qewq.moveAt CP_ok (h) 2 (by simp[HSL]) (by simp[H0L,HSL]) rfl rfl rfl) 4 (by simp[HSL]) (by simp[H0L,HSL]) rfl rfl rfl) 1 (by simp[HSL]) (by simp[H0L,HSL]) rfl rfl rfl) 7 4 (by decide) (by simp[H0L]) rfl rfl (fun _ _ _ _ h=>by cases h;exact .int _ _) rfl rfl (fun r=>match r with
  | 0=>rfl|1=>rfl|2=>rfl|3=>rfl|4=>rfl|5=>rfl|6=>rfl|7=>rfl
  | r+8=>rfl)
end
end Lx
namespace Lx
open Go Go.Proofs
noncomputable def Q1dg:RE Ty El:=⟨Tryz.prog,CP,[],Tryz.f218,0,[],[]⟩
theorem Qxh4:REOK Q1dg Qxxs:=⟨CP_ok,Qye1,by kernel_rfl,by kernel_rfl⟩
theorem Qwxy(s n:Str)(x y z w:Int):aRun Q1dg 600 false (body0 Q1dg.fn) (Q4gm Q1dg.fn [.agg [.str s,.int .i64 x,.int .i64 y],.rop [.str n,.int .i64 z,.int .i64 w] 0] []) =
 ifb (x==z) (some (.ret (.bool (y==w)) [])) (some (.ret (.bool false) [])):=by kernel_rfl
theorem Qoiq(s n:Str)(x y z w:Int):Qewq Tryz.prog CP Qxxs [.agg [.str s,.int .i64 x,.int .i64 y],.rop [.str n,.int .i64 z,.int .i64 w] 0] [] (.bool (x==z&&y==w)) []:=by
 refine Qewq.of Qxh4 (by kernel_rfl) (Qwxy s n x y z w) ?_
 cases h:(x==z) with
 | true=>exact Sat.ret rfl rfl
 | false=>exact Sat.ret rfl rfl
theorem Qu1t:EntOK Tryz.prog CP Qxxs Qc18:=by
 refine⟨eob (by kernel_rfl),fun _ _ _ _ h=>?_⟩
 simp only[Qc18]at h
 split at h
 ·obtain⟨hg,rfl,rfl⟩:=eoh h
  exact Qoiq _ _ _ _ _ _
 ·cases h

noncomputable def Qll9:RE Ty El:=⟨Tryz.prog,CP,[(Qxxs,Qc18)],Tryz.f188,0,[],[(2,[(0,.any),(1,.any),(7,.any),(8,.any)])]⟩
theorem Qya9:REOK Qll9 Q5fl:=⟨CP_ok,(TabOK.cons Qu1t Qye1),by kernel_rfl,by kernel_rfl⟩
theorem Qd2r(ps:List Point)(n:Str)(z w:Int):aRun Qll9 600 false (body0 Qll9.fn) (Q4gm Qll9.fn [.sl .point ps,.fn (.func Qxxs) [.rop [.str n,.int .i64 z,.int .i64 w] 0]] []) =
 some (.go (Qu6t Qll9.fn 2) [.sl .point ps,.fn (Fn.func Qxxs) [.rop [.str n,.int .i64 z,.int .i64 w] 0],.int .i64 (↑ps.length:Int),.int .i64 0] []):=by kernel_rfl
theorem Qqvk(x0:List (El .point))(x1:Str)(x2:Int)(x3:Int)(x4:Int)(x5:Int):aRun Qll9 600 true (Qu6t Qll9.fn 2) (cutSt Qll9.fn (Q1m4 Qll9 (Qu6t Qll9.fn 2)) [.sl .point x0,.fn (Fn.func Qxxs) [.rop [.str x1,.int .i64 x2,.int .i64 x3] 0],.int .i64 x4,.int .i64 x5] []) =
 let z0:=(x0.getD x5.toNat (Qll9.C.dflt Ty.point));ifb (decide (x5<x4)) (ifb (inb x5 x0.length) (ifb (z0.x==x2&&z0.y==x3) (some (.ret (.int .i64 x5) [])) (some (.go (Qu6t Qll9.fn 2) [.sl .point x0,.fn (Fn.func Qxxs) [.rop [.str x1,.int .i64 x2,.int .i64 x3] 0],.int .i64 x4,.int .i64 (IntKind.i64.wrap (x5+1))] []))) none) (some (.ret (.int .i64 (-1:Int)) [])):=by kernel_rfl
theorem Qh5r(ps:List Point)(n:Str)(z w:Int)(hl:ps.length<1000000000):∀(d i:Nat),i+d=ps.length→(∀k,k<i→∀x,ps[k]? = some x→(x.x==z&&x.y==w)=false)→Cut Qll9 Q5fl 2 [.sl .point ps,.fn (.func Qxxs) [.rop [.str n,.int .i64 z,.int .i64 w] 0],.int .i64 (ps.length:Int),.int .i64 (i:Int)] [] (.int .i64 (idxF (fun p=>p.x==z&&p.y==w) ps)) []:=by
 intro d
 induction d with
 | zero =>
  intro i hi hno
  refine Cut.of Qya9 rfl (Qqvk ps n z w ps.length i) ?_
  conv=>zeta
  refine Sat.ifb (fun h=>?_) (fun h=>?_)
  ·simp at h;omega
  ·exact Sat.retI (Q1uv (fun k x hk=>hno k (by have:=(qeS.1 hk).1;omega) x hk)).symm rfl
 | succ d ih =>
  intro i hi hno
  refine Cut.of Qya9 rfl (Qqvk ps n z w ps.length i) ?_
  conv=>zeta
  have hlt:i<ps.length:=by omega
  have hw:IntKind.wrap .i64 ((i:Int)+1)=((i+1:Nat):Int):=by rw[Qbrg]<;>omega
  rw[hw]
  have hd:ps.getD (i:Int).toNat (Qll9.C.dflt .point)=ps[i]:=by simp[hlt]
  rw[hd]
  refine Sat.ifb (fun h=>?_) (fun h=>?_)
  ·refine Sat.ifb (fun h2=>?_) (fun h2=>?_)
   ·refine Sat.ifb (fun h3=>?_) (fun h3=>?_)
    ·exact Sat.retI (Qjgx (qeG hlt) h3 hno).symm rfl
    ·refine Sat.cut (ih (i+1) (by omega) fun k hk x hx=>?_)
     by_cases hki:k=i
     ·subst hki
      rw[qeG hlt]at hx
      obtain rfl:=Option.some.inj hx
      exact h3
     ·exact hno k (by omega) x hx
   ·simp[inb]at h2;omega
  ·simp at h;omega
theorem Qt6j(ps:List Point)(n:Str)(z w:Int)(hg:decide (ps.length<1000000000)=true):Qewq Tryz.prog CP Q5fl [.sl .point ps,.fn (.func Qxxs) [.rop [.str n,.int .i64 z,.int .i64 w] 0]] [] (.int .i64 (idxF (fun p=>p.x==z&&p.y==w) ps)) []:=by
 refine Qewq.of Qya9 (by kernel_rfl) (Qd2r ps n z w) ?_
 exact Sat.cut (Qh5r ps n z w (of_decide_eq_true hg) ps.length 0 (by omega) (fun k hk=>by omega))
theorem Qwzf:EntOK Tryz.prog CP Q5fl Qcma:=by
 refine⟨eob (by kernel_rfl),fun _ _ _ _ h=>?_⟩
 simp only[Qcma]at h
 split at h
 ·obtain⟨hg,rfl,rfl⟩:=eoh h
  simp only[qaT,qdT]at hg
  obtain⟨rfl,hg⟩:=hg
  exact Qt6j _ _ _ _ (decide_eq_true hg)
 ·cases h

noncomputable def Qia7:RE Ty El:=⟨Tryz.prog,CP,[(Q5fl,Qcma)],Tryz.f217,0,[],[]⟩
theorem Q1q3:REOK Qia7 Qza3:=⟨CP_ok,(TabOK.cons Qwzf Qye1),by kernel_rfl,by kernel_rfl⟩
theorem Q1bt(ps:List Point)(n:Str)(z w:Int):aRun Qia7 600 false (body0 Qia7.fn) (Q4gm Qia7.fn [.sl .point ps,.fn (.func Qxxs) [.rop [.str n,.int .i64 z,.int .i64 w] 0]] []) =
 ifb (decide (Qxxs=Qxxs)&&decide (ps.length<(1000000000:Nat))) (some (.ret (.bool (decide (idxF (fun p=>p.x==z&&p.y==w) ps≥0))) [])) none:=by kernel_rfl
theorem Qq8n(ps:List Point)(n:Str)(z w:Int)(hg:decide (ps.length<1000000000)=true):Qewq Tryz.prog CP Qza3 [.sl .point ps,.fn (.func Qxxs) [.rop [.str n,.int .i64 z,.int .i64 w] 0]] [] (.bool (!Q343 ps ⟨n,z,w⟩)) []:=by
 refine Qewq.of Q1q3 (by kernel_rfl) (Q1bt ps n z w) ?_
 rw[show(decide (Qxxs=Qxxs)&&decide (ps.length<1000000000))=true by rw[hg];rfl]
 refine Sat.ret (congrArg AV.bool ?_) rfl
 rw[Bool.eq_iff_iff,qdT,Bool.not_eq_true',←Bool.not_eq_true,Qvmh]
 show 0≤idxF (fun p:Point=>p.x==z&&p.y==w) ps↔_
 rw[Q9yp]
 simp only[qaT,beq_iff_eq,sameP]
 constructor
 ·rintro⟨x,h1,h2⟩ h3;exact h3 x h1 h2
 ·intro h
  exact Classical.byContradiction fun h2=>h fun q hq h3=>h2 ⟨q,hq,h3⟩
theorem Qpoc:EntOK Tryz.prog CP Qza3 Qwc8:=by
 refine⟨eob (by kernel_rfl),fun _ _ _ _ h=>?_⟩
 simp only[Qwc8]at h
 split at h
 ·obtain⟨hg,rfl,rfl⟩:=eoh h
  simp only[qaT,qdT]at hg
  obtain⟨rfl,hg⟩:=hg
  exact Qq8n _ _ _ _ (decide_eq_true hg)
 ·cases h
end Lx
namespace Lx
open Go Go.Proofs
noncomputable def Qy35:RE Ty El:=⟨Tryz.prog,CP,[(Q0il,Q9c0),(Qgz0,Q7af),(Qfx9,Qc1o)],Tryz.f72,0,[.agg [.ro .kind,.ro .point,.ro .entry],.any],[(6,[(2,.box [.ro .kind,.ro .point,.ro .entry]),(3,.box [.ro .kind,.ro .point,.ro .entry]),(4,.box [.ro .kind,.ro .point,.ro .entry]),(5,.box [.ro .kind,.ro .point,.ro .entry]),(6,.box [.ro .kind,.ro .point,.ro .entry])])]⟩
theorem Qay2:REOK Qy35 Qwou:=⟨CP_ok,(TabOK.cons Q9n7 (TabOK.cons Qn4h (TabOK.cons Qaka Qye1))),by kernel_rfl,by kernel_rfl⟩
theorem Qib0(s:Str):aRun Qy35 600 false (body0 Qy35.fn) (Q4gm Qy35.fn [.str s] []) =
 let z0:OL:=(some (.ret (.tup [.agg [.sl .kind [],.sl .point [],.sl .entry []],.agg [.int .i64 0,.int .i64 1]]) []));ifb (szS s) (ifb (decide ((↑(List.length s):Int)>(10000:Int))) z0 (ifb (decide ((↑(Qehh s).length:Int)>(200:Int))) z0 (some (.go (Qu6t Qy35.fn 6) [.ptr 0 0,.ptr 1 0,.sl .str (Qehh s),.ptr 2 0,.int .i64 0] [.box [.sl .kind [],.sl .point [],.sl .entry []],.box [.int .i64 0,.int .i64 0],.box [.sl .kind [],.sl .point [],.sl .entry []]])))) none:=by kernel_rfl
theorem Q499(x0:List (El .str))(x1:Int)(x2:List (El .kind))(x3:List (El .point))(x4:List (El .entry))(x5:Int)(x6:Int)(x7:List (El .kind))(x8:List (El .point))(x9:List (El .entry)):aRun Qy35 600 true (Qu6t Qy35.fn 6) (cutSt Qy35.fn (Q1m4 Qy35 (Qu6t Qy35.fn 6)) [.ptr 0 0,.ptr 1 0,.sl .str x0,.ptr 2 0,.int .i64 x1] [.box [.sl .kind x2,.sl .point x3,.sl .entry x4],.box [.int .i64 x5,.int .i64 x6],.box [.sl .kind x7,.sl .point x8,.sl .entry x9]]) =
 let z1:=(x0.getD x1.toNat (Qy35.C.dflt Ty.str));let z0:=(lineF x7 x8 x9 z1);ifb (decide (x1<(↑x0.length:Int))) (ifb (inb x1 x0.length) (ifb (lineK x7 x8 x9 z1) (ifb (z0.code !=0) (some (.ret (.tup [.agg [.sl .kind [],.sl .point [],.sl .entry []],.agg [.int .i64 (IntKind.i64.wrap (x1+1)),.int .i64 (z0.code)]]) [])) (some (.go (Qu6t Qy35.fn 6) [.ptr 0 0,.ptr 1 0,.sl .str x0,.ptr 2 0,.int .i64 (IntKind.i64.wrap (x1+1))] [.box [.sl .kind x2,.sl .point x3,.sl .entry x4],.box [.int .i64 x5,.int .i64 x6],.box [.sl .kind (z0.ks),.sl .point (z0.ps),.sl .entry (z0.es)]]))) none) none) (ifb (Q8cx x7 x8 x9) (some (.ret (.tup [.agg [.sl .kind x7,.sl .point x8,.sl .entry x9],.agg [.int .i64 0,.int .i64 0]]) [])) none):=by kernel_rfl
theorem Qq5i(ls:List Str)(h0:ls.length≤200)(hz:∀l∈ls,szS l=true)(r0:List Kind)(r1:List Point)(r2:List Entry)(a b:Int):∀(d i:Nat) (ks:List Kind) (ps:List Point) (es:List Entry),i+d=ls.length→goodE ks ps es=true →
  Cut Qy35 Qwou 6 [.ptr 0 0,.ptr 1 0,.sl .str ls,.ptr 2 0,.int .i64 (i:Int)] [.box [.sl .kind r0,.sl .point r1,.sl .entry r2],.box [.int .i64 a,.int .i64 b],.box [.sl .kind ks,.sl .point ps,.sl .entry es]] (.tup [.agg [.sl .kind (Qqi5 ks ps es (ls.drop i) i).ks,.sl .point (Qqi5 ks ps es (ls.drop i) i).ps,.sl .entry (Qqi5 ks ps es (ls.drop i) i).es],.agg [.int .i64 (Qqi5 ks ps es (ls.drop i) i).line,.int .i64 (Qqi5 ks ps es (ls.drop i) i).code]]) []:=by
 intro d
 induction d with
 | zero =>
  intro i ks ps es hi hg
  refine Cut.of Qay2 rfl (Q499 ls i r0 r1 r2 a b ks ps es) ?_
  conv=>zeta
  rw[List.drop_of_length_le (by omega),show decide ((i:Int)<(ls.length:Int))=false from decide_eq_false (by omega),Qk7y]
  simp only[goodE,goodB,qaT]at hg
  exact Sat.nd hg.2.2 (Sat.ret rfl rfl)
 | succ d ih =>
  intro i ks ps es hi hg
  refine Cut.of Qay2 rfl (Q499 ls i r0 r1 r2 a b ks ps es) ?_
  conv=>zeta
  have hlt:i<ls.length:=by omega
  have hw:IntKind.wrap .i64 ((i:Int)+1)=((i+1:Nat):Int):=by rw[Qbrg]<;>omega
  have hd:ls.drop i=ls[i]::ls.drop (i+1):=qdC hlt
  have hx:ls.getD (i:Int).toNat (Qy35.C.dflt .str)=ls[i]:=by simp[hlt]
  have hin:inb (i:Int) ls.length=true:=by simp only[inb,qaT,qdT];omega
  have hlo:decide ((i:Int)<(ls.length:Int))=true:=decide_eq_true (by omega)
  have hs:=hz ls[i] (List.getElem_mem hlt)
  rw[hlo,hx,hw,hin,Qgtn hg hs,hd]
  simp only[Qd8q]
  by_cases hc:(lineF ks ps es ls[i]).code=0
  ·rw[Qqi5,if_pos hc,show((lineF ks ps es ls[i]).code !=0)=false by rw[hc];rfl,Qk7y]
   exact Sat.cut (ih (i+1) _ _ _ (by omega) (Qwdt hg hs))
  ·rw[Qqi5,if_neg hc,show((lineF ks ps es ls[i]).code !=0)=true from bne_iff_ne.2 hc,Qd8q]
   exact Sat.ret rfl rfl
theorem Qqsf(s:Str)(hg:szS s=true):Qewq Tryz.prog CP Qwou [.str s] [] (.tup [.agg [.sl .kind (Qob6 s).ks,.sl .point (Qob6 s).ps,.sl .entry (Qob6 s).es],.agg [.int .i64 (Qob6 s).line,.int .i64 (Qob6 s).code]]) []:=by
 refine Qewq.of Qay2 (by kernel_rfl) (Qib0 s) ?_
 conv=>zeta
 have hz:=Qhr2 hg
 rw[show szS s=true from hg,Qd8q,Qob6]
 by_cases h1:10000<s.length
 ·rw[if_pos (.inl h1),decide_eq_true (show(s.length:Int)>10000 by omega)]
  exact Sat.ret rfl rfl
 ·rw[decide_eq_false (show ¬(s.length:Int)>10000 by omega),Qk7y]
  by_cases h2:200<(Qehh s).length
  ·rw[if_pos (.inr h2),decide_eq_true (show((Qehh s).length:Int)>200 by omega)]
   exact Sat.ret rfl rfl
  ·rw[if_neg (by omega),decide_eq_false (show ¬((Qehh s).length:Int)>200 by omega),Qk7y]
   exact Sat.cut (Qq5i (Qehh s) (by omega) hz [] [] [] 0 0 (Qehh s).length 0 [] [] [] (by omega) good0)
theorem Qafr:EntOK Tryz.prog CP Qwou Qzl2:=by
 refine⟨eob (by kernel_rfl),fun _ _ _ _ h=>?_⟩
 simp only[Qzl2]at h
 split at h
 ·obtain⟨hg,rfl,rfl⟩:=eoh h
  exact Qqsf _ hg
 ·cases h

noncomputable def Qr18:RE Ty El:=⟨Tryz.prog,CP,[(Qryc,Q123)],Tryz.f154,0,[],[]⟩
theorem Q948:REOK Qr18 Q665:=⟨CP_ok,(TabOK.cons Qne7 Qye1),by kernel_rfl,by kernel_rfl⟩
theorem Q3k3(s:Str):aRun Qr18 600 false (body0 Qr18.fn) (Q4gm Qr18.fn [.str s] []) =
 let z0:=(cutS (↑(UInt8.toNat (10:UInt8)):Int) s);let z1:=((↑z0.length:Int)-1);let z2:=(IntKind.i64.wrap z1);ifb (szS s) (ifb (inb z2 z0.length) (ifb (z0.getD z2.toNat (Qr18.C.dflt Ty.str)==#[].toList) (ifb (decide ((0:Int)≤(0:Int))&&(decide (0≤IntKind.i64.wrap z1)&&decide (IntKind.i64.wrap z1≤(↑z0.length:Int)))) (some (.ret (.sl .str (List.take (z2.toNat-Int.toNat (0:Int)) (List.drop (Int.toNat (0:Int)) z0))) [])) none) (some (.ret (.sl .str z0) []))) none) none:=by kernel_rfl
theorem Q0ze(s:Str)(hg:szS s=true):Qewq Tryz.prog CP Q665 [.str s] [] (.sl .str (Qehh s)) []:=by
 refine Qewq.of Q948 (by kernel_rfl) (Q3k3 s) ?_
 conv=>zeta
 have hs:=of_decide_eq_true (show decide (s.length≤1000000000)=true from hg)
 have hl:=Qtox 10 s
 have hp:=List.length_pos_iff.2 (Qk4w 10 s)
 rw[show szS s=true from hg,Qehh,show(((10:UInt8).toNat:Nat):Int)=10 from rfl]
 generalize cutS 10 s=l at hl hp ⊢
 have hw:IntKind.wrap .i64 ((l.length:Int)-1)=((l.length-1:Nat):Int):=by rw[Qbrg]<;>omega
 rw[hw]
 simp only[Qd8q,Int.toNat_natCast]
 refine Sat.nd (by simp only[inb,qaT,qdT];omega) ?_
 rw[show(l.getD (l.length-1) (Qr18.C.dflt Ty.str)==#[].toList)=(l.getD (l.length-1) []==[]) from rfl]
 cases h:(l.getD (l.length-1) []==[]) with
 | true =>
  simp only[Qd8q,if_true]
  refine Sat.nd (by simp only[qaT,qdT];omega) (Sat.ret ?_ rfl)
  rw[show Int.toNat 0=0 from rfl,List.drop_zero,Nat.sub_zero]
 | false=>exact Sat.ret rfl rfl
theorem Qwca:EntOK Tryz.prog CP Q665 Qm1b:=by
 refine⟨eob (by kernel_rfl),fun _ _ _ _ h=>?_⟩
 simp only[Qm1b,Q9c0]at h
 split at h
 ·obtain⟨hg,rfl,rfl⟩:=eoh h
  exact Q0ze _ hg
 ·cases h
end Lx
namespace Lx
open Go Go.Proofs
theorem Qlh1{l:List Kind}{x:Kind}(h:Qlwf none (l.map Kind.name)=true)(hn:∀y∈l,y.name≠x.name)(hl:l.length≤100):srtKK (l++[x])=true:=by
 simp only[srtKK,qaT,qdT]
 refine⟨by simp,by simp;omega, ?_⟩
 rw[List.map_append,List.nodup_append]
 refine⟨List.pairwise_map.2 ((Qkf1 h).imp fun {a b} h e=>by rw[e,Qqw5]at h;cases h),by simp,fun a ha b hb=>?_⟩
 obtain⟨g,hg,rfl⟩:=List.mem_map.1 ha
 simp only[List.map_cons,List.map_nil,List.mem_singleton]at hb
 subst hb
 exact hn g hg
theorem Qscz{l:List Point}{x:Point}(h:Qlwf none (l.map Point.name)=true)(hn:∀y∈l,y.name≠x.name)(hl:l.length≤100):srtPK (l++[x])=true:=by
 simp only[srtPK,qaT,qdT]
 refine⟨by simp,by simp;omega, ?_⟩
 rw[List.map_append,List.nodup_append]
 refine⟨List.pairwise_map.2 ((Qy56 h).imp fun {a b} h e=>by rw[e,Qqw5]at h;cases h),by simp,fun a ha b hb=>?_⟩
 obtain⟨g,hg,rfl⟩:=List.mem_map.1 ha
 simp only[List.map_cons,List.map_nil,List.mem_singleton]at hb
 subst hb
 exact hn g hg
theorem Qs0c{ks:List Kind}{ps:List Point}{es:List Entry}(h:goodE ks ps es=true):Qlwf none (ks.map Kind.name)=true∧Qlwf none (ps.map Point.name)=true∧ks.length≤6∧ps.length≤16∧es.length≤12:=by
 simp only[goodE,Qn0o,Qib4,qaT,qdT]at h
 obtain⟨⟨⟨b1,b2,b3,b4⟩,b5,_⟩,_⟩:=h
 exact⟨((Qlo8 _ _).1 b3).2,((Qriy _ _ _).1 b4).2.1,b1,b2,b5⟩
theorem decs2{c d:Str}(h:[c,d].all decB=true):decsV [c,d]=[numF c,numF d]:=by
 have h':=h
 simp only[List.all_cons,List.all_nil,Bool.and_true,qaT,decB,qdT]at h'
 rw[decsV,if_pos h]
 simp only[List.map_cons,List.map_nil,decV]
 rw[Int.max_eq_right h'.1,Int.max_eq_right h'.2]
theorem Qy9e{c d:Str}(h:[c,d].all decB=false):numF c<0∨numF d<0:=by
 simp only[List.all_cons,List.all_nil,Bool.and_true,Bool.and_eq_false_iff,decB,decide_eq_false_iff_not]at h
 omega
theorem Qy6i{b:Str}{x y:Int}(h:x<0∨y<0):(Kind.mk b x y).ok=false:=by
 cases e:(Kind.mk b x y).ok with
 | false=>rfl
 | true =>
  simp only[Kind.ok,qaT,qdT]at e
  omega
theorem Qhi7{b:Str}{x y:Int}(h:x<0∨y<0):(Point.mk b x y).ok=false:=by
 cases e:(Point.mk b x y).ok with
 | false=>rfl
 | true =>
  simp only[Point.ok,inR,qaT,qdT]at e
  omega
theorem Qn6i{ks:List Kind}{ws:List Str}(h:ws.length=4→(Qypu ws).ok=false):kindC ks ws=3:=by
 unfold kindC
 by_cases h4:ws.length=4
 ·rw[if_pos h4,h h4];rfl
 ·rw[if_neg h4]
theorem Qnda{ps:List Point}{ws:List Str}(h:ws.length=4→(Qh70 ws).ok=false):Qvcq ps ws=3:=by
 unfold Qvcq
 by_cases h4:ws.length=4
 ·rw[if_pos h4,h h4];rfl
 ·rw[if_neg h4]
theorem Qka8{ks:List Kind}{ps:List Point}{es:List Entry}{l:Str}(h:((cutS 32 l).getD 0 []==Qq2m)=true):lineF ks ps es l=⟨Qbgk ks (cutS 32 l),ps,es,kindC ks (cutS 32 l)⟩:=if_pos h
theorem Qsko{ks:List Kind}{ps:List Point}{es:List Entry}{l:Str}(h:((cutS 32 l).getD 0 []==Qq2m)=false)(h2:((cutS 32 l).getD 0 []==Qisw)=true):lineF ks ps es l=⟨ks,Q5pt ps (cutS 32 l),es,Qvcq ps (cutS 32 l)⟩:=by
 rw[lineF,h,if_neg (by simp),if_pos h2]
theorem Qyxg{ks:List Kind}{ps:List Point}{es:List Entry}{l:Str}(h:((cutS 32 l).getD 0 []==Qq2m)=false)(h2:((cutS 32 l).getD 0 []==Qisw)=false)(h3:((cutS 32 l).getD 0 []==wSetL)=true):lineF ks ps es l=⟨(setLn ks ps es l).ks,(setLn ks ps es l).ps,(setLn ks ps es l).es,setCn ks ps es l⟩:=by
 rw[lineF,h,if_neg (by simp),h2,if_neg (by simp),if_pos h3]
theorem Qq64{ks:List Kind}{ps:List Point}{es:List Entry}{l:Str}(h:((cutS 32 l).getD 0 []==Qq2m)=false)(h2:((cutS 32 l).getD 0 []==Qisw)=false)(h3:((cutS 32 l).getD 0 []==wSetL)=false):lineF ks ps es l=⟨ks,ps,es,2⟩:=by
 rw[lineF,h,if_neg (by simp),h2,if_neg (by simp),h3,if_neg (by simp)]
end Lx
namespace Lx
open Go Go.Proofs
theorem Qbqy{n:Str}:∀(ps:List Point) (i m:Nat),(∀y∈ps,Q7zj y.name n=true)→lastP n ps i m=if ps.length=0 then m else i+ps.length
 | [],i,m,_=>rfl
 | p::ps,i,m,h=>by
  rw[lastP,if_pos (h p (List.mem_cons_self ..)),Qbqy ps _ _ (fun y hy=>h y (List.mem_cons_of_mem _ hy))]
  rw[if_neg (show ¬(p::ps).length=0 by simp),List.length_cons]
  split<;>omega
theorem Qoh7{ps:List Point}{p:Point}(h:∀y∈ps,Q7zj y.name p.name=true):insP ps p=ps++[p]:=by
 have e:lastP p.name ps 0 0=ps.length:=by rw[Qbqy ps 0 0 h];split<;>omega
 unfold insP;rw[e];simp
theorem ix_no{α:Type}{key:α→Str}{l:List α}{n:Str}(h:∀y∈l,Q7zj (key y) n=true):¬0≤idxF (fun y=>key y==n) l:=fun h2=>by
 obtain⟨y,hy,e⟩:=Q9yp.1 h2
 have:=h y hy
 rw[eq_of_beq e,Qqw5]at this;cases this
theorem Qshb{pre:List Kind}{ps:List Point}{es:List Entry}{k:Kind}(hk:k.ok=true)(h:∀y∈pre,Q7zj y.name k.name=true)(h6:pre.length<6):lineF pre ps es (kindW k)=⟨pre++[k],ps,es,0⟩:=by
 have hr:=(Q9gv hk)
 have e:Qypu [Qq2m,k.name,decS k.quick,decS k.slow]=k:=by
  obtain⟨_,r1,r2,_⟩:=hr
  simp only[inR,qaT,qdT]at r1 r2
  show Kind.mk k.name (numF (decS k.quick)) (numF (decS k.slow))=k
  rw[Qvx3 r1.1 (by omega),Qvx3 r2.1 (by omega)]
 have hc:kindC pre [Qq2m,k.name,decS k.quick,decS k.slow]=0:=by
  rw[kindC,if_pos (show[Qq2m,k.name,decS k.quick,decS k.slow].length=4 from rfl),e,if_pos hk,if_neg (show ¬0≤Qh2z pre k.name from ix_no h),if_neg (by omega)]
 have hi:insK pre k=pre++[k]:=Q65a (key:=Kind.name) h
 rw[Qka8 (by rw[Qxrn hk];rfl),Qxrn hk,hc,Qbgk,if_pos hc,e,hi]
theorem Qjm8{ks:List Kind}{pre:List Point}{es:List Entry}{k:Point}(hk:k.ok=true)(h:∀y∈pre,Q7zj y.name k.name=true)(hf:Q343 pre k=true)(h6:pre.length<16):lineF ks pre es (Qz58 k)=⟨ks,pre++[k],es,0⟩:=by
 have hr:=(Qa3t hk)
 have e:Qh70 [Qisw,k.name,decS k.x,decS k.y]=k:=by
  obtain⟨_,r1,r2,_⟩:=hr
  simp only[inR,qaT,qdT]at r1 r2
  show Point.mk k.name (numF (decS k.x)) (numF (decS k.y))=k
  rw[Qvx3 r1.1 (by omega),Qvx3 r2.1 (by omega)]
 have hc:Qvcq pre [Qisw,k.name,decS k.x,decS k.y]=0:=by
  rw[Qvcq,if_pos (show[Qisw,k.name,decS k.x,decS k.y].length=4 from rfl),e,if_pos hk,if_neg (show ¬0≤Qigq pre k.name from ix_no h),if_pos hf,if_neg (by omega)]
 rw[Qsko (by rw[Q92s hk];rfl) (by rw[Q92s hk];rfl),Q92s hk,hc,Q5pt,if_pos hc,e,Qoh7 h]
theorem Qtlk{ps:List Point}{es:List Entry}{rest:List Str}:∀(ks pre:List Kind) (i:Nat),(∀k∈ks,k.ok=true)→(pre++ks).Pairwise (fun a b=>Q7zj a.name b.name=true)→(pre++ks).length≤6→Qqi5 pre ps es (ks.map kindW++rest) i=Qqi5 (pre++ks) ps es rest (i+ks.length)
 | [],pre,i,_,_,_=>by simp
 | k::ks,pre,i,h1,h2,h3=>by
  have hl:∀y∈pre,Q7zj y.name k.name=true:=fun y hy=>(List.pairwise_append.1 h2).2.2 y hy k (List.mem_cons_self ..)
  have e:=Qshb (ps:=ps) (es:=es) (h1 k (List.mem_cons_self ..)) hl (by simp at h3;omega)
  rw[List.map_cons,List.cons_append,Qqi5,e,if_pos rfl]
  show Qqi5 (pre++[k]) ps es _ (i+1)=_
  rw[Qtlk ks (pre++[k]) (i+1) (fun x hx=>h1 x (List.mem_cons_of_mem _ hx)) (by simpa using h2) (by simpa using h3)]
  simp[Nat.add_assoc,Nat.add_comm 1]
theorem Qllv{ks:List Kind}{es:List Entry}{rest:List Str}:∀(ps pre:List Point) (i:Nat),(∀k∈ps,k.ok=true)→(pre++ps).Pairwise (fun a b=>Q7zj a.name b.name=true)→(pre++ps).Pairwise (fun a b=>¬sameP a b)→(pre++ps).length≤16→Qqi5 ks pre es (ps.map Qz58++rest) i=Qqi5 ks (pre++ps) es rest (i+ps.length)
 | [],pre,i,_,_,_,_=>by simp
 | k::ps,pre,i,h1,h2,h4,h3=>by
  have hl:∀y∈pre,Q7zj y.name k.name=true:=fun y hy=>(List.pairwise_append.1 h2).2.2 y hy k (List.mem_cons_self ..)
  have hf:Q343 pre k=true:=Qvmh.2 fun y hy=>(List.pairwise_append.1 h4).2.2 y hy k (List.mem_cons_self ..)
  have e:=Qjm8 (ks:=ks) (es:=es) (h1 k (List.mem_cons_self ..)) hl hf (by simp at h3;omega)
  rw[List.map_cons,List.cons_append,Qqi5,e,if_pos rfl]
  show Qqi5 ks (pre++[k]) es _ (i+1)=_
  rw[Qllv ps (pre++[k]) (i+1) (fun x hx=>h1 x (List.mem_cons_of_mem _ hx)) (by simpa using h2) (by simpa using h4) (by simpa using h3)]
  simp[Nat.add_assoc,Nat.add_comm 1]
theorem Qc49{ks:List Kind}{ps:List Point}{es:List Entry}{c:Chg}(hf:Qenx c=true)(hc:(takeF ks ps es c).code=0):lineF ks ps es (formF c)=⟨(takeF ks ps es c).ks,(takeF ks ps es c).ps,(takeF ks ps es c).es,0⟩:=by
 have e:formF c=formB c:=if_pos hf
 have hcut:=Qxui hf
 have h0:(cutS 32 (formF c)).getD 0 []=wSet:=by rw[e,hcut];rfl
 have hs:setCn ks ps es (formF c)=0:=by rw[setCn,Qkx5 hf];show(if (takeF ks ps es c).code=2 then (7:Int) else _)=0;rw[hc];rfl
 have hr:readR (formF c)=c:=by rw[readR,Qkx5 hf];rfl
 rw[Qyxg (by rw[h0];decide) (by rw[h0];decide) (by rw[h0];decide),setLn,hs,if_pos rfl,hr]
theorem Qiaj{ks:List Kind}{ps:List Point}{X:List Str}(hX:X.length≤12):∀{l:List Chg} {es:List Entry} (i:Nat),Qn0o ks ps es=true→(∀m∈nms es,m∈X)→(∀c∈l,Qs7k ks ps c=true∧c.flight∈X)→Qqi5 ks ps es (l.map formF) i=⟨ks,ps,l.foldl putC es,0,0⟩
 | [],es,i,_,_,_=>rfl
 | c::l,es,i,hb,hs,hl=>by
  have ho:=Qdgy (c:=c) hb
  have hso:=Qwk3 hb
  obtain⟨h1,hx⟩:=hl c (List.mem_cons_self ..)
  have hno:¬(entIx es c.flight<0∧12≤es.length):=fun h2=>by
   have hn:=Qx6j h2.1
   have:=Qaqm (l:=c.flight::nms es) (m:=X) (List.nodup_cons.2 ⟨hn,Q9gn hso.1⟩) (fun x hx'=>by
    rcases List.mem_cons.1 hx' with rfl|hx'
    ·exact hx
    ·exact hs x hx')
   have e:(nms es).length=es.length:=by simp[nms]
   simp only[List.length_cons,e]at this
   omega
  have et:takeF ks ps es c=⟨ks,ps,putF es c.flight ⟨c.what,c.number,c.value⟩,0⟩:=by rw[takeF,if_pos hb,if_pos h1,if_neg hno]
  have hes:(takeF ks ps es c).es=putC es c:=by rw[Q5oq hb,if_pos h1,if_neg hno]
  have e:=Qc49 (Qfpc h1) (show(takeF ks ps es c).code=0 by rw[et])
  rw[List.map_cons,Qqi5,e,if_pos rfl]
  show Qqi5 (takeF ks ps es c).ks (takeF ks ps es c).ps (takeF ks ps es c).es _ (i+1)=_
  rw[hes,show(takeF ks ps es c).ks=ks by rw[et],show(takeF ks ps es c).ps=ps by rw[et],List.foldl_cons]
  exact Qiaj hX (i+1) (by rw[←hes];exact ho.2.2) (fun m hm=>by
   rw[putC,Q9vl]at hm
   rcases hm with rfl|hm
   ·exact hx
   ·exact hs m hm) (fun d hd=>hl d (List.mem_cons_of_mem _ hd))
theorem Q0qm{ks:List Kind}{ps:List Point}{es:List Entry}(hb:Qn0o ks ps es=true):Qqi5 [] [] [] (Q59c ks ps es) 0=⟨ks,ps,es,0,0⟩:=by
 have hb2:=hb
 simp only[Qn0o,Qib4,qaT,qdT]at hb2
 obtain⟨⟨b1,b2,b3,b4⟩,b5,_⟩:=hb2
 obtain⟨k1,k2⟩:=(Qlo8 _ _).1 b3
 obtain⟨p1,p2,p3,_⟩:=(Qriy _ _ _).1 b4
 have kp:ks.Pairwise fun a b=>Q7zj a.name b.name=true:=by
  have:∀{l:List Kind} {q:Option Str},Qlwf q (l.map Kind.name)=true→l.Pairwise fun a b=>Q7zj a.name b.name=true:=by
   intro l
   induction l with
   | nil=>intro q _;exact .nil
   | cons a l ih =>
    intro q h
    simp only[List.map_cons,Qlwf,qaT]at h
    exact List.pairwise_cons.2 ⟨fun b hb=>Q6mk h.2 (List.mem_map_of_mem hb),ih h.2⟩
  exact this k2
 have pp:ps.Pairwise fun a b=>Q7zj a.name b.name=true:=by
  have:∀{l:List Point} {q:Option Str},Qlwf q (l.map Point.name)=true→l.Pairwise fun a b=>Q7zj a.name b.name=true:=by
   intro l
   induction l with
   | nil=>intro q _;exact .nil
   | cons a l ih =>
    intro q h
    simp only[List.map_cons,Qlwf,qaT]at h
    exact List.pairwise_cons.2 ⟨fun b hb=>Q6mk h.2 (List.mem_map_of_mem hb),ih h.2⟩
  exact this p2
 have e0:(es.flatMap fun e=>e.fields.map (fldW e.name))=(chgs es).map formF:=by
  rw[chgs,List.map_flatMap]
  congr 1
  funext e
  rw[chE,List.map_map];rfl
 rw[Q59c,Qtlk ks [] 0 k1 (by simpa using kp) (by simpa using b1),List.nil_append,Qllv ps [] _ p1 (by simpa using pp) (by simpa using p3) (by simpa using b2),List.nil_append,e0]
 have hbase:Qib4 ks ps=true:=by simp only[Qib4,qaT,qdT];exact⟨b1,b2,b3,b4⟩
 have h0:Qn0o ks ps []=true:=by rw[Qn0o,hbase];rfl
 have hc:=Qef7 hb
 rw[Qiaj (X:=nms es) (by simpa[nms]using b5) _ h0 (fun m hm=>by cases hm) (fun c hc'=>⟨(hc c hc').1,by
  obtain⟨e,he,f,hf,rfl⟩:=Qqiy.1 hc'
  exact List.mem_map_of_mem he⟩)]
 have hm:mgS [] es=es:=by
  rw[Qvci (Qwk3 h0) (Qwk3 hb)];rfl
 show ParR.mk ks ps (mgS [] es) 0 0=_
 rw[hm]
end Lx
namespace Rw
open Go Go.Proofs Lx
inductive Hd|raw (u:Value)|lt (fs:List Fld)
structure Ent0 where
 name:Str
 hd:Hd
inductive Ty|ent|fld
 deriving DecidableEq
abbrev El:Ty→Type
 | .ent=>Ent0
 | .fld=>Fld
abbrev V:=AV Ty El
abbrev O:=AObj Ty El
def hdC:Hd→V
 | .raw u=>.raw u
 | .lt fs=>.lt .fld fs
def rowP:(T:Ty)→El T→List V
 | .ent,z=>[.str z.name,hdC z.hd]
 | .fld,z=>[.int .i64 z.what,.int .i64 z.number,.str z.value]
def Qe63:List V→Option Ent0
 | [.str a,.raw u]=>some ⟨a,.raw u⟩
 | [.str a,.lt .fld fs]=>some ⟨a,.lt fs⟩
 | _=>none
def Q3x7:List V→Option Fld
 | [.int .i64 a,.int .i64 b,.str c]=>some ⟨a,b,c⟩
 | _=>none
def Qv06:(T:Ty)→List V→Option (El T)
 | .ent=>Qe63
 | .fld=>Q3x7
def dfltP:(T:Ty)→El T
 | .ent=>⟨[],.raw (.slice none 0 0)⟩
 | .fld=>(default:Fld)
def tyP:TypeId→Option Ty
 | 92=>some .ent
 | 94=>some .fld
 | _=>none
def isFld:Ty→Bool
 | .fld=>true
 | .ent=>false
def CP:Cod Ty El:={ deq:=inferInstance,ty:=tyP,row:=rowP,unrow:=Qv06,dflt:=dfltP,hgt:=fun _=>0,u8:=fun _=>none,lit:=isFld,agg:=fun _=>true,key:=fun _=>false,keq:=fun _ _ _=>false,ltT:=isFld,noLt:=false }
theorem CP_ok:CodOK Tryz.prog CP where
 len:=fun T x=>by cases T<;>rfl
 pos:=fun T=>by cases T<;>decide
 cell:=fun T x c h=>by
  have:(rowP T x).all Qvgi=true:=by
   cases T
   ·obtain⟨n,hd⟩:=x
    cases hd<;>rfl
   ·rfl
  exact qlA.1 this c h
 unrow:=fun T L x h=>by
  cases T<;>simp only[CP,Qv06]at h ⊢
  case ent=>unfold Qe63 at h;split at h<;>first|(simp only[qsI]at h;subst h;rfl)|cases h
  case fld=>unfold Q3x7 at h;split at h<;>first|(simp only[qsI]at h;subst h;rfl)|cases h
 hgt:=fun T x U zs h=>by
  cases T
  ·obtain⟨n,hd⟩:=x
   cases hd<;>simp[CP,rowP,hdC]at h
  ·simp[CP,rowP]at h
 info:=fun e T h=>by
  refine Qp9f ?_
  simp only[CP]at h
  unfold tyP at h
  split at h<;>first|(simp only[qsI]at h;subst h;kernel_rfl)|cases h
 inj:=fun e e' T h h'=>by
  simp only[CP]at h h'
  unfold tyP at h h'
  split at h<;>first|(cases h;done)|(simp only[qsI]at h;subst h;split at h'<;>first|rfl|(cases h';done))
 u8:=fun T f h x=>by cases h
 typ:=fun T=>by cases T<;>first|exact⟨92,rfl⟩|exact⟨94,rfl⟩
 zero:=fun e T h=>by
  refine Qpcl ?_
  simp only[CP]at h
  unfold tyP at h
  split at h<;>first|(simp only[qsI]at h;subst h;kernel_rfl)|cases h
 agg:=fun T h=>by cases h
 keyd:=fun e K h hk=>by cases hk
 u80:=fun T f h=>by cases h
 noLt:=fun h=>by cases h
 gcell:=fun g cs h=>by
  have h:(none:Option (List V))=some cs:=h
  cases h
 bld:=fun B h=>by
  have h:(none:Option BldC)=some B:=h
  cases h
theorem Qye1:TabOK Tryz.prog CP ([]:Tab Ty El):=TabOK.nil
end Rw
namespace Rw
open Go Go.Proofs Lx
def insR:List Ent0→Str→Fld→List Ent0
 | [],n,f=>[⟨n,.lt [f]⟩]
 | e::r,n,f=>if Q7zj e.name n=true then e::insR r n f else ⟨n,.lt [f]⟩::e::r
theorem insR_lt{r:List Ent0}{e:Ent0}{n:Str}{f:Fld}(h:Q7zj e.name n=true):insR (e::r) n f=e::insR r n f:=by rw[insR,if_pos h]
theorem insR_ge{r:List Ent0}{e:Ent0}{n:Str}{f:Fld}(h:Q7zj e.name n=false):insR (e::r) n f=⟨n,.lt [f]⟩::e::r:=by rw[insR,if_neg (by simp[h])]
def Qf4o:Ent Ty El:=⟨[.ro,.ro],0,fun a h=>match a,h with
 | [.agg [.raw kh,.raw ph,.sl .ent es],.str n],[]=>some (decide (es.length<1000000000),.int .i64 (idxF (fun p=>p.name==n) es),[])
 | _,_=>none⟩
end Rw
namespace Rw
open Go Go.Proofs Lx
noncomputable def Qj8l:RE Ty El:=⟨Tryz.prog,CP,[],Tryz.f116,0,[],[(2,[(1,.any),(2,.any),(5,.any)])]⟩
theorem Qv79:REOK Qj8l Q4v9:=⟨CP_ok,Qye1,by kernel_rfl,by kernel_rfl⟩
theorem Q0e6(kh ph:Value)(es:List Ent0)(n:Str):aRun Qj8l 600 false (body0 Qj8l.fn) (Q4gm Qj8l.fn [.agg [.raw kh,.raw ph,.sl .ent es],.str n] []) =
 some (.go (Qu6t Qj8l.fn 2) [.str n,.ptr 0 0,.int .i64 0] [.box [.raw kh,.raw ph,.sl .ent es]]):=by kernel_rfl
theorem Qzuc(x0:Str)(x1:Int)(x2:Value)(x3:Value)(x4:List (El .ent)):aRun Qj8l 600 true (Qu6t Qj8l.fn 2) (cutSt Qj8l.fn (Q1m4 Qj8l (Qu6t Qj8l.fn 2)) [.str x0,.ptr 0 0,.int .i64 x1] [.box [.raw x2,.raw x3,.sl .ent x4]]) =
 ifb (decide (x1<(↑x4.length:Int))) (ifb (inb x1 x4.length) (ifb ((x4.getD x1.toNat (Qj8l.C.dflt Ty.ent)).name==x0) (some (.ret (.int .i64 x1) [])) (some (.go (Qu6t Qj8l.fn 2) [.str x0,.ptr 0 0,.int .i64 (IntKind.i64.wrap (x1+1))] [.box [.raw x2,.raw x3,.sl .ent x4]]))) none) (some (.ret (.int .i64 (-1:Int)) [])):=by kernel_rfl
theorem Qn1k(kh ph:Value)(es:List Ent0)(n:Str)(h0:es.length<1000000000):∀(d i:Nat),i+d=es.length→(∀k<i,∀x,es[k]? = some x→(x.name==n)=false)→Cut Qj8l Q4v9 2 [.str n,.ptr 0 0,.int .i64 (i:Int)] [.box [.raw kh,.raw ph,.sl .ent es]] (.int .i64 (idxF (fun p=>p.name==n) es)) []:=by
 intro d
 induction d with
 | zero =>
  intro i hi hno
  refine Cut.of Qv79 rfl (Qzuc n i kh ph es) ?_
  rw[show decide ((i:Int)<(es.length:Int))=false from decide_eq_false (by omega),Qk7y]
  refine Sat.retI ?_ rfl
  unfold idxF
  rw[List.findIdx?_eq_none_iff.2 (fun x hx=>by
   obtain⟨j,hj,rfl⟩:=List.getElem_of_mem hx
   exact hno j (by omega) _ (qeG hj))]
 | succ d ih =>
  intro i hi hno
  refine Cut.of Qv79 rfl (Qzuc n i kh ph es) ?_
  have hlt:i<es.length:=by omega
  have hw:IntKind.wrap .i64 ((i:Int)+1)=((i+1:Nat):Int):=by rw[Qbrg]<;>omega
  have hx:es.getD (i:Int).toNat (Qj8l.C.dflt .ent)=es[i]:=by simp[hlt]
  have hin:inb (i:Int) es.length=true:=by simp only[inb,qaT,qdT];omega
  rw[show decide ((i:Int)<(es.length:Int))=true from decide_eq_true (by omega),hin,hx,hw]
  simp only[Qd8q]
  cases hn:(es[i].name==n) with
  | true =>
   rw[Qd8q]
   refine Sat.retI ?_ rfl
   unfold idxF
   rw[List.findIdx?_eq_some_iff_getElem.2 ⟨hlt,hn,fun j hj=>by rw[hno j hj _ (qeG (by omega))];simp⟩]
  | false =>
   rw[Qk7y]
   refine Sat.cut (ih (i+1) (by omega) (fun k hk x hy=>?_))
   rcases Nat.lt_or_ge k i with h|h
   ·exact hno k h x hy
   ·obtain rfl:k=i:=by omega
    rw[qeG hlt]at hy
    obtain rfl:=Option.some.inj hy
    exact hn
theorem Qbk7(kh ph:Value)(es:List Ent0)(n:Str)(hg:decide (es.length<1000000000)=true):Qewq Tryz.prog CP Q4v9 [.agg [.raw kh,.raw ph,.sl .ent es],.str n] [] (.int .i64 (idxF (fun p=>p.name==n) es)) []:=by
 refine Qewq.of Qv79 (by kernel_rfl) (Q0e6 kh ph es n) ?_
 exact Sat.cut (Qn1k kh ph es n (of_decide_eq_true hg) es.length 0 (by omega) (fun k hk=>by omega))
theorem Q9x2:EntOK Tryz.prog CP Q4v9 Qf4o:=by
 refine⟨eob (by kernel_rfl),fun _ _ _ _ h=>?_⟩
 simp only[Qf4o]at h
 split at h
 ·obtain⟨hg,rfl,rfl⟩:=eoh h
  exact Qbk7 _ _ _ _ hg
 ·cases h

noncomputable def Qx07:RE Ty El:=⟨Tryz.prog,CP,[(Q4v9,Qf4o)],Tryz.f139,1,[.agg [.any,.any,.own .ent]],[(6,[(1,.any),(3,.any),(5,.any),(6,.any),(8,.any)])]⟩
theorem Qi9q:REOK Qx07 Q7kf:=⟨CP_ok,(TabOK.cons Q9x2 Qye1),by kernel_rfl,by kernel_rfl⟩
theorem Q9x4(kh ph:Value)(es:List Ent0)(n:Str)(w m:Int)(v:Str):aRun Qx07 600 false (body0 Qx07.fn) (Q4gm Qx07.fn [.agg [.raw kh,.raw ph,.own 0 [] 0],.str n,.agg [.int .i64 w,.int .i64 m,.str v]] [.row .ent es 0 0 0 .no]) =
 ifb (decide (es.length<(1000000000:Nat))) (ifb (decide (idxF (fun p=>p.name==n) es≥0)) (ifb (inb (idxF (fun p=>p.name==n) es) es.length) none none) (some (.go (Qu6t Qx07.fn 6) [.str n,.ptr 1 0,.ptr 2 0,.ptr 3 0,.int .i64 0] [.row .ent es 0 0 0 .no,.box [.raw kh,.raw ph,.own 0 [] 0],.box [.int .i64 w,.int .i64 m,.str v],.box [.nils,.nils,.nils]]))) none:=by kernel_rfl
theorem Qdpk(x0:Str)(x1:Int)(x2:List (El .ent))(x3:Value)(x4:Value)(x5:Int)(x6:Int)(x7:Str):aRun Qx07 600 true (Qu6t Qx07.fn 6) (cutSt Qx07.fn (Q1m4 Qx07 (Qu6t Qx07.fn 6)) [.str x0,.ptr 1 0,.ptr 2 0,.ptr 3 0,.int .i64 x1] [.row .ent x2 0 0 0 .no,.box [.raw x3,.raw x4,.own 0 [] 0],.box [.int .i64 x5,.int .i64 x6,.str x7],.box [.nils,.nils,.nils]]) =
 let z4:=(↑x2.length:Int);let z5:=(List.drop (Int.toNat (0:Int)) x2);let z6:=(x1.toNat-Int.toNat (0:Int));let z7:=(decide ((0:Int)≤(0:Int))&&(decide (0≤x1)&&decide (x1≤z4)));let z8:=(decide (0≤x1)&&(decide (x1≤z4)&&decide (z4≤z4)));let z9:=(Hd.lt [Fld.mk x5 x6 x7]);let z2:=([]++List.take z6 z5++[Ent0.mk x0 z9]++List.take (z4.toNat-x1.toNat) (List.drop x1.toNat x2));let z10:=(140737488355328:Nat);let z0:=(decide ((([]++List.take z6 z5++[Ent0.mk x0 z9]).length+(List.take (z4.toNat-x1.toNat) (List.drop x1.toNat x2)).length)*Qbhn Qx07.P (92:Nat)≤z10));let z1:=(decide ((([]++List.take z6 z5).length+[Ent0.mk x0 z9].length)*Qbhn Qx07.P (92:Nat)≤z10));let z3:=(decide (((0:Nat)+(List.take z6 z5).length)*Qbhn Qx07.P (92:Nat)≤z10));ifb (decide (x1<z4)) (ifb (inb x1 x2.length) (ifb (Q7zj (x2.getD x1.toNat (Qx07.C.dflt Ty.ent)).name x0) (some (.go (Qu6t Qx07.fn 6) [.str x0,.ptr 1 0,.ptr 2 0,.ptr 3 0,.int .i64 (IntKind.i64.wrap (x1+1))] [.row .ent x2 0 0 0 .no,.box [.raw x3,.raw x4,.own 0 [] 0],.box [.int .i64 x5,.int .i64 x6,.str x7],.box [.nils,.nils,.nils]])) (ifb z7 (ifb z3 (ifb z1 (ifb z8 (ifb z0 (some (.ret (.agg [.raw x3,.raw x4,.own 1 [] 0]) [.row .ent x2 0 0 0 .no,.row .ent z2 0 0 0 .no])) none) none) none) none) none)) none) (ifb z7 (ifb z3 (ifb z1 (ifb z8 (ifb z0 (some (.ret (.agg [.raw x3,.raw x4,.own 1 [] 0]) [.row .ent x2 0 0 0 .no,.row .ent z2 0 0 0 .no])) none) none) none) none) none):=by kernel_rfl
theorem Q1h2(kh ph:Value)(es:List Ent0)(n:Str)(w m:Int)(v:Str)(g0:es.length<1000000000):∀(d i:Nat),i+d=es.length→insR es n ⟨w,m,v⟩=es.take i++insR (es.drop i) n ⟨w,m,v⟩ →
  Cut Qx07 Q7kf 6 [.str n,.ptr 1 0,.ptr 2 0,.ptr 3 0,.int .i64 (i:Int)] [.row .ent es 0 0 0 .no,.box [.raw kh,.raw ph,.own 0 [] 0],.box [.int .i64 w,.int .i64 m,.str v],.box [.nils,.nils,.nils]] (.agg [.raw kh,.raw ph,.own 1 [] 0]) [.row .ent es 0 0 0 .no,.row .ent (insR es n ⟨w,m,v⟩) 0 0 0 .no]:=by
 have hb:Qbhn Qx07.P 92≤256:=of_decide_eq_true (by kernel_rfl)
 intro d
 induction d with
 | zero =>
  intro i hi hf
  refine Cut.of Qi9q rfl (Qdpk n i es kh ph w m v) ?_
  conv=>zeta
  rw[List.drop_of_length_le (by omega)]at hf
  rw[show decide ((i:Int)<(es.length:Int))=false from decide_eq_false (by omega),Qk7y]
  rw[show(decide ((0:Int)≤(0:Int))&&(decide ((0:Int)≤(i:Int))&&decide ((i:Int)≤(es.length:Int))))=true by simp;omega,show(decide ((0:Int)≤(i:Int))&&(decide ((i:Int)≤(es.length:Int))&&decide ((es.length:Int)≤(es.length:Int))))=true by simp;omega,Q1mk hb (by simp;omega),Q1mk hb (by simp;omega),Q1mk hb (by simp;omega)]
  simp only[Qd8q]
  refine Sat.ret rfl ?_
  rw[newG,hf,List.drop_of_length_le (by omega)];rfl
 | succ d ih =>
  intro i hi hf
  refine Cut.of Qi9q rfl (Qdpk n i es kh ph w m v) ?_
  conv=>zeta
  have hlt:i<es.length:=by omega
  have hw:IntKind.wrap .i64 ((i:Int)+1)=((i+1:Nat):Int):=by rw[Qbrg]<;>omega
  have hd:es.drop i=es[i]::es.drop (i+1):=qdC hlt
  have hx:es.getD (i:Int).toNat (Qx07.C.dflt .ent)=es[i]:=by simp[hlt]
  have hin:inb (i:Int) es.length=true:=by simp only[inb,qaT,qdT];omega
  have hlo:decide ((i:Int)<(es.length:Int))=true:=decide_eq_true (by omega)
  have htk:=qtS hlt
  rw[hd]at hf
  rw[hlo,hin,hx,hw]
  simp only[Qd8q]
  cases h1:Q7zj es[i].name n with
  | true =>
   rw[insR_lt h1]at hf
   have hf':insR es n ⟨w,m,v⟩=es.take (i+1)++insR (es.drop (i+1)) n ⟨w,m,v⟩:=hf.trans ((show es.take i++es[i]::insR (es.drop (i+1)) n ⟨w,m,v⟩=(es.take i++[es[i]])++insR (es.drop (i+1)) n ⟨w,m,v⟩ by rw[List.append_assoc];rfl).trans (congrArg (fun z=>z++insR (es.drop (i+1)) n ⟨w,m,v⟩) htk.symm))
   exact Sat.cut (ih (i+1) (by omega) hf')
  | false =>
   rw[insR_ge h1,←hd]at hf
   rw[show(decide ((0:Int)≤(0:Int))&&(decide ((0:Int)≤(i:Int))&&decide ((i:Int)≤(es.length:Int))))=true by simp;omega,show(decide ((0:Int)≤(i:Int))&&(decide ((i:Int)≤(es.length:Int))&&decide ((es.length:Int)≤(es.length:Int))))=true by simp;omega,Q1mk hb (by simp;omega),Q1mk hb (by simp;omega),Q1mk hb (by simp;omega)]
   simp only[Qd8q,Qk7y]
   refine Sat.ret rfl ?_
   rw[newG,hf]
theorem c_spec_l13Put(kh ph:Value)(es:List Ent0)(n:Str)(w m:Int)(v:Str)(hg:(decide (es.length<1000000000)&&decide (idxF (fun p=>p.name==n) es<0))=true):Qewq Tryz.prog CP Q7kf [.agg [.raw kh,.raw ph,.own 0 [] 0],.str n,.agg [.int .i64 w,.int .i64 m,.str v]] [.row .ent es 0 0 0 .no] (.agg [.raw kh,.raw ph,.own 1 [] 0]) [.row .ent es 0 0 0 .no,.row .ent (insR es n ⟨w,m,v⟩) 0 0 0 .no]:=by
 refine Qewq.of Qi9q (by kernel_rfl) (Q9x4 kh ph es n w m v) ?_
 conv=>zeta
 simp only[qaT,qdT]at hg
 obtain⟨g0,g1⟩:=hg
 rw[show decide (es.length<1000000000)=true from decide_eq_true g0,show decide (idxF (fun p=>p.name==n) es≥(0:Int))=false from decide_eq_false (by omega)]
 simp only[Qd8q,Qk7y]
 exact Sat.cut (Q1h2 kh ph es n w m v g0 es.length 0 (by omega) rfl)
end Rw
namespace Lx
open Go Go.Proofs
section
variable {Ty:Type} {El:Ty→Type} {C:Cod Ty El}
end
section
variable (ks:List Kind) (ps:List Point) (es:List Entry) (n:Str) (w m:Int) (v:Str)
end
end Lx
namespace Lx
open Go Go.Proofs
end Lx
namespace Lx
open Go Go.Proofs
end Lx
namespace Lx
open Go Go.Proofs
end Lx
namespace Lx
open Go Go.Proofs
theorem Qzzx:∀{es:List Entry} {m:Nat},(∀e∈es,e.fields.length≤m)→(chgs es).length≤es.length*m
 | [],m,_=>by simp[chgs]
 | e::es,m,h=>by
  have h1:=h e (List.mem_cons_self ..)
  have h2:=Qzzx (es:=es) (m:=m) (fun e he=>h e (List.mem_cons_of_mem _ he))
  have:chgs (e::es)=chE e++chgs es:=rfl
  rw[this,List.length_append,List.length_cons,Nat.succ_mul]
  have:(chE e).length=e.fields.length:=by simp[chE]
  omega
end Lx
namespace Lx
open Go Go.Proofs
theorem Qotk{s:Str}(h:0≤numF s):s.length≤7:=by
 unfold numF at h
 split at h
 ·rename_i hh;exact hh.2.1
 ·omega
theorem Qxmc{m:Nat}:∀{l:List Str},(∀w∈l,w.length≤m)→lensL l≤l.length*m
 | [],_=>Nat.zero_le _
 | w::l,h=>by
  have h1:=h w (List.mem_cons_self ..)
  have h2:=Qxmc (m:=m) (l:=l) (fun x hx=>h x (List.mem_cons_of_mem _ hx))
  simp only[lensL,List.length_cons,Nat.add_mul,Nat.one_mul]
  omega
theorem Qrjt{n:Str}(h:Q2rq n=true):n.length≤8:=by
 simp only[Q2rq,qaT,qdT]at h;exact h.2.1
theorem Qull{ks:List Kind}{ps:List Point}{w:Int}{v:Str}(hb:Qib4 ks ps=true)(h:fitsV ks ps w v=true):v.length≤75:=by
 simp only[Qib4,qaT,qdT]at hb
 obtain⟨_,_,b3,b4⟩:=hb
 have hc:=Q72i 32 v
 unfold fitsV at h
 split at h
 ·obtain⟨k,hk,e⟩:=Q9yp.1 (of_decide_eq_true h)
  have:=Qrjt (Qine b3 k hk)
  rw[eq_of_beq e]at this;omega
 ·split at h
  ·unfold Q2es at h
   split at h
   ·rename_i a b e
    simp only[inR,qaT,qdT]at h
    rw[e]at hc
    have h1:=Qotk h.1
    have h2:=Qotk (s:=b) (by omega)
    simp only[lensL,List.length_cons,List.length_nil]at hc
    omega
   ·cases h
  ·split at h
   ·simp only[inR,qaT,qdT]at h
    have:=Qotk (s:=v) (by omega);omega
   ·split at h
    ·simp only[Qyhl,inR,qaT,qdT]at h
     have hl:=Qxmc (m:=8) (fun x hx=>Qrjt (Q7cm (Q21i b4) h.2 x hx))
     omega
    ·split at h
     ·simp only[Bool.or_eq_true,beq_iff_eq]at h
      rcases h with rfl|rfl<;>decide
     ·cases h
theorem Qdcu{s:Str}(hd:s.all isDig=true):hasNL s=false:=by
 unfold hasNL
 rw[List.any_eq_false]
 intro b hb
 have:=qlA.1 hd b hb
 simp only[isDig,qaT,qdT]at this
 simp only[beq_iff_eq];omega
theorem Qdgc{s:Str}(h:hasNL s=false):noC 10 s=true:=by
 unfold hasNL at h
 rw[List.any_eq_false]at h
 refine qlA.2 fun b hb=>?_
 have:=h b hb
 simp only[beq_iff_eq]at this
 simp only[Bool.not_eq_true',beq_eq_false_iff_ne,ne_eq];omega
theorem Qbo3{a b:Str}(h1:hasNL a=false)(h2:hasNL b=false):hasNL (a++b)=false:=by
 unfold hasNL at *;rw[List.any_append,h1,h2];rfl
theorem nl_sp{b:Str}(h:hasNL b=false):hasNL (32::b)=false:=by
 unfold hasNL at *;rw[List.any_cons,h];rfl
theorem Qrhd{k:Int}(h:inR k 1 5=true):hasNL (Qkm3.getD k.toNat [])=false:=by
 simp only[inR,qaT,qdT]at h
 obtain⟨n,rfl⟩:=Int.eq_ofNat_of_zero_le (show 0≤k by omega)
 rw[Int.toNat_natCast]
 match n,h with
 | 0,h=>omega
 | 1,_=>decide
 | 2,_=>decide
 | 3,_=>decide
 | 4,_=>decide
 | 5,_=>decide
 | n+6,h=>omega
theorem Q2zy{k:Kind}(h:k.ok=true):hasNL (kindW k)=false∧(kindW k).length≤110:=by
 have hn:Q2rq k.name=true:=by simp only[Kind.ok,qaT]at h;exact h.1
 refine⟨Qbo3 (by decide) (nl_sp (Qbo3 (Qkck hn).2 (nl_sp (Qbo3 (Qdcu (Qtlb _)) (nl_sp (Qdcu (Qtlb _))))))), ?_⟩
 have:=Qgp5 h
 have e:(kindT k).length=(kindW k).length+1:=by simp[kindT,kindW];omega
 omega
theorem Qllr{k:Point}(h:k.ok=true):hasNL (Qz58 k)=false∧(Qz58 k).length≤110:=by
 have hn:Q2rq k.name=true:=by simp only[Point.ok,qaT]at h;exact h.1
 refine⟨Qbo3 (by decide) (nl_sp (Qbo3 (Qkck hn).2 (nl_sp (Qbo3 (Qdcu (Qtlb _)) (nl_sp (Qdcu (Qtlb _))))))), ?_⟩
 have:=Qhew h
 have e:(Q0f8 k).length=(Qz58 k).length+1:=by simp[Q0f8,Qz58];omega
 omega
theorem Qqyp{ks:List Kind}{ps:List Point}{c:Chg}(h:Qs7k ks ps c=true):hasNL (formF c)=false∧(formF c).length≤110:=by
 have hf:=Qfpc h
 have e:formF c=formB c:=if_pos hf
 have h':=h
 simp only[Qs7k,qaT]at h'
 obtain⟨h1,h2,h3,h4⟩:=h'
 have hl:=Qull h3 h4
 obtain⟨q1,q2,q3⟩:=Qjih h3 h4
 have n1:=Qrjt h1
 have n2:=Q9ne c.what
 simp only[inR,qaT,qdT]at h2
 have n3:=Qj32 (n:=c.number) (by simp only[inR,qaT,qdT];omega)
 rw[e]
 refine⟨Qbo3 (by decide) (nl_sp (Qbo3 (Qkck h1).2 (nl_sp (Qbo3 (Qrhd q1) (nl_sp (Qbo3 (Qdcu (Qtlb _)) (nl_sp q3))))))), ?_⟩
 simp only[formB,wSet,List.length_append,List.length_cons,List.length_nil]
 omega
theorem Q9lg{ks:List Kind}{ps:List Point}{es:List Entry}(hb:Qn0o ks ps es=true):(∀l∈Q59c ks ps es,hasNL l=false∧l.length≤110)∧(Q59c ks ps es).length≤82:=by
 have hb2:=hb
 simp only[Qn0o,Qib4,qaT,qdT]at hb2
 obtain⟨⟨b1,b2,b3,b4⟩,b5,_⟩:=hb2
 have e0:(es.flatMap fun e=>e.fields.map (fldW e.name))=(chgs es).map formF:=by
  rw[chgs,List.map_flatMap]
  congr 1
  funext e
  rw[chE,List.map_map];rfl
 obtain⟨h12,h5⟩:=Qm34 hb
 have hc:=Qzzx h5
 have hok:=Qef7 hb
 have:es.length*5≤12*5:=Nat.mul_le_mul_right 5 h12
 refine⟨fun l hl=>?_, ?_⟩
 ·rw[Q59c,e0]at hl
  rcases List.mem_append.1 hl with hl|hl
  ·obtain⟨k,hk,rfl⟩:=List.mem_map.1 hl
   exact Q2zy (Q315 b3 k hk)
  ·rcases List.mem_append.1 hl with hl|hl
   ·obtain⟨k,hk,rfl⟩:=List.mem_map.1 hl
    exact Qllr (Q1nj b4 k hk)
   ·obtain⟨c,hc,rfl⟩:=List.mem_map.1 hl
    exact Qqyp (hok c hc).1
 ·rw[Q59c,e0]
  simp only[List.length_append,List.length_map]
  omega
theorem Q6ac:∀{ls:List Str},(∀l∈ls,l.length≤110)→(ls.flatMap fun l=>l++[(10:UInt8)]).length≤ls.length*111
 | [],_=>Nat.zero_le _
 | l::ls,h=>by
  have h1:=h l (List.mem_cons_self ..)
  have h2:=Q6ac (ls:=ls) (fun x hx=>h x (List.mem_cons_of_mem _ hx))
  rw[List.flatMap_cons,List.length_append,List.length_append,List.length_cons,List.length_cons,List.length_nil]
  omega
theorem Q9t4{ks:List Kind}{ps:List Point}{es:List Entry}(hb:Qn0o ks ps es=true):Qob6 (Q9kb ks ps es)=⟨ks,ps,es,0,0⟩∧(Q9kb ks ps es).length≤10000:=by
 obtain⟨h1,h2⟩:=Q9lg hb
 have hl:=Q6ac (fun l hl=>(h1 l hl).2)
 have hc:=Qmnp (fun l hl=>Qdgc (h1 l hl).1)
 have h3:(Q59c ks ps es).length*111≤82*111:=Nat.mul_le_mul_right 111 h2
 rw[Qzb6 hb]
 refine⟨?_,by omega⟩
 rw[Qob6,if_neg (by rw[hc];omega),hc,Q0qm hb]
end Lx
namespace Lx
open Go Go.Proofs
theorem Q698(c:Int):∀(s:Str),∀w∈cutS c s,noC c w=true
 | [],w,h=>by
  rw[show cutS c []=[[]] from rfl,List.mem_singleton]at h
  subst h;rfl
 | b::s,w,h=>by
  rw[cutS]at h
  split at h
  ·rcases List.mem_cons.1 h with rfl|h
   ·rfl
   ·exact Q698 c s w h
  ·rename_i hb
   split at h
   ·rename_i hn;exact absurd hn (Qk4w c s)
   ·rename_i x xs hx
    rcases List.mem_cons.1 h with rfl|h
    ·have:=Q698 c s x (by rw[hx];simp)
     simp only[noC,List.all_cons,qaT,Bool.not_eq_true']
     exact⟨by simpa using hb,by simpa[noC]using this⟩
    ·exact Q698 c s w (by rw[hx];exact List.mem_cons_of_mem _ h)
def joinL(L:List Str):Str:=L.flatMap fun l=>l++[(10:UInt8)]
theorem Qm7y:∀{L:List Str} {x:Str},(∀l∈L,noC 10 l=true)→cutS 10 (joinL L++x)=L++cutS 10 x
 | [],x,_=>rfl
 | l::L,x,h=>by
  have e:=Qblf (10:UInt8) (a:=l) (s:=joinL L++x) (h l (List.mem_cons_self ..))
  have ih:=Qm7y (L:=L) (x:=x) (fun y hy=>h y (List.mem_cons_of_mem _ hy))
  rw[joinL,List.flatMap_cons,List.append_assoc,List.append_assoc,List.singleton_append]
  exact e.trans (by rw[show cutS ((10:UInt8).toNat:Int)=cutS 10 from rfl,ih,List.cons_append])
def scanF(t:Str)(m:Int):Str→Nat→Int→Str→Str
 | [],_,_,h=>h
 | b::s,i,n,h=>if n<m then (if ((b.toNat:Int)==10)=true then scanF t m s (i+1) (n+1) (t.take (i+1)) else scanF t m s (i+1) n h) else h
theorem Qajy(t:Str)(m:Int)(hm:m≤((cutS 10 t).length:Int)):∀(s:Str) (L:List Str) (p:Str),t=joinL L++(p++s)→(∀l∈L,noC 10 l=true)→noC 10 p=true→(L.length:Int)+1≤m→scanF t m s (joinL L++p).length ((L.length:Int)+1) (joinL L)=joinL ((cutS 10 t).take (m.toNat-1))
 | [],L,p,ht,hL,hp,h1=>by
  have e:cutS 10 t=L++[p]:=by
   rw[ht,Qm7y hL,List.append_nil]
   congr 1
   have:=Qblf (10:UInt8) (a:=p) (s:=[]) hp
   clear ht
   induction p with
   | nil=>rfl
   | cons b p ih =>
    have hp':=hp
    simp only[noC,List.all_cons,qaT,Bool.not_eq_true']at hp'
    have h2:noC 10 p=true:=hp'.2
    rw[cutS,if_neg (by rw[hp'.1];simp),ih h2 (Qblf (10:UInt8) (a:=p) (s:=[]) h2)]
  rw[e]at hm ⊢
  simp only[List.length_append,List.length_cons,List.length_nil]at hm
  rw[show m.toNat-1=L.length by omega,List.take_left']
  ·rfl
  ·rfl
 | b::s,L,p,ht,hL,hp,h1=>by
  rw[scanF]
  by_cases h2:(L.length:Int)+1<m
  ·rw[if_pos h2]
   cases hb:((b.toNat:Int)==10) with
   | true =>
    rw[if_pos rfl]
    have eb:b=10:=UInt8.toNat_inj.1 (by have:=eq_of_beq hb;show b.toNat=10;omega)
    subst eb
    have ej:joinL (L++[p])=joinL L++p++[10]:=by simp[joinL]
    have et:t=joinL (L++[p])++([]++s):=by rw[ht,ej];simp
    have etk:t.take ((joinL L++p).length+1)=joinL (L++[p]):=by
     have e1:(joinL L++p).length+1=(joinL (L++[p])).length:=by rw[ej];simp[Nat.add_assoc]
     rw[e1,et,List.take_left'];rfl
    have ih:=Qajy t m hm s (L++[p]) [] et (fun l hl=>by
     rcases List.mem_append.1 hl with hl|hl
     ·exact hL l hl
     ·rw[List.mem_singleton.1 hl];exact hp) rfl (by simp only[List.length_append,List.length_cons,List.length_nil];omega)
    rw[etk]
    rw[show(joinL L++p).length+1=(joinL (L++[p])++[]).length by rw[ej];simp[Nat.add_assoc],show(L.length:Int)+1+1=((L++[p]).length:Int)+1 by simp]
    exact ih
   | false =>
    rw[if_neg (by simp)]
    have hp2:noC 10 (p++[b])=true:=by
     simp only[noC,List.all_append,List.all_cons,List.all_nil,Bool.and_true,qaT,Bool.not_eq_true']
     exact⟨hp,hb⟩
    have ih:=Qajy t m hm s L (p++[b]) (by rw[ht];simp) hL hp2 h1
    rw[show(joinL L++p).length+1=(joinL L++(p++[b])).length by simp[Nat.add_assoc]]
    exact ih
  ·rw[if_neg h2]
   have e:cutS 10 t=L++cutS 10 (p++b::s):=by rw[ht,Qm7y hL]
   rw[e,show m.toNat-1=L.length by omega,List.take_left']
   rfl
theorem Qxzo:∀(ls:List Str) {ks:List Kind} {ps:List Point} {es:List Entry} (i:Nat),(Qqi5 ks ps es ls i).code≠0→∃k,k<ls.length∧(Qqi5 ks ps es ls i).line=((i+k+1:Nat):Int)∧(Qqi5 ks ps es (ls.take k) i).code=0∧(Qqi5 ks ps es ls i).ks=[]∧(Qqi5 ks ps es ls i).ps=[]∧(Qqi5 ks ps es ls i).es=[]
 | [],ks,ps,es,i,h=>absurd rfl h
 | l::ls,ks,ps,es,i,h=>by
  rw[Qqi5]at h ⊢
  by_cases hc:(lineF ks ps es l).code=0
  ·rw[if_pos hc]at h ⊢
   obtain⟨k,h1,h2,h3,h4⟩:=Qxzo ls (i+1) h
   refine⟨k+1,by simp;omega,by rw[h2];congr 1;omega, ?_,h4⟩
   rw[List.take_succ_cons,Qqi5,if_pos hc];exact h3
  ·rw[if_neg hc]
   exact⟨0,by simp,rfl,rfl,rfl,rfl,rfl⟩
theorem Q15b:∀(ls:List Str) {ks:List Kind} {ps:List Point} {es:List Entry} (i:Nat),goodE ks ps es=true→(∀l∈ls,szS l=true)→goodE (Qqi5 ks ps es ls i).ks (Qqi5 ks ps es ls i).ps (Qqi5 ks ps es ls i).es=true
 | [],ks,ps,es,i,h,_=>h
 | l::ls,ks,ps,es,i,h,hz=>by
  rw[Qqi5]
  split
  ·exact Q15b ls (i+1) (Qwdt h (hz l (List.mem_cons_self ..))) (fun x hx=>hz x (List.mem_cons_of_mem _ hx))
  ·exact good0
theorem Qh3t{s:Str}(hs:szS s=true):goodE (Qob6 s).ks (Qob6 s).ps (Qob6 s).es=true:=by
 unfold Qob6
 split
 ·exact good0
 ·exact Q15b _ 0 good0 (Qhr2 hs)
end Lx
namespace Lx
open Go Go.Proofs
theorem Qcfw{s:Str}{k:Nat}(h:k<(Qehh s).length):(Qehh s).take k=(cutS 10 s).take k∧k<(cutS 10 s).length:=by
 unfold Qehh at h ⊢
 split at h
 ·rename_i hh
  rw[if_pos hh,List.take_take]
  simp only[List.length_take]at h
  exact⟨by rw[Nat.min_eq_left (by omega)],by omega⟩
 ·rename_i hh
  rw[if_neg hh];exact⟨rfl,h⟩
theorem Q1d8{s:Str}(hc:(Qob6 s).code≠0)(hl:(Qob6 s).line≠0):1≤(Qob6 s).line∧(Qob6 s).line≤((cutS 10 s).length:Int)∧((joinL ((cutS 10 s).take ((Qob6 s).line.toNat-1))).length≤s.length→(Qob6 (joinL ((cutS 10 s).take ((Qob6 s).line.toNat-1)))).code=0):=by
 have e:Qob6 s=Qqi5 [] [] [] (Qehh s) 0∧s.length≤10000∧(Qehh s).length≤200:=by
  unfold Qob6 at hl ⊢
  split at hl
  ·exact absurd rfl hl
  ·rename_i hh
   rw[if_neg hh];exact⟨rfl,by omega,by omega⟩
 obtain⟨e1,e2,e3⟩:=e
 rw[e1]at hc hl ⊢
 obtain⟨k,h1,h2,h3,_⟩:=Qxzo (Qehh s) 0 hc
 obtain⟨t1,t2⟩:=Qcfw h1
 have hk:((0+k+1:Nat):Int).toNat-1=k:=by omega
 rw[h2,hk]
 refine⟨by omega,by omega,fun hle=>?_⟩
 have hL:Qehh (joinL ((cutS 10 s).take k))=(cutS 10 s).take k:=Qmnp (fun l hl=>Q698 10 s l (List.mem_of_mem_take hl))
 unfold Qob6
 rw[hL,if_neg (by rw[List.length_take];omega),←t1]
 exact h3
theorem Q131{s:Str}(hc:(Qob6 s).code≠0):(Qob6 s).ks=[]∧(Qob6 s).ps=[]∧(Qob6 s).es=[]:=by
 unfold Qob6 at hc ⊢
 split at hc
 ·rename_i hh;rw[if_pos hh];exact⟨rfl,rfl,rfl⟩
 ·rename_i hh
  rw[if_neg hh]
  obtain⟨k,_,_,_,h⟩:=Qxzo (Qehh s) 0 hc
  exact h
theorem Qn7k{s:Str}(hs:szS s=true):Qn0o (Qob6 s).ks (Qob6 s).ps (Qob6 s).es=true:=by
 have:=Qh3t hs
 simp only[goodE,qaT]at this
 exact this.1
end Lx
namespace Lx
open Go Go.Proofs
def Qrt3(l:List Str):Bool:=decide (l.length≤1000)&&l.all fun s=>decide (s.length≤100000)
def Qulm:Ent Ty El:=⟨[.ro],0,fun a h=>match a,h with
 | [.sl .str l],[]=>some (Qrt3 l,.str (joinL l),[])
 | _,_=>none⟩
end Lx
namespace Lx
open Go Go.Proofs
noncomputable def Q9bp:RE Ty El:=⟨Tryz.prog,CP,[],Tryz.f160,0,[],[(3,[(0,.any),(3,.any),(4,.any)])]⟩
theorem Qpb8:REOK Q9bp Qcis:=⟨CP_ok,Qye1,by kernel_rfl,by kernel_rfl⟩
theorem Qttf(l:List Str):aRun Q9bp 600 false (body0 Q9bp.fn) (Q4gm Q9bp.fn [.sl .str l] []) =
 some (.go (Qu6t Q9bp.fn 3) [.sl .str l,.str #[].toList,.int .i64 0] []):=by kernel_rfl
theorem Qui1(x0:List (El .str))(x1:Str)(x2:Int):aRun Q9bp 600 true (Qu6t Q9bp.fn 3) (cutSt Q9bp.fn (Q1m4 Q9bp (Qu6t Q9bp.fn 3)) [.sl .str x0,.str x1,.int .i64 x2] []) =
 ifb (decide (x2<(↑x0.length:Int))) (ifb (inb x2 x0.length) (ifb (decide (List.length x1+List.length (x0.getD x2.toNat (Q9bp.C.dflt Ty.str))≤(9223372036854775807:Nat))) (ifb (decide ((x1++x0.getD x2.toNat (Q9bp.C.dflt Ty.str)).length+#[(10:UInt8)].toList.length≤(9223372036854775807:Nat))) (some (.go (Qu6t Q9bp.fn 3) [.sl .str x0,.str (x1++x0.getD x2.toNat (Q9bp.C.dflt Ty.str)++#[(10:UInt8)].toList),.int .i64 (IntKind.i64.wrap (x2+1))] [])) none) none) none) (some (.ret (.str x1) [])):=by kernel_rfl
theorem Qeim(l:List Str)(h0:l.length≤1000)(hz:∀s∈l,s.length≤100000):∀(d i:Nat) (x:Str),i+d=l.length→x.length+d*100001≤200000000 →
  Cut Q9bp Qcis 3 [.sl .str l,.str x,.int .i64 (i:Int)] [] (.str (x++joinL (l.drop i))) []:=by
 intro d
 induction d with
 | zero =>
  intro i x hi hl
  refine Cut.of Qpb8 rfl (Qui1 l x i) ?_
  rw[List.drop_of_length_le (by omega),show decide ((i:Int)<(l.length:Int))=false from decide_eq_false (by omega),Qk7y,show joinL []=[] from rfl,List.append_nil]
  exact Sat.ret rfl rfl
 | succ d ih =>
  intro i x hi hl
  refine Cut.of Qpb8 rfl (Qui1 l x i) ?_
  have hlt:i<l.length:=by omega
  have hw:IntKind.wrap .i64 ((i:Int)+1)=((i+1:Nat):Int):=by rw[Qbrg]<;>omega
  have hd:l.drop i=l[i]::l.drop (i+1):=qdC hlt
  have hx:l.getD (i:Int).toNat (Q9bp.C.dflt .str)=l[i]:=by simp[hlt]
  have hin:inb (i:Int) l.length=true:=by simp only[inb,qaT,qdT];omega
  have hlo:decide ((i:Int)<(l.length:Int))=true:=decide_eq_true (by omega)
  have hl:(l.take (i+1)).getLast? = some l[i]:=by rw[qtS hlt,qlC]
  have hs:=hz l[i] (List.getElem_mem hlt)
  have nx:=ih (i+1) (x++l[i]++#[(10:UInt8)].toList) (by omega) (by simp only[List.length_append,List.size_toArray,List.length_cons,List.length_nil];omega)
  have e:x++joinL (l[i]::l.drop (i+1))=x++l[i]++#[(10:UInt8)].toList++joinL (l.drop (i+1)):=by
   rw[joinL,List.flatMap_cons];simp[joinL]
  rw[hlo,hx,hw,hin,hd,e]
  simp only[Qd8q]
  have q:∀n:Nat,n≤2000000000→decide (n≤9223372036854775807)=true:=fun n h=>decide_eq_true (by omega)
  exact Sat.nd (q _ (by omega)) (Sat.nd (q _ (by simp;omega)) (Sat.cut nx))
theorem Qk8q(l:List Str)(hg:Qrt3 l=true):Qewq Tryz.prog CP Qcis [.sl .str l] [] (.str (joinL l)) []:=by
 refine Qewq.of Qpb8 (by kernel_rfl) (Qttf l) ?_
 simp only[Qrt3,qaT,qdT,qlA]at hg
 exact Sat.cut (Qeim l hg.1 hg.2 l.length 0 [] (by omega) (by have:=hg.1;simp;omega))
theorem Qm3e:EntOK Tryz.prog CP Qcis Qulm:=by
 refine⟨eob (by kernel_rfl),fun _ _ _ _ h=>?_⟩
 simp only[Qulm]at h
 split at h
 ·obtain⟨hg,rfl,rfl⟩:=eoh h
  exact Qk8q _ hg
 ·cases h
end Lx
namespace Lx
open Go Go.Proofs
noncomputable def Qmgd:RE Ty El:=⟨Tryz.prog,CP,[(Qdfk,Q124),(Qstj,Qzn9),(Qyqz,Qzlv)],Tryz.f61,0,[],[(5,[(1,.any),(3,.any),(4,.any)]),(10,[(1,.any),(3,.any),(6,.any)]),(15,[(1,.any),(3,.any),(8,.any)]),(18,[(1,.any),(3,.any),(8,.any),(9,.any)])]⟩
theorem Qcj3:REOK Qmgd Qq81:=⟨CP_ok,(TabOK.cons Q8cq (TabOK.cons Qse0 (TabOK.cons Qawc Qye1))),by kernel_rfl,by kernel_rfl⟩
theorem Qvvd(ks:List Kind)(ps:List Point)(es:List Entry):aRun Qmgd 600 false (body0 Qmgd.fn) (Q4gm Qmgd.fn [.agg [.sl .kind ks,.sl .point ps,.sl .entry es]] []) =
 ifb (szB es) (ifb (!Qn0o ks ps es) (some (.ret (.str #[].toList) [])) (some (.go (Qu6t Qmgd.fn 5) [.ptr 0 0,.str #[].toList,.int .i64 0] [.box [.sl .kind ks,.sl .point ps,.sl .entry es]]))) none:=by kernel_rfl
theorem Qu1q(x0:Str)(x1:Int)(x2:List (El .kind))(x3:List (El .point))(x4:List (El .entry)):aRun Qmgd 600 true (Qu6t Qmgd.fn 5) (cutSt Qmgd.fn (Q1m4 Qmgd (Qu6t Qmgd.fn 5)) [.ptr 0 0,.str x0,.int .i64 x1] [.box [.sl .kind x2,.sl .point x3,.sl .entry x4]]) =
 let z0:=(x2.getD x1.toNat (Qmgd.C.dflt Ty.kind));let z1:=(9223372036854775807:Nat);let z2:=(32:UInt8);let z3:=(107:UInt8);let z4:HL:=[.box [.sl .kind x2,.sl .point x3,.sl .entry x4]];ifb (decide (x1<(↑x2.length:Int))) (ifb (inb x1 x2.length) (ifb (decide (List.length x0+#[z3,105,110,100,32].toList.length≤z1)) (ifb (decide ((x0++#[z3,105,110,100,32].toList).length+List.length z0.name≤z1)) (ifb (decide ((x0++#[z3,105,110,100,32].toList++z0.name).length+#[z2].toList.length≤z1)) (ifb (inR z0.quick (0:Int) (9999999:Int)) (ifb (decide ((x0++#[z3,105,110,100,32].toList++z0.name++#[z2].toList).length+List.length (decS z0.quick)≤z1)) (ifb (decide ((x0++#[z3,105,110,100,32].toList++z0.name++#[z2].toList++decS z0.quick).length+#[z2].toList.length≤z1)) (ifb (inR z0.slow (0:Int) (9999999:Int)) (ifb (decide ((x0++#[z3,105,110,100,32].toList++z0.name++#[z2].toList++decS z0.quick++#[z2].toList).length+List.length (decS z0.slow)≤z1)) (ifb (decide ((x0++#[z3,105,110,100,32].toList++z0.name++#[z2].toList++decS z0.quick++#[z2].toList++decS z0.slow).length+#[(10:UInt8)].toList.length≤z1)) (some (.go (Qu6t Qmgd.fn 5) [.ptr 0 0,.str (x0++#[z3,105,110,100,32].toList++z0.name++#[z2].toList++decS z0.quick++#[z2].toList++decS z0.slow++#[(10:UInt8)].toList),.int .i64 (IntKind.i64.wrap (x1+1))] z4)) none) none) none) none) none) none) none) none) none) none) (some (.go (Qu6t Qmgd.fn 10) [.ptr 0 0,.str x0,.int .i64 0] z4)):=by kernel_rfl
theorem Q4fq(x0:Str)(x1:Int)(x2:List (El .kind))(x3:List (El .point))(x4:List (El .entry)):aRun Qmgd 600 true (Qu6t Qmgd.fn 10) (cutSt Qmgd.fn (Q1m4 Qmgd (Qu6t Qmgd.fn 10)) [.ptr 0 0,.str x0,.int .i64 x1] [.box [.sl .kind x2,.sl .point x3,.sl .entry x4]]) =
 let z0:=(x3.getD x1.toNat (Qmgd.C.dflt Ty.point));let z1:=(9223372036854775807:Nat);let z2:=(32:UInt8);let z3:=(112:UInt8);let z4:HL:=[.box [.sl .kind x2,.sl .point x3,.sl .entry x4]];ifb (decide (x1<(↑x3.length:Int))) (ifb (inb x1 x3.length) (ifb (decide (List.length x0+#[z3,111,105,110,116,32].toList.length≤z1)) (ifb (decide ((x0++#[z3,111,105,110,116,32].toList).length+List.length z0.name≤z1)) (ifb (decide ((x0++#[z3,111,105,110,116,32].toList++z0.name).length+#[z2].toList.length≤z1)) (ifb (inR z0.x (0:Int) (9999999:Int)) (ifb (decide ((x0++#[z3,111,105,110,116,32].toList++z0.name++#[z2].toList).length+List.length (decS z0.x)≤z1)) (ifb (decide ((x0++#[z3,111,105,110,116,32].toList++z0.name++#[z2].toList++decS z0.x).length+#[z2].toList.length≤z1)) (ifb (inR z0.y (0:Int) (9999999:Int)) (ifb (decide ((x0++#[z3,111,105,110,116,32].toList++z0.name++#[z2].toList++decS z0.x++#[z2].toList).length+List.length (decS z0.y)≤z1)) (ifb (decide ((x0++#[z3,111,105,110,116,32].toList++z0.name++#[z2].toList++decS z0.x++#[z2].toList++decS z0.y).length+#[(10:UInt8)].toList.length≤z1)) (some (.go (Qu6t Qmgd.fn 10) [.ptr 0 0,.str (x0++#[z3,111,105,110,116,32].toList++z0.name++#[z2].toList++decS z0.x++#[z2].toList++decS z0.y++#[(10:UInt8)].toList),.int .i64 (IntKind.i64.wrap (x1+1))] z4)) none) none) none) none) none) none) none) none) none) none) (some (.go (Qu6t Qmgd.fn 15) [.ptr 0 0,.str x0,.int .i64 0] z4)):=by kernel_rfl
theorem Q5qe(x0:Str)(x1:Int)(x2:List (El .kind))(x3:List (El .point))(x4:List (El .entry)):aRun Qmgd 600 true (Qu6t Qmgd.fn 15) (cutSt Qmgd.fn (Q1m4 Qmgd (Qu6t Qmgd.fn 15)) [.ptr 0 0,.str x0,.int .i64 x1] [.box [.sl .kind x2,.sl .point x3,.sl .entry x4]]) =
 ifb (decide (x1<(↑x4.length:Int))) (some (.go (Qu6t Qmgd.fn 18) [.ptr 0 0,.str x0,.int .i64 x1,.int .i64 0] [.box [.sl .kind x2,.sl .point x3,.sl .entry x4]])) (some (.ret (.str x0) [])):=by kernel_rfl
theorem Qzfi(x0:Str)(x1:Int)(x2:Int)(x3:List (El .kind))(x4:List (El .point))(x5:List (El .entry)):aRun Qmgd 600 true (Qu6t Qmgd.fn 18) (cutSt Qmgd.fn (Q1m4 Qmgd (Qu6t Qmgd.fn 18)) [.ptr 0 0,.str x0,.int .i64 x1,.int .i64 x2] [.box [.sl .kind x3,.sl .point x4,.sl .entry x5]]) =
 let z1:=(x5.getD x1.toNat (Qmgd.C.dflt Ty.entry));let z0:=(z1.fields.getD x2.toNat (Qmgd.C.dflt Ty.fld));let z2:=(Chg.mk z1.name z0.what z0.number z0.value);let z3:HL:=[.box [.sl .kind x3,.sl .point x4,.sl .entry x5]];let z4:=(inb x1 x5.length);ifb z4 (ifb (decide (x2<(↑z1.fields.length:Int))) (ifb z4 (ifb (inb x2 z1.fields.length) (ifb z4 (ifb (szV z0.value) (ifb (decide (List.length x0+List.length (formF z2)≤(9223372036854775807:Nat))) (ifb (decide ((x0++formF z2).length+#[(10:UInt8)].toList.length≤(9223372036854775807:Nat))) (some (.go (Qu6t Qmgd.fn 18) [.ptr 0 0,.str (x0++formF z2++#[(10:UInt8)].toList),.int .i64 x1,.int .i64 (IntKind.i64.wrap (x2+1))] z3)) none) none) none) none) none) none) (some (.go (Qu6t Qmgd.fn 15) [.ptr 0 0,.str x0,.int .i64 (IntKind.i64.wrap (x1+1))] z3))) none:=by kernel_rfl
theorem Q6n2(ks:List Kind)(ps:List Point)(es:List Entry)(hz:∀e∈es,∀f∈e.fields,szV f.value=true)(i:Nat)(hlt:i<es.length)(X:Nat)(hX:X≤1000000000000000)(nxt:∀x0:Str,x0.length≤X→Cut Qmgd Qq81 15 [.ptr 0 0,.str x0,.int .i64 ((i+1:Nat):Int)] [.box [.sl .kind ks,.sl .point ps,.sl .entry es]] (.str (x0++(es.drop (i+1)).flatMap Qbhp)) []):∀(d j:Nat) (x0:Str),j+d=es[i].fields.length→es[i].fields.length≤5→es.length≤12→x0.length+d*1500000000≤X →
  Cut Qmgd Qq81 18 [.ptr 0 0,.str x0,.int .i64 (i:Int),.int .i64 (j:Int)] [.box [.sl .kind ks,.sl .point ps,.sl .entry es]] (.str (x0++((es[i].fields.drop j).flatMap (fldT es[i].name)++(es.drop (i+1)).flatMap Qbhp))) []:=by
 have hin:inb (i:Int) es.length=true:=by simp only[inb,qaT,qdT];omega
 have hx:es.getD (i:Int).toNat (Qmgd.C.dflt .entry)=es[i]:=by simp[hlt]
 intro d
 induction d with
 | zero =>
  intro j x0 hj h5 h12 hl
  refine Cut.of Qcj3 rfl (Qzfi x0 i j ks ps es) ?_
  conv=>zeta
  have hw:IntKind.wrap .i64 ((i:Int)+1)=((i+1:Nat):Int):=by rw[Qbrg]<;>omega
  rw[hin,hx,hw,List.drop_of_length_le (by omega),show decide ((j:Int)<(es[i].fields.length:Int))=false from decide_eq_false (by omega),List.flatMap_nil,List.nil_append]
  simp only[Qd8q,Qk7y]
  exact Sat.cut (nxt x0 (by omega))
 | succ d ih =>
  intro j x0 hj h5 h12 hl
  refine Cut.of Qcj3 rfl (Qzfi x0 i j ks ps es) ?_
  conv=>zeta
  have hltj:j<es[i].fields.length:=by omega
  have hwj:IntKind.wrap .i64 ((j:Int)+1)=((j+1:Nat):Int):=by rw[Qbrg]<;>omega
  have hdj:es[i].fields.drop j=es[i].fields[j]::es[i].fields.drop (j+1):=qdC hltj
  have hxj:es[i].fields.getD (j:Int).toNat (Qmgd.C.dflt .fld)=es[i].fields[j]:=by simp[hltj]
  have hinj:inb (j:Int) es[i].fields.length=true:=by simp only[inb,qaT,qdT];omega
  have hv:=hz es[i] (List.getElem_mem hlt) es[i].fields[j] (List.getElem_mem hltj)
  have hfl:=Qpgn (n:=es[i].name) hv
  have nx:=ih (j+1) (x0++fldT es[i].name es[i].fields[j]) (by omega) h5 h12 (by rw[List.length_append];omega)
  rw[show x0++fldT es[i].name es[i].fields[j]=x0++formF (Chg.mk es[i].name es[i].fields[j].what es[i].fields[j].number es[i].fields[j].value)++#[(10:UInt8)].toList by simp[fldT]]at nx
  have e:x0++((es[i].fields[j]::es[i].fields.drop (j+1)).flatMap (fldT es[i].name)++(es.drop (i+1)).flatMap Qbhp)=x0++formF (Chg.mk es[i].name es[i].fields[j].what es[i].fields[j].number es[i].fields[j].value)++#[(10:UInt8)].toList++((es[i].fields.drop (j+1)).flatMap (fldT es[i].name)++(es.drop (i+1)).flatMap Qbhp):=by rw[List.flatMap_cons];simp[fldT]
  rw[hin,hx,hxj,hinj,hwj,hdj,e,show decide ((j:Int)<(es[i].fields.length:Int))=true from decide_eq_true (by omega),hv]
  simp only[Qd8q]
  have hf:(formF (Chg.mk es[i].name es[i].fields[j].what es[i].fields[j].number es[i].fields[j].value)).length≤1400000000:=by
   have h1:=Qnab (c:=(Chg.mk es[i].name es[i].fields[j].what es[i].fields[j].number es[i].fields[j].value))
   have h2:=of_decide_eq_true (show decide (es[i].fields[j].value.length≤1000000000)=true from hv)
   have h3:((Chg.mk es[i].name es[i].fields[j].what es[i].fields[j].number es[i].fields[j].value)).value.length=es[i].fields[j].value.length:=rfl
   omega
  have q:∀n:Nat,n≤2000000000000000→decide (n≤9223372036854775807)=true:=fun n h=>decide_eq_true (by omega)
  exact Sat.nd (q _ (by omega)) (Sat.nd (q _ (by simp;omega)) (Sat.cut nx))
theorem Qdxi(y B A C N X:Nat)(h1:B≤C)(h2:y+(A+C)≤N)(h3:N≤X+A):y+B≤X:=by omega
theorem Qsho(ks:List Kind)(ps:List Point)(es:List Entry)(hb:Qn0o ks ps es=true)(hz:∀e∈es,∀f∈e.fields,szV f.value=true):∀(d i:Nat) (x0:Str),i+d=es.length→x0.length+d*7500000000≤1000000000000 →
  Cut Qmgd Qq81 15 [.ptr 0 0,.str x0,.int .i64 (i:Int)] [.box [.sl .kind ks,.sl .point ps,.sl .entry es]] (.str (x0++(es.drop i).flatMap Qbhp)) []:=by
 obtain⟨h12,hf5⟩:=Qm34 hb
 intro d
 induction d with
 | zero =>
  intro i x0 hi hl
  refine Cut.of Qcj3 rfl (Q5qe x0 i ks ps es) ?_
  rw[List.drop_of_length_le (by omega),show decide ((i:Int)<(es.length:Int))=false from decide_eq_false (by omega),List.flatMap_nil,List.append_nil]
  exact Sat.ret rfl rfl
 | succ d ih =>
  intro i x0 hi hl
  refine Cut.of Qcj3 rfl (Q5qe x0 i ks ps es) ?_
  have hlt:i<es.length:=by omega
  have h5:=hf5 es[i] (List.getElem_mem hlt)
  rw[show decide ((i:Int)<(es.length:Int))=true from decide_eq_true (by omega),Qd8q,qdC hlt,List.flatMap_cons]
  have hm:∀m y d X:Nat,m≤5→y+(d+1)*7500000000≤1000000000000→1000000000000≤X+d*7500000000→y+m*1500000000≤X:=fun m y d X h1 h2 h3=>by
   have h4:m*1500000000≤7500000000:=Nat.le_trans (Nat.mul_le_mul_right _ h1) (Nat.le_of_eq rfl)
   rw[Nat.add_mul,Nat.one_mul]at h2
   exact Qdxi y (m*1500000000) (d*7500000000) 7500000000 1000000000000 X h4 h2 h3
  obtain⟨X,hX,hX2⟩:∃X:Nat,1000000000000≤X+d*7500000000∧X+d*7500000000≤1000000000000:=⟨1000000000000-d*7500000000,by omega,by omega⟩
  have h:=Q6n2 ks ps es hz i hlt X (by omega) (fun x h=>ih (i+1) x (by omega) (by omega)) es[i].fields.length 0 x0 (by omega) h5 h12 (hm _ _ _ _ h5 hl hX)
  rw[List.drop_zero]at h
  exact Sat.cut h
theorem Qo33(ks:List Kind)(ps:List Point)(es:List Entry)(hb:Qn0o ks ps es=true)(hz:∀e∈es,∀f∈e.fields,szV f.value=true):∀(d i:Nat) (x0:Str),i+d=ps.length→x0.length+d*100≤10000 →
  Cut Qmgd Qq81 10 [.ptr 0 0,.str x0,.int .i64 (i:Int)] [.box [.sl .kind ks,.sl .point ps,.sl .entry es]] (.str (x0++((ps.drop i).flatMap Q0f8++es.flatMap Qbhp))) []:=by
 have hb2:=hb
 simp only[Qn0o,Qib4,qaT,qdT]at hb2
 obtain⟨⟨b1,b2,b3,b4⟩,_⟩:=hb2
 intro d
 induction d with
 | zero =>
  intro i x0 hi hl
  refine Cut.of Qcj3 rfl (Q4fq x0 i ks ps es) ?_
  conv=>zeta
  rw[List.drop_of_length_le (by omega),show decide ((i:Int)<(ps.length:Int))=false from decide_eq_false (by omega),Qk7y,List.flatMap_nil,List.nil_append]
  exact Sat.cut (Qsho ks ps es hb hz es.length 0 x0 (by omega) (by obtain⟨h12,_⟩:=Qm34 hb;omega))
 | succ d ih =>
  intro i x0 hi hl
  refine Cut.of Qcj3 rfl (Q4fq x0 i ks ps es) ?_
  conv=>zeta
  have hlt:i<ps.length:=by omega
  have hw:IntKind.wrap .i64 ((i:Int)+1)=((i+1:Nat):Int):=by rw[Qbrg]<;>omega
  have hd:ps.drop i=ps[i]::ps.drop (i+1):=qdC hlt
  have hx:ps.getD (i:Int).toNat (Qmgd.C.dflt .point)=ps[i]:=by simp[hlt]
  have hin:inb (i:Int) ps.length=true:=by simp only[inb,qaT,qdT];omega
  have hlo:decide ((i:Int)<(ps.length:Int))=true:=decide_eq_true (by omega)
  have hl:(ps.take (i+1)).getLast? = some ps[i]:=by rw[qtS hlt,qlC]
  have hk:ps[i].ok=true:=Q1nj b4 _ (List.getElem_mem hlt)
  obtain⟨r1,r2,r3,r4,r5⟩:=Qa3t hk
  have nx:=ih (i+1) (x0++Q0f8 ps[i]) (by omega) (by have:=Qhew hk;rw[List.length_append];omega)
  rw[show x0++Q0f8 ps[i]=(x0++#[(112:UInt8),111,105,110,116,32].toList++ps[i].name++#[(32:UInt8)].toList++decS ps[i].x++#[(32:UInt8)].toList++decS ps[i].y++#[(10:UInt8)].toList) by simp[Q0f8,Qisw]]at nx
  have e:x0++((ps[i]::ps.drop (i+1)).flatMap Q0f8++es.flatMap Qbhp)=(x0++#[(112:UInt8),111,105,110,116,32].toList++ps[i].name++#[(32:UInt8)].toList++decS ps[i].x++#[(32:UInt8)].toList++decS ps[i].y++#[(10:UInt8)].toList)++((ps.drop (i+1)).flatMap Q0f8++es.flatMap Qbhp):=by rw[List.flatMap_cons];simp[Q0f8,Qisw]
  rw[hlo,hx,hw,hin,hd,e]
  simp only[Qd8q]
  have q:∀n:Nat,n≤2000000000000000→decide (n≤9223372036854775807)=true:=fun n h=>decide_eq_true (by omega)
  generalize ps[i].name=n at r1 nx ⊢
  generalize decS ps[i].x=da at r4 nx ⊢
  generalize decS ps[i].y=db at r5 nx ⊢
  exact Sat.nd (q _ (by simp;omega)) (Sat.nd (q _ (by simp;omega)) (Sat.nd (q _ (by simp;omega)) (Sat.nd r2 (Sat.nd (q _ (by simp;omega)) (Sat.nd (q _ (by simp;omega)) (Sat.nd r3 (Sat.nd (q _ (by simp;omega)) (Sat.nd (q _ (by simp;omega)) (Sat.cut nx)))))))))
theorem Q3ae(ks:List Kind)(ps:List Point)(es:List Entry)(hb:Qn0o ks ps es=true)(hz:∀e∈es,∀f∈e.fields,szV f.value=true):∀(d i:Nat) (x0:Str),i+d=ks.length→x0.length+d*100≤5000 →
  Cut Qmgd Qq81 5 [.ptr 0 0,.str x0,.int .i64 (i:Int)] [.box [.sl .kind ks,.sl .point ps,.sl .entry es]] (.str (x0++((ks.drop i).flatMap kindT++(ps.flatMap Q0f8++es.flatMap Qbhp)))) []:=by
 have hb2:=hb
 simp only[Qn0o,Qib4,qaT,qdT]at hb2
 obtain⟨⟨b1,b2,b3,b4⟩,_⟩:=hb2
 intro d
 induction d with
 | zero =>
  intro i x0 hi hl
  refine Cut.of Qcj3 rfl (Qu1q x0 i ks ps es) ?_
  conv=>zeta
  rw[List.drop_of_length_le (by omega),show decide ((i:Int)<(ks.length:Int))=false from decide_eq_false (by omega),Qk7y,List.flatMap_nil,List.nil_append]
  exact Sat.cut (Qo33 ks ps es hb hz ps.length 0 x0 (by omega) (by omega))
 | succ d ih =>
  intro i x0 hi hl
  refine Cut.of Qcj3 rfl (Qu1q x0 i ks ps es) ?_
  conv=>zeta
  have hlt:i<ks.length:=by omega
  have hw:IntKind.wrap .i64 ((i:Int)+1)=((i+1:Nat):Int):=by rw[Qbrg]<;>omega
  have hd:ks.drop i=ks[i]::ks.drop (i+1):=qdC hlt
  have hx:ks.getD (i:Int).toNat (Qmgd.C.dflt .kind)=ks[i]:=by simp[hlt]
  have hin:inb (i:Int) ks.length=true:=by simp only[inb,qaT,qdT];omega
  have hlo:decide ((i:Int)<(ks.length:Int))=true:=decide_eq_true (by omega)
  have hl:(ks.take (i+1)).getLast? = some ks[i]:=by rw[qtS hlt,qlC]
  have hk:ks[i].ok=true:=Q315 b3 _ (List.getElem_mem hlt)
  obtain⟨r1,r2,r3,r4,r5⟩:=Q9gv hk
  have nx:=ih (i+1) (x0++kindT ks[i]) (by omega) (by have:=Qgp5 hk;rw[List.length_append];omega)
  rw[show x0++kindT ks[i]=(x0++#[(107:UInt8),105,110,100,32].toList++ks[i].name++#[(32:UInt8)].toList++decS ks[i].quick++#[(32:UInt8)].toList++decS ks[i].slow++#[(10:UInt8)].toList) by simp[kindT,Qq2m]]at nx
  have e:x0++((ks[i]::ks.drop (i+1)).flatMap kindT++(ps.flatMap Q0f8++es.flatMap Qbhp))=(x0++#[(107:UInt8),105,110,100,32].toList++ks[i].name++#[(32:UInt8)].toList++decS ks[i].quick++#[(32:UInt8)].toList++decS ks[i].slow++#[(10:UInt8)].toList)++((ks.drop (i+1)).flatMap kindT++(ps.flatMap Q0f8++es.flatMap Qbhp)):=by rw[List.flatMap_cons];simp[kindT,Qq2m]
  rw[hlo,hx,hw,hin,hd,e]
  simp only[Qd8q]
  have q:∀n:Nat,n≤2000000000000000→decide (n≤9223372036854775807)=true:=fun n h=>decide_eq_true (by omega)
  generalize ks[i].name=n at r1 nx ⊢
  generalize decS ks[i].quick=da at r4 nx ⊢
  generalize decS ks[i].slow=db at r5 nx ⊢
  exact Sat.nd (q _ (by simp;omega)) (Sat.nd (q _ (by simp;omega)) (Sat.nd (q _ (by simp;omega)) (Sat.nd r2 (Sat.nd (q _ (by simp;omega)) (Sat.nd (q _ (by simp;omega)) (Sat.nd r3 (Sat.nd (q _ (by simp;omega)) (Sat.nd (q _ (by simp;omega)) (Sat.cut nx)))))))))
theorem Qy8q(ks:List Kind)(ps:List Point)(es:List Entry)(hg:szB es=true):Qewq Tryz.prog CP Qq81 [.agg [.sl .kind ks,.sl .point ps,.sl .entry es]] [] (.str (Q9kb ks ps es)) []:=by
 refine Qewq.of Qcj3 (by kernel_rfl) (Qvvd ks ps es) ?_
 rw[show szB es=true from hg,Qd8q,Q9kb]
 cases hb:Qn0o ks ps es with
 | false=>exact Sat.ret rfl rfl
 | true =>
  have hz:∀e∈es,∀f∈e.fields,szV f.value=true:=fun e he f hf=>by
   simp only[szB,qaT]at hg
   have h1:=qlA.1 hg.2 e he
   simp only[szE,qaT]at h1
   exact qlA.1 h1.2 f hf
  have hb2:=hb
  simp only[Qn0o,Qib4,qaT,qdT]at hb2
  rw[if_pos rfl]
  simp only[Bool.not_true,Qk7y]
  exact Sat.cut (Q3ae ks ps es hb hz ks.length 0 [] (by omega) (by simp;omega))
theorem Qosp:EntOK Tryz.prog CP Qq81 Qnk5:=by
 refine⟨eob (by kernel_rfl),fun _ _ _ _ h=>?_⟩
 simp only[Qnk5]at h
 split at h
 ·obtain⟨hg,rfl,rfl⟩:=eoh h
  exact Qy8q _ _ _ hg
 ·cases h
end Lx
namespace Lx
open Go Go.Proofs
structure BendP where
 s:Str
 p:Int
 deriving Inhabited
def Qp3x(p:Int)(x:BendP):Prop:=x.s.length≤100000∧p≤x.p∧x.p≤p+3
noncomputable def dBend(bs:List Int)(p:Int)(s:Str):BendP:=drawn (fun x=>Qewq Tryz.prog CP Qrls [.ptr 0 0,.str s] [.box [.sl .u8 bs,.int .i64 p]] (.str x.s) [.box [.sl .u8 bs,.int .i64 x.p]]∧Qp3x p x)
def bendK(bs:List Int)(p:Int)(s:Str):Bool:=Qf9o bs&&(decide (0≤p)&&(decide (p≤890000)&&decide (s.length≤2000)))
noncomputable def Q51w:Ent Ty El:=⟨[.io,.ro],0,fun a h=>match a,h with
 | [.ptr 0 0,.str s],[.box [.sl .u8 bs,.int .i64 p]]=>some (bendK bs p s,.str (dBend bs p s).s,[.box [.sl .u8 bs,.int .i64 (dBend bs p s).p]])
 | _,_=>none⟩
structure CokD where
 ks:List Kind
 ps:List Point
 c:Chg
 deriving Inhabited
structure StrD where
 s:Str
 deriving Inhabited
end Lx
namespace Lx
open Go Go.Proofs
noncomputable def Qfkx:RE Ty El:=⟨Tryz.prog,CP,[(Qpxs,Q7v2),(Qchm,Q2vb)],Tryz.f110,1,[],[]⟩
theorem Q2rt:REOK Qfkx Qrls:=⟨CP_ok,(TabOK.cons Q0e7 (TabOK.cons Qyvd Qye1)),by kernel_rfl,by kernel_rfl⟩
theorem Q7vk(bs:List Int)(p:Int)(s:Str):aRun Qfkx 600 false (body0 Qfkx.fn) (Q4gm Qfkx.fn [.ptr 0 0,.str s] [.box [.sl .u8 bs,.int .i64 p]]) =
 let z1:=(↑(List.length s):Int);let z0:=((IntKind.i64.wrap (pickV bs p (256:Int)*IntKind.i64.wrap (z1+1))).tdiv (256:Int));let z2:=(IntKind.i64.wrap z0);let z3:=(decide ((0:Int)≤(0:Int))&&(decide (0≤IntKind.i64.wrap z0)&&decide (IntKind.i64.wrap z0≤z1)));let z4:=(decide (0≤IntKind.i64.wrap z0)&&(decide (IntKind.i64.wrap z0≤z1)&&decide (z1≤z1)));let z5:=(List.drop (Int.toNat (0:Int)) s);let z6:=(z2.toNat-Int.toNat (0:Int));let z11:=(9223372036854775807:Nat);let z12:=(List.drop z2.toNat s);let z13:=(z1.toNat-z2.toNat);let z8:=(decide (List.length s+(List.take z13 z12).length≤z11));let z14:=(IntKind.i64.wrap z0+1);let z7:=(IntKind.i64.wrap z14);let z15:=(p+1+1);let z10:HL:=[.box [.sl .u8 bs,.int .i64 z15]];let z9:OL:=(some (.ret (.str (s++List.take z13 z12)) z10));let z16:=(120:UInt8);let z17:=(List.take z6 z5);let z18:=(ifb z4 (ifb z8 z9 none) none);ifb (posOk p) (ifb (posOk (p+1)) (ifb (pickV bs (p+1) (4:Int)==(0:Int)) (ifb z3 (some (.ret (.str z17) z10)) none) (ifb (pickV bs (p+1) (4:Int)==(1:Int)) (ifb z3 (ifb (rdOk bs z15&&decide ((0:Nat)<[#[(32:UInt8)].toList, #[(48:UInt8)].toList, #[(10:UInt8)].toList, #[(45:UInt8)].toList, #[z16].toList].length)) (ifb (decide (z17.length+List.length (ofV bs z15 [#[(32:UInt8)].toList, #[(48:UInt8)].toList, #[(10:UInt8)].toList, #[(45:UInt8)].toList, #[z16].toList])≤z11)) (ifb z4 (ifb (decide ((List.take z6 z5++ofV bs z15 [#[(32:UInt8)].toList, #[(48:UInt8)].toList, #[(10:UInt8)].toList, #[(45:UInt8)].toList, #[z16].toList]).length+(List.take z13 z12).length≤z11)) (some (.ret (.str (List.take z6 z5++ofV bs z15 [#[(32:UInt8)].toList, #[(48:UInt8)].toList, #[(10:UInt8)].toList, #[(45:UInt8)].toList, #[z16].toList]++List.take z13 z12)) [.box [.sl .u8 bs,.int .i64 (p+1+1+1)]])) none) none) none) none) none) (ifb (pickV bs (p+1) (4:Int)==(2:Int)) (ifb (decide (IntKind.i64.wrap z0<z1)) (ifb z3 (ifb (decide (0≤IntKind.i64.wrap z14)&&(decide (IntKind.i64.wrap z14≤z1)&&decide (z1≤z1))) (ifb (decide (z17.length+(List.take (z1.toNat-z7.toNat) (List.drop z7.toNat s)).length≤z11)) (some (.ret (.str (List.take z6 z5++List.take (z1.toNat-z7.toNat) (List.drop z7.toNat s))) z10)) none) none) none) z18) z18))) none) none:=by kernel_rfl
theorem Qwr2{bs:List Int}{p q:Int}{s:Str}(h1:s.length≤100000)(h2:p≤q)(h3:q≤p+3):∃x:BendP,(AV.str s:AV Ty El)=.str x.s∧([.box [.sl .u8 bs,.int .i64 q]]:List (AObj Ty El))=[.box [.sl .u8 bs,.int .i64 x.p]]∧Qp3x p x:=⟨⟨s,q⟩,rfl,rfl,h1,h2,h3⟩
theorem Qvgm(bs:List Int)(p:Int)(s:Str)(hg:bendK bs p s=true):Qewq Tryz.prog CP Qrls [.ptr 0 0,.str s] [.box [.sl .u8 bs,.int .i64 p]] (.str (dBend bs p s).s) [.box [.sl .u8 bs,.int .i64 (dBend bs p s).p]]∧Qp3x p (dBend bs p s):=by
 simp only[bendK,qaT,qdT]at hg
 obtain⟨hbs,h0,h9,hs⟩:=hg
 have ps0:∀(q:Int),p≤q→q≤p+10→posOk q=true:=fun q h2 h3=>Q8s4 (by omega) (by omega)
 have rd0:∀(q:Int),p≤q→q≤p+10→rdOk bs q=true:=fun q h2 h3=>by rw[rdOk,hbs,ps0 q h2 h3];rfl
 have hE:CallE Qfkx.P Qfkx.C Qrls [.ptr 0 0,.str s] [.box [.sl .u8 bs,.int .i64 p]] (fun v h=>∃x:BendP,v=.str x.s∧h=[.box [.sl .u8 bs,.int .i64 x.p]]∧Qp3x p x):=by
  refine CallE.of Q2rt (by kernel_rfl) (Q7vk bs p s) ?_
  conv=>zeta
  obtain⟨a1,a2⟩:=Q5va (n:=256) hbs (ps0 p (by omega) (by omega)) (by omega)
  obtain⟨k,hk⟩:=Int.eq_ofNat_of_zero_le a1
  rw[hk]at a2 ⊢
  have w1:IntKind.i64.wrap ((s.length:Int)+1)=((s.length+1:Nat):Int):=by rw[Qbrg]<;>omega
  have hkm:k*(s.length+1)≤255*(s.length+1):=Nat.mul_le_mul_right _ (by omega)
  have w2:IntKind.i64.wrap ((k:Int)*((s.length+1:Nat):Int))=((k*(s.length+1):Nat):Int):=by rw[show(k:Int)*((s.length+1:Nat):Int)=((k*(s.length+1):Nat):Int) from(Int.natCast_mul _ _).symm,Qbrg]<;>omega
  have w3:((k*(s.length+1):Nat):Int).tdiv 256=((k*(s.length+1) / 256:Nat):Int):=by rw[Int.tdiv_eq_ediv_of_nonneg (Int.natCast_nonneg _)];rfl
  have hj:k*(s.length+1) / 256≤s.length:=by omega
  have w4:IntKind.i64.wrap ((k*(s.length+1) / 256:Nat):Int)=((k*(s.length+1) / 256:Nat):Int):=by rw[Qbrg]<;>omega
  rw[w1,w2,w3,w4]
  generalize k*(s.length+1) / 256=j at hj ⊢
  have c0:(decide ((0:Int)≤0)&&(decide ((0:Int)≤(j:Int))&&decide ((j:Int)≤(s.length:Int))))=true:=by simp only[qaT,qdT];omega
  have c1:(decide ((0:Int)≤(j:Int))&&(decide ((j:Int)≤(s.length:Int))&&decide ((s.length:Int)≤(s.length:Int))))=true:=by simp only[qaT,qdT];omega
  have t0:∀a b:Nat,(List.take a (List.drop b s)).length≤2000:=fun a b=>by rw[List.length_take,List.length_drop];omega
  have q:∀n:Nat,n≤2000000000→decide (n≤9223372036854775807)=true:=fun n h=>decide_eq_true (by omega)
  have hx:∀l,(l.all fun s=>decide (s.length≤100))=true→(ofV bs (p+1+1) l).length≤100:=fun l h=>Qgo3 (M:=100) h
  refine SatE.need (ps0 _ (by omega) (by omega)) (SatE.need (ps0 _ (by omega) (by omega)) (SatE.ifb (fun _=>?_) (fun _=>SatE.ifb (fun _=>?_) (fun _=>SatE.ifb (fun _=>?_) (fun _=>?_)))))
  ·exact SatE.need c0 (SatE.ret (Qwr2 (Nat.le_trans (t0 _ _) (by omega)) (by omega) (by omega)))
  ·refine SatE.need c0 (SatE.need (by rw[rd0 _ (by omega) (by omega)];rfl) ?_)
   have h5:=hx [#[(32:UInt8)].toList, #[(48:UInt8)].toList, #[(10:UInt8)].toList, #[(45:UInt8)].toList, #[(120:UInt8)].toList] rfl
   generalize ofV bs (p+1+1) [#[(32:UInt8)].toList, #[(48:UInt8)].toList, #[(10:UInt8)].toList, #[(45:UInt8)].toList, #[(120:UInt8)].toList]=y at h5 ⊢
   have ta:=t0 ((j:Int).toNat-Int.toNat 0) (Int.toNat 0)
   have tb:=t0 ((s.length:Int).toNat-(j:Int).toNat) (j:Int).toNat
   generalize List.take ((j:Int).toNat-Int.toNat 0) (List.drop (Int.toNat 0) s)=xa at ta ⊢
   generalize List.take ((s.length:Int).toNat-(j:Int).toNat) (List.drop (j:Int).toNat s)=xb at tb ⊢
   exact SatE.need (q _ (by omega)) (SatE.need c1 (SatE.need (q _ (by rw[List.length_append];omega)) (SatE.ret (Qwr2 (by rw[List.length_append,List.length_append];omega) (by omega) (by omega)))))
  ·refine SatE.ifb (fun hlt=>?_) (fun _=>?_)
   ·have hl:=of_decide_eq_true hlt
    have w5:IntKind.i64.wrap ((j:Int)+1)=((j+1:Nat):Int):=by rw[Qbrg]<;>omega
    rw[w5]
    have c2:(decide ((0:Int)≤((j+1:Nat):Int))&&(decide (((j+1:Nat):Int)≤(s.length:Int))&&decide ((s.length:Int)≤(s.length:Int))))=true:=by simp only[qaT,qdT];omega
    have ta:=t0 ((j:Int).toNat-Int.toNat 0) (Int.toNat 0)
    have tb:=t0 ((s.length:Int).toNat-((j+1:Nat):Int).toNat) ((j+1:Nat):Int).toNat
    generalize List.take ((j:Int).toNat-Int.toNat 0) (List.drop (Int.toNat 0) s)=xa at ta ⊢
    generalize List.take ((s.length:Int).toNat-((j+1:Nat):Int).toNat) (List.drop ((j+1:Nat):Int).toNat s)=xb at tb ⊢
    exact SatE.need c0 (SatE.need c2 (SatE.need (q _ (by omega)) (SatE.ret (Qwr2 (by rw[List.length_append];omega) (by omega) (by omega)))))
   ·have tb:=t0 ((s.length:Int).toNat-(j:Int).toNat) (j:Int).toNat
    generalize List.take ((s.length:Int).toNat-(j:Int).toNat) (List.drop (j:Int).toNat s)=xb at tb ⊢
    exact SatE.need c1 (SatE.need (q _ (by omega)) (SatE.ret (Qwr2 (by rw[List.length_append];omega) (by omega) (by omega))))
  ·have tb:=t0 ((s.length:Int).toNat-(j:Int).toNat) (j:Int).toNat
   generalize List.take ((s.length:Int).toNat-(j:Int).toNat) (List.drop (j:Int).toNat s)=xb at tb ⊢
   exact SatE.need c1 (SatE.need (q _ (by omega)) (SatE.ret (Qwr2 (by rw[List.length_append];omega) (by omega) (by omega))))
 obtain⟨v,H',h,x,rfl,rfl,hx⟩:=hE
 unfold dBend
 exact Qk78 (p:=fun x:BendP=>Qewq Tryz.prog CP Qrls [.ptr 0 0,.str s] [.box [.sl .u8 bs,.int .i64 p]] (.str x.s) [.box [.sl .u8 bs,.int .i64 x.p]]∧Qp3x p x) ⟨x,h,hx⟩
theorem Qc3v(bs:List Int)(p:Int)(s:Str)(hg:bendK bs p s=true):Qewq Tryz.prog CP Qrls [.ptr 0 0,.str s] [.box [.sl .u8 bs,.int .i64 p]] (.str (dBend bs p s).s) [.box [.sl .u8 bs,.int .i64 (dBend bs p s).p]]:=by
 exact(Qvgm bs p s hg).1
theorem Qz1o:EntOK Tryz.prog CP Qrls Q51w:=by
 refine⟨eob (by kernel_rfl),fun _ _ _ _ h=>?_⟩
 simp only[Q51w]at h
 split at h
 ·obtain⟨hg,rfl,rfl⟩:=eoh h
  exact Qc3v _ _ _ hg
 ·cases h

end Lx
namespace Lx
open Go Go.Proofs
def Qmqn:Ent Ty El:=⟨[.ro,.ro],1,fun a h=>match a,h with
 | [.str s,.int .u8 c],[]=>some (decide (s.length≤1000000000),.own 0 [] 0,[.row .str (cutS c s) 0 0 0 .no])
 | _,_=>none⟩
def lastE(s:Str):Bool:=(cutS 10 s).getD ((cutS 10 s).length-1) []==[]
def Qk1q:Ent Ty El:=⟨[.ro],1,fun a h=>match a,h with
 | [.str s],[]=>some (szS s&&lastE s,.view 0 [] 0 1 0 ((cutS 10 s).length-1),[.row .str (cutS 10 s) 0 0 0 .no])
 | _,_=>none⟩
noncomputable def Qalz(s:Str)(n:Int):Str:=drawn (fun x=>Qewq Tryz.prog CP Q1eg [.str s,.int .i64 n] [] (.str x) []∧x.length≤1000000)
noncomputable def Qysi:Ent Ty El:=⟨[.ro,.ro],0,fun a h=>match a,h with
 | [.str s,.int .i64 n],[]=>some (decide (s.length≤1)&&decide (n<16384),.str (Qalz s n),[])
 | _,_=>none⟩
structure TxtP where
 l:List Str
 p:Int
 deriving Inhabited
def okLn(s:Str):Bool:=decide (1≤s.length)&&decide (s.length≤200)
def Qtcz(p:Int)(x:TxtP):Prop:=1≤x.l.length∧x.l.length≤100∧(∀s∈x.l,okLn s=true)∧p≤x.p∧x.p≤p+2000
noncomputable def dText(bs:List Int)(p:Int):TxtP:=drawn (fun x=>Qewq Tryz.prog CP Qg1t [.ptr 0 0] [.box [.sl .u8 bs,.int .i64 p]] (.sl .str x.l) [.box [.sl .u8 bs,.int .i64 x.p]]∧Qtcz p x)
def txK(bs:List Int)(p:Int):Bool:=Qf9o bs&&(decide (0≤p)&&decide (p≤800000))
noncomputable def Qvdz:Ent Ty El:=⟨[.io],0,fun a h=>match a,h with
 | [.ptr 0 0],[.box [.sl .u8 bs,.int .i64 p]]=>some (txK bs p,.sl .str (dText bs p).l,[.box [.sl .u8 bs,.int .i64 (dText bs p).p]])
 | _,_=>none⟩
structure LsP where
 l:List Str
 p:Int
 deriving Inhabited
def Qw67(p:Int)(x:LsP):Prop:=x.l.length≤400∧(∀s∈x.l,s.length≤100000)∧p≤x.p∧x.p≤p+100
noncomputable def dSpl(bs:List Int)(p:Int)(ls:List Str):LsP:=drawn (fun x=>Qewq Tryz.prog CP Qvwl [.ptr 0 0,.sl .str ls] [.box [.sl .u8 bs,.int .i64 p]] (.own 1 [] 0) [.box [.sl .u8 bs,.int .i64 x.p],.row .str x.l 0 0 0 .no]∧Qw67 p x)
def splK(bs:List Int)(p:Int)(ls:List Str):Bool:=Qf9o bs&&(decide (0≤p)&&(decide (p≤880000)&&(decide (1≤ls.length)&&(decide (ls.length≤100)&&ls.all fun s=>decide (s.length≤200)))))
noncomputable def Q4gc:Ent Ty El:=⟨[.io,.ro],1,fun a h=>match a,h with
 | [.ptr 0 0,.sl .str ls],[.box [.sl .u8 bs,.int .i64 p]]=>some (splK bs p ls,.own 1 [] 0,[.box [.sl .u8 bs,.int .i64 (dSpl bs p ls).p],.row .str (dSpl bs p ls).l 0 0 0 .no])
 | _,_=>none⟩
structure PsD where
 s:Str
 deriving Inhabited
def Q2vc(x:PsD):Prop:=szS x.s=true
noncomputable def Qerj(c:List Int):PsD:=drawn (fun x=>Qewq Tryz.prog CP Qolp [.sl .u8 c] [] (.str x.s) []∧Q2vc x)
noncomputable def Q97b:Ent Ty El:=⟨[.ro],0,fun a h=>match a,h with
 | [.sl .u8 c],[]=>some (Qf9o c,.str (Qerj c).s,[])
 | _,_=>none⟩
theorem Qybm{ks:List Kind}{ps:List Point}{es:List Entry}(hb:Qn0o ks ps es=true):∀l∈Q59c ks ps es,okLn l=true:=by
 have h1:=(Q9lg hb).1
 have e0:(es.flatMap fun e=>e.fields.map (fldW e.name))=(chgs es).map formF:=by
  rw[chgs,List.map_flatMap]
  congr 1
  funext e
  rw[chE,List.map_map];rfl
 have hok:=Qef7 hb
 intro l hl
 have h2:=(h1 l hl).2
 have h3:1≤l.length:=by
  rw[Q59c,e0]at hl
  rcases List.mem_append.1 hl with hl|hl
  ·obtain⟨k,_,rfl⟩:=List.mem_map.1 hl
   simp[kindW,Qq2m]
  ·rcases List.mem_append.1 hl with hl|hl
   ·obtain⟨k,_,rfl⟩:=List.mem_map.1 hl
    simp[Qz58,Qisw]
   ·obtain⟨c,hc,rfl⟩:=List.mem_map.1 hl
    rw[show formF c=formB c from if_pos (Qfpc (hok c hc).1)]
    simp[formB,wSet]
 simp only[okLn,qaT,qdT];omega
theorem Qa0v{ks:List Kind}{ps:List Point}{es:List Entry}(hb:Qn0o ks ps es=true):cutS 10 (Q9kb ks ps es)=Q59c ks ps es++[[]]:=by
 rw[Qzb6 hb]
 exact Q6dw (10:UInt8) (fun l hl=>Qdgc ((Q9lg hb).1 l hl).1)
theorem Q3xg{m:Nat}:∀{l:List Str},(∀s∈l,s.length≤m)→(joinL l).length≤l.length*(m+1)
 | [],_=>by simp[joinL]
 | a::l,h=>by
  have h1:=Q3xg (l:=l) (fun s hs=>h s (List.mem_cons_of_mem _ hs))
  have h2:=h a (List.mem_cons_self ..)
  have e:joinL (a::l)=a++[10]++joinL l:=by rw[joinL,List.flatMap_cons];rfl
  rw[e,List.length_cons,Nat.succ_mul]
  simp only[List.length_append,List.length_cons,List.length_nil]
  omega
theorem Qf3p{bs:List Int}{q:Int}{l:List Str}{m:Nat}(h:∀s∈l,s.length≤m):(ofV bs q l).length≤m:=by
 unfold ofV
 rw[qgD]
 cases e:l[(pickV bs q l.length).toNat]? with
 | none=>simp
 | some s=>exact h s (qmG e)
end Lx
