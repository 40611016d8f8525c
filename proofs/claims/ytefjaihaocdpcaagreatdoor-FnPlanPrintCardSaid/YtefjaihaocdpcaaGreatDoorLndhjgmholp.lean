/- Plain: a book's text is short; the text reads back as the book. -/
import Derived.Test.YtefjaihaocdpcaaGreatDoorLmplfefklba
import Derived.Test.YtefjaihaocdpcaaGreatDoorLjccgipdmeg
set_option linter.unusedVariables false
set_option linter.unusedSimpArgs false
namespace Lx
open Go Go.Proofs
theorem Qotk{s:Str}(h:0≤numF s):s.length≤7:=by
 unfold numF at h
 split at h
 ·rename_i hh;exact hh.2.1
 ·omega
theorem Qxmc{m:Nat}:∀{l:List Str},(∀w∈l,w.length≤m)→lensL l≤l.length*m
 | [],_=>Nat.zero_le _
 | w::l,h=>by
  have h1:=h w (List.mem_cons_self ..)
  have h2:=Qxmc (m:=m) (l:=l) (fun x hx=>h x (List.mem_cons_of_mem _ hx))
  simp only[lensL,List.length_cons,Nat.add_mul,Nat.one_mul]
  omega
theorem Qrjt{n:Str}(h:Q2rq n=true):n.length≤8:=by
 simp only[Q2rq,qaT,qdT]at h;exact h.2.1
theorem Qull{ks:List Kind}{ps:List Point}{w:Int}{v:Str}(hb:Qib4 ks ps=true)(h:fitsV ks ps w v=true):v.length≤75:=by
 simp only[Qib4,qaT,qdT]at hb
 obtain⟨_,_,b3,b4⟩:=hb
 have hc:=Q72i 32 v
 unfold fitsV at h
 split at h
 ·obtain⟨k,hk,e⟩:=Q9yp.1 (of_decide_eq_true h)
  have:=Qrjt (Qine b3 k hk)
  rw[eq_of_beq e]at this;omega
 ·split at h
  ·unfold Q2es at h
   split at h
   ·rename_i a b e
    simp only[inR,qaT,qdT]at h
    rw[e]at hc
    have h1:=Qotk h.1
    have h2:=Qotk (s:=b) (by omega)
    simp only[lensL,List.length_cons,List.length_nil]at hc
    omega
   ·cases h
  ·split at h
   ·simp only[inR,qaT,qdT]at h
    have:=Qotk (s:=v) (by omega);omega
   ·split at h
    ·simp only[Qyhl,inR,qaT,qdT]at h
     have hl:=Qxmc (m:=8) (fun x hx=>Qrjt (Q7cm (Q21i b4) h.2 x hx))
     omega
    ·split at h
     ·simp only[Bool.or_eq_true,beq_iff_eq]at h
      rcases h with rfl|rfl<;>decide
     ·cases h
theorem Qdcu{s:Str}(hd:s.all isDig=true):hasNL s=false:=by
 unfold hasNL
 rw[List.any_eq_false]
 intro b hb
 have:=qlA.1 hd b hb
 simp only[isDig,qaT,qdT]at this
 simp only[beq_iff_eq];omega
theorem Qdgc{s:Str}(h:hasNL s=false):noC 10 s=true:=by
 unfold hasNL at h
 rw[List.any_eq_false]at h
 refine qlA.2 fun b hb=>?_
 have:=h b hb
 simp only[beq_iff_eq]at this
 simp only[Bool.not_eq_true',beq_eq_false_iff_ne,ne_eq];omega
theorem Qbo3{a b:Str}(h1:hasNL a=false)(h2:hasNL b=false):hasNL (a++b)=false:=by
 unfold hasNL at *;rw[List.any_append,h1,h2];rfl
theorem nl_sp{b:Str}(h:hasNL b=false):hasNL (32::b)=false:=by
 unfold hasNL at *;rw[List.any_cons,h];rfl
theorem Qrhd{k:Int}(h:inR k 1 5=true):hasNL (Qkm3.getD k.toNat [])=false:=by
 simp only[inR,qaT,qdT]at h
 obtain⟨n,rfl⟩:=Int.eq_ofNat_of_zero_le (show 0≤k by omega)
 rw[Int.toNat_natCast]
 match n,h with
 | 0,h=>omega
 | 1,_=>decide
 | 2,_=>decide
 | 3,_=>decide
 | 4,_=>decide
 | 5,_=>decide
 | n+6,h=>omega
theorem Q2zy{k:Kind}(h:k.ok=true):hasNL (kindW k)=false∧(kindW k).length≤110:=by
 have hn:Q2rq k.name=true:=by simp only[Kind.ok,qaT]at h;exact h.1
 refine⟨Qbo3 (by decide) (nl_sp (Qbo3 (Qkck hn).2 (nl_sp (Qbo3 (Qdcu (Qtlb _)) (nl_sp (Qdcu (Qtlb _))))))), ?_⟩
 have:=Qgp5 h
 have e:(kindT k).length=(kindW k).length+1:=by simp[kindT,kindW];omega
 omega
theorem Qllr{k:Point}(h:k.ok=true):hasNL (Qz58 k)=false∧(Qz58 k).length≤110:=by
 have hn:Q2rq k.name=true:=by simp only[Point.ok,qaT]at h;exact h.1
 refine⟨Qbo3 (by decide) (nl_sp (Qbo3 (Qkck hn).2 (nl_sp (Qbo3 (Qdcu (Qtlb _)) (nl_sp (Qdcu (Qtlb _))))))), ?_⟩
 have:=Qhew h
 have e:(Q0f8 k).length=(Qz58 k).length+1:=by simp[Q0f8,Qz58];omega
 omega
theorem Qqyp{ks:List Kind}{ps:List Point}{c:Chg}(h:Qs7k ks ps c=true):hasNL (formF c)=false∧(formF c).length≤110:=by
 have hf:=Qfpc h
 have e:formF c=formB c:=if_pos hf
 have h':=h
 simp only[Qs7k,qaT]at h'
 obtain⟨h1,h2,h3,h4⟩:=h'
 have hl:=Qull h3 h4
 obtain⟨q1,q2,q3⟩:=Qjih h3 h4
 have n1:=Qrjt h1
 have n2:=Q9ne c.what
 simp only[inR,qaT,qdT]at h2
 have n3:=Qj32 (n:=c.number) (by simp only[inR,qaT,qdT];omega)
 rw[e]
 refine⟨Qbo3 (by decide) (nl_sp (Qbo3 (Qkck h1).2 (nl_sp (Qbo3 (Qrhd q1) (nl_sp (Qbo3 (Qdcu (Qtlb _)) (nl_sp q3))))))), ?_⟩
 simp only[formB,wSet,List.length_append,List.length_cons,List.length_nil]
 omega
theorem Q9lg{ks:List Kind}{ps:List Point}{es:List Entry}(hb:Qn0o ks ps es=true):(∀l∈Q59c ks ps es,hasNL l=false∧l.length≤110)∧(Q59c ks ps es).length≤82:=by
 have hb2:=hb
 simp only[Qn0o,Qib4,qaT,qdT]at hb2
 obtain⟨⟨b1,b2,b3,b4⟩,b5,_⟩:=hb2
 have e0:(es.flatMap fun e=>e.fields.map (fldW e.name))=(chgs es).map formF:=by
  rw[chgs,List.map_flatMap]
  congr 1
  funext e
  rw[chE,List.map_map];rfl
 obtain⟨h12,h5⟩:=Qm34 hb
 have hc:=Qzzx h5
 have hok:=Qef7 hb
 have:es.length*5≤12*5:=Nat.mul_le_mul_right 5 h12
 refine⟨fun l hl=>?_, ?_⟩
 ·rw[Q59c,e0]at hl
  rcases List.mem_append.1 hl with hl|hl
  ·obtain⟨k,hk,rfl⟩:=List.mem_map.1 hl
   exact Q2zy (Q315 b3 k hk)
  ·rcases List.mem_append.1 hl with hl|hl
   ·obtain⟨k,hk,rfl⟩:=List.mem_map.1 hl
    exact Qllr (Q1nj b4 k hk)
   ·obtain⟨c,hc,rfl⟩:=List.mem_map.1 hl
    exact Qqyp (hok c hc).1
 ·rw[Q59c,e0]
  simp only[List.length_append,List.length_map]
  omega
theorem Q6ac:∀{ls:List Str},(∀l∈ls,l.length≤110)→(ls.flatMap fun l=>l++[(10:UInt8)]).length≤ls.length*111
 | [],_=>Nat.zero_le _
 | l::ls,h=>by
  have h1:=h l (List.mem_cons_self ..)
  have h2:=Q6ac (ls:=ls) (fun x hx=>h x (List.mem_cons_of_mem _ hx))
  rw[List.flatMap_cons,List.length_append,List.length_append,List.length_cons,List.length_cons,List.length_nil]
  omega
theorem Q9t4{ks:List Kind}{ps:List Point}{es:List Entry}(hb:Qn0o ks ps es=true):Qob6 (Q9kb ks ps es)=⟨ks,ps,es,0,0⟩∧(Q9kb ks ps es).length≤10000:=by
 obtain⟨h1,h2⟩:=Q9lg hb
 have hl:=Q6ac (fun l hl=>(h1 l hl).2)
 have hc:=Qmnp (fun l hl=>Qdgc (h1 l hl).1)
 have h3:(Q59c ks ps es).length*111≤82*111:=Nat.mul_le_mul_right 111 h2
 rw[Qzb6 hb]
 refine⟨?_,by omega⟩
 rw[Qob6,if_neg (by rw[hc];omega),hc,Q0qm hb]
end Lx
namespace Lx
open Go Go.Proofs
theorem Qw30{ks:List Kind}{ps:List Point}{es:List Entry}(h:goodB ks ps es=true):Q2xe ks ks ps ps es es=true:=by
 simp only[goodB,Q8cx,Q6lz,Qjyp,qaT,qdT,and_true]at h
 simp only[Q2xe,sameK,qaT,qdT,and_true]
 exact⟨⟨h.2.1,h.2.2.1⟩,h.2.2.2⟩
end Lx
set_option maxRecDepth 4000
namespace Lx
open Go Go.Proofs
noncomputable def Qti9:RE Ty El:=⟨Tryz.prog,CP,[(Qaev,Qjv4),(Qvow,Qo6n),(Qfq7,Qvn1)],Tryz.f60,0,[],[(6,[(1,.any),(3,.any),(4,.any),(18,.any),(19,.any),(20,.any)]),(11,[(1,.any),(3,.any),(4,.any),(44,.any),(45,.any),(46,.any)]),(16,[(3,.any),(69,.any),(70,.any),(71,.any)]),(19,[(3,.any),(10,.any),(69,.any),(70,.any),(71,.any),(76,.any),(77,.any),(78,.any)])]⟩
theorem Q9js:REOK Qti9 Qqrh:=⟨CP_ok,(TabOK.cons Qwza (TabOK.cons Quvh (TabOK.cons Q80o Qye1))),by kernel_rfl,by kernel_rfl⟩
theorem Qdi0(ks:List Kind)(ps:List Point)(es:List Entry):aRun Qti9 600 false (body0 Qti9.fn) (Q4gm Qti9.fn [.agg [.sl .kind ks,.sl .point ps,.sl .entry es]] []) =
 ifb (szB es) (ifb (!Qn0o ks ps es) (some (.ret (.str #[].toList) [])) (some (.go (Qu6t Qti9.fn 6) [.ptr 0 0,.ptr 1 0,.fn (Fn.func (102:Nat)) [],.sl .kind ks,.int .i64 (↑ks.length:Int),.int .i64 0] [.box [.sl .kind ks,.sl .point ps,.sl .entry es],.bld []]))) (none):=by kernel_rfl
theorem Qrvm(x0:List (El .kind))(x1:Int)(x2:Int)(x3:List (El .kind))(x4:List (El .point))(x5:List (El .entry))(x6:Str):aRun Qti9 600 true (Qu6t Qti9.fn 6) (cutSt Qti9.fn (Q1m4 Qti9 (Qu6t Qti9.fn 6)) [.ptr 0 0,.ptr 1 0,.fn (Fn.func (102:Nat)) [],.sl .kind x0,.int .i64 x1,.int .i64 x2] [.box [.sl .kind x3,.sl .point x4,.sl .entry x5],.bld x6]) =
 let z0:=(x0.getD x2.toNat (Qti9.C.dflt Ty.kind));let z2:=(32:UInt8);let z3:=(9223372036854775807:Nat);let z4:=(107:UInt8);let z5:=(105:UInt8);let z6:=(110:UInt8);let z7:=(100:UInt8);let z1:=(#[z4,z5,z6,z7,z2].toList++z0.name++#[z2].toList++decS z0.quick++#[z2].toList++decS z0.slow++#[(10:UInt8)].toList);ifb (decide (x2<x1)) (ifb (inb x2 x0.length) (ifb (decide (#[z4,z5,z6,z7,z2].toList.length+List.length z0.name≤z3)) (ifb (decide ((#[z4,z5,z6,z7,z2].toList++z0.name).length+#[z2].toList.length≤z3)) (ifb (inR z0.quick (0:Int) (1000000000:Int)) (ifb (decide ((#[z4,z5,z6,z7,z2].toList++z0.name++#[z2].toList).length+List.length (decS z0.quick)≤z3)) (ifb (decide ((#[z4,z5,z6,z7,z2].toList++z0.name++#[z2].toList++decS z0.quick).length+#[z2].toList.length≤z3)) (ifb (inR z0.slow (0:Int) (1000000000:Int)) (ifb (decide ((#[z4,z5,z6,z7,z2].toList++z0.name++#[z2].toList++decS z0.quick++#[z2].toList).length+List.length (decS z0.slow)≤z3)) (ifb (decide ((#[z4,z5,z6,z7,z2].toList++z0.name++#[z2].toList++decS z0.quick++#[z2].toList++decS z0.slow).length+#[(10:UInt8)].toList.length≤z3)) (ifb (decide (List.length x6+z1.length≤(140737488355328:Nat))) (some (.go (Qu6t Qti9.fn 6) [.ptr 0 0,.ptr 1 0,.fn (Fn.func (102:Nat)) [],.sl .kind x0,.int .i64 x1,.int .i64 (IntKind.i64.wrap (x2+1))] [.box [.sl .kind x3,.sl .point x4,.sl .entry x5],.bld (x6++z1)])) (none)) (none)) (none)) (none)) (none)) (none)) (none)) (none)) (none)) (none)) (some (.go (Qu6t Qti9.fn 11) [.ptr 0 0,.ptr 1 0,.fn (Fn.func (102:Nat)) [],.sl .point x4,.int .i64 (↑x4.length:Int),.int .i64 0] [.box [.sl .kind x3,.sl .point x4,.sl .entry x5],.bld x6])):=by kernel_rfl
theorem Qpiu(x0:List (El .point))(x1:Int)(x2:Int)(x3:List (El .kind))(x4:List (El .point))(x5:List (El .entry))(x6:Str):aRun Qti9 600 true (Qu6t Qti9.fn 11) (cutSt Qti9.fn (Q1m4 Qti9 (Qu6t Qti9.fn 11)) [.ptr 0 0,.ptr 1 0,.fn (Fn.func (102:Nat)) [],.sl .point x0,.int .i64 x1,.int .i64 x2] [.box [.sl .kind x3,.sl .point x4,.sl .entry x5],.bld x6]) =
 let z0:=(x0.getD x2.toNat (Qti9.C.dflt Ty.point));let z2:=(32:UInt8);let z3:=(9223372036854775807:Nat);let z4:=(112:UInt8);let z5:=(111:UInt8);let z6:=(105:UInt8);let z7:=(110:UInt8);let z8:=(116:UInt8);let z1:=(#[z4,z5,z6,z7,z8,z2].toList++z0.name++#[z2].toList++decS z0.x++#[z2].toList++decS z0.y++#[(10:UInt8)].toList);ifb (decide (x2<x1)) (ifb (inb x2 x0.length) (ifb (decide (#[z4,z5,z6,z7,z8,z2].toList.length+List.length z0.name≤z3)) (ifb (decide ((#[z4,z5,z6,z7,z8,z2].toList++z0.name).length+#[z2].toList.length≤z3)) (ifb (inR z0.x (0:Int) (1000000000:Int)) (ifb (decide ((#[z4,z5,z6,z7,z8,z2].toList++z0.name++#[z2].toList).length+List.length (decS z0.x)≤z3)) (ifb (decide ((#[z4,z5,z6,z7,z8,z2].toList++z0.name++#[z2].toList++decS z0.x).length+#[z2].toList.length≤z3)) (ifb (inR z0.y (0:Int) (1000000000:Int)) (ifb (decide ((#[z4,z5,z6,z7,z8,z2].toList++z0.name++#[z2].toList++decS z0.x++#[z2].toList).length+List.length (decS z0.y)≤z3)) (ifb (decide ((#[z4,z5,z6,z7,z8,z2].toList++z0.name++#[z2].toList++decS z0.x++#[z2].toList++decS z0.y).length+#[(10:UInt8)].toList.length≤z3)) (ifb (decide (List.length x6+z1.length≤(140737488355328:Nat))) (some (.go (Qu6t Qti9.fn 11) [.ptr 0 0,.ptr 1 0,.fn (Fn.func (102:Nat)) [],.sl .point x0,.int .i64 x1,.int .i64 (IntKind.i64.wrap (x2+1))] [.box [.sl .kind x3,.sl .point x4,.sl .entry x5],.bld (x6++z1)])) (none)) (none)) (none)) (none)) (none)) (none)) (none)) (none)) (none)) (none)) (some (.go (Qu6t Qti9.fn 16) [.ptr 0 0,.sl .entry x5,.int .i64 (↑x5.length:Int),.int .i64 0] [.bld x6])):=by kernel_rfl
theorem Q2wc(x0:List (El .entry))(x1:Int)(x2:Int)(x3:Str):aRun Qti9 600 true (Qu6t Qti9.fn 16) (cutSt Qti9.fn (Q1m4 Qti9 (Qu6t Qti9.fn 16)) [.ptr 0 0,.sl .entry x0,.int .i64 x1,.int .i64 x2] [.bld x3]) =
 let z0:=(x0.getD x2.toNat (Qti9.C.dflt Ty.entry));ifb (decide (x2<x1)) (ifb (inb x2 x0.length) (some (.go (Qu6t Qti9.fn 19) [.ptr 0 0,.ptr 1 0,.sl .entry x0,.int .i64 x1,.int .i64 x2,.sl .fld (z0.fields),.int .i64 ((↑z0.fields.length:Int)),.int .i64 0] [.bld x3,.box [.str (z0.name),.sl .fld (z0.fields)]])) (none)) (some (.ret (.str x3) [])):=by kernel_rfl
theorem Q3b6(x0:List (El .entry))(x1:Int)(x2:Int)(x3:List (El .fld))(x4:Int)(x5:Int)(x6:Str)(x7:Str)(x8:List (El .fld)):aRun Qti9 600 true (Qu6t Qti9.fn 19) (cutSt Qti9.fn (Q1m4 Qti9 (Qu6t Qti9.fn 19)) [.ptr 0 0,.ptr 1 0,.sl .entry x0,.int .i64 x1,.int .i64 x2,.sl .fld x3,.int .i64 x4,.int .i64 x5] [.bld x6,.box [.str x7,.sl .fld x8]]) =
 let z0:=(x3.getD x5.toNat (Qti9.C.dflt Ty.fld));let z1:=(Chg.mk x7 z0.what z0.number z0.value);let z2:=(formF z1++#[(10:UInt8)].toList);ifb (decide (x5<x4)) (ifb (inb x5 x3.length) (ifb (szV z0.value) (ifb (decide (List.length (formF z1)+#[(10:UInt8)].toList.length≤(9223372036854775807:Nat))) (ifb (decide (List.length x6+z2.length≤(140737488355328:Nat))) (some (.go (Qu6t Qti9.fn 19) [.ptr 0 0,.ptr 1 0,.sl .entry x0,.int .i64 x1,.int .i64 x2,.sl .fld x3,.int .i64 x4,.int .i64 (IntKind.i64.wrap (x5+1))] [.bld (x6++z2),.box [.str x7,.sl .fld x8]])) (none)) (none)) (none)) (none)) (some (.go (Qu6t Qti9.fn 16) [.ptr 0 0,.sl .entry x0,.int .i64 x1,.int .i64 (IntKind.i64.wrap (x2+1))] [.bld x6])):=by kernel_rfl
theorem Qcq3{n:Int}(h:inR n 0 9999999=true):inR n 0 1000000000=true:=by
 simp only[inR,qaT,qdT]at h ⊢;omega
theorem Qpzv(es:List Entry)(hz:∀e∈es,∀f∈e.fields,szV f.value=true)(i:Nat)(hlt:i<es.length)(h12:es.length≤12)(h5:es[i].fields.length≤5)(X:Nat)(hX:X≤1000000000000)(nxt:∀x0:Str,x0.length≤X→Cut Qti9 Qqrh 16 [.ptr 0 0,.sl .entry es,.int .i64 (es.length:Int),.int .i64 ((i+1:Nat):Int)] [.bld x0] (.str (x0++(es.drop (i+1)).flatMap Qbhp)) []):∀(d j:Nat) (x0:Str),j+d=es[i].fields.length→x0.length+d*1500000000≤X →
  Cut Qti9 Qqrh 19 [.ptr 0 0,.ptr 1 0,.sl .entry es,.int .i64 (es.length:Int),.int .i64 (i:Int),.sl .fld es[i].fields,.int .i64 (es[i].fields.length:Int),.int .i64 (j:Int)] [.bld x0,.box [.str es[i].name,.sl .fld es[i].fields]] (.str (x0++((es[i].fields.drop j).flatMap (fldT es[i].name)++(es.drop (i+1)).flatMap Qbhp))) []:=by
 intro d
 induction d with
 | zero =>
  intro j x0 hj hl
  refine Cut.of Q9js rfl (Q3b6 es es.length i es[i].fields es[i].fields.length j x0 es[i].name es[i].fields) ?_
  conv=>zeta
  have hw:IntKind.wrap .i64 ((i:Int)+1)=((i+1:Nat):Int):=by rw[Qbrg]<;>omega
  rw[hw,List.drop_of_length_le (by omega),show decide ((j:Int)<(es[i].fields.length:Int))=false from decide_eq_false (by omega),List.flatMap_nil,List.nil_append]
  exact Sat.cut (nxt x0 (by omega))
 | succ d ih =>
  intro j x0 hj hl
  refine Cut.of Q9js rfl (Q3b6 es es.length i es[i].fields es[i].fields.length j x0 es[i].name es[i].fields) ?_
  conv=>zeta
  have hltj:j<es[i].fields.length:=by omega
  have hwj:IntKind.wrap .i64 ((j:Int)+1)=((j+1:Nat):Int):=by rw[Qbrg]<;>omega
  have hdj:es[i].fields.drop j=es[i].fields[j]::es[i].fields.drop (j+1):=qdC hltj
  have hxj:es[i].fields.getD (j:Int).toNat (Qti9.C.dflt .fld)=es[i].fields[j]:=by simp[hltj]
  have hinj:inb (j:Int) es[i].fields.length=true:=by simp only[inb,qaT,qdT];omega
  have hv:=hz es[i] (List.getElem_mem hlt) es[i].fields[j] (List.getElem_mem hltj)
  have hfl:=Qpgn (n:=es[i].name) hv
  have nx:=ih (j+1) (x0++fldT es[i].name es[i].fields[j]) (by omega) (by rw[List.length_append];omega)
  have ey:fldT es[i].name es[i].fields[j]=formF (Chg.mk es[i].name es[i].fields[j].what es[i].fields[j].number es[i].fields[j].value)++#[(10:UInt8)].toList:=rfl
  rw[ey]at nx hfl
  have e:x0++((es[i].fields[j]::es[i].fields.drop (j+1)).flatMap (fldT es[i].name)++(es.drop (i+1)).flatMap Qbhp)=x0++(formF (Chg.mk es[i].name es[i].fields[j].what es[i].fields[j].number es[i].fields[j].value)++#[(10:UInt8)].toList)++((es[i].fields.drop (j+1)).flatMap (fldT es[i].name)++(es.drop (i+1)).flatMap Qbhp):=by rw[List.flatMap_cons,ey];simp
  rw[hxj,hinj,hwj,hdj,e,show decide ((j:Int)<(es[i].fields.length:Int))=true from decide_eq_true (by omega),hv]
  simp only[Qd8q]
  exact Sat.nd (decide_eq_true (by simp at hfl ⊢;omega)) (Sat.nd (decide_eq_true (by simp at hfl ⊢;omega)) (Sat.cut nx))
theorem Qfke(ks:List Kind)(ps:List Point)(es:List Entry)(hb:Qn0o ks ps es=true)(hz:∀e∈es,∀f∈e.fields,szV f.value=true):∀(d i:Nat) (x0:Str),i+d=es.length→x0.length+d*7500000000≤1000000000000 →
  Cut Qti9 Qqrh 16 [.ptr 0 0,.sl .entry es,.int .i64 (es.length:Int),.int .i64 (i:Int)] [.bld x0] (.str (x0++(es.drop i).flatMap Qbhp)) []:=by
 obtain⟨h12,hf5⟩:=Qm34 hb
 intro d
 induction d with
 | zero =>
  intro i x0 hi hl
  refine Cut.of Q9js rfl (Q2wc es es.length i x0) ?_
  conv=>zeta
  rw[List.drop_of_length_le (by omega),show decide ((i:Int)<(es.length:Int))=false from decide_eq_false (by omega),Qk7y,List.flatMap_nil,List.append_nil]
  exact Sat.ret rfl rfl
 | succ d ih =>
  intro i x0 hi hl
  refine Cut.of Q9js rfl (Q2wc es es.length i x0) ?_
  conv=>zeta
  have hlt:i<es.length:=by omega
  have h5:=hf5 es[i] (List.getElem_mem hlt)
  have hin:inb (i:Int) es.length=true:=by simp only[inb,qaT,qdT];omega
  have hx:es.getD (i:Int).toNat (Qti9.C.dflt .entry)=es[i]:=by simp[hlt]
  rw[show decide ((i:Int)<(es.length:Int))=true from decide_eq_true (by omega),hin,hx,Qd8q,Qd8q,qdC hlt,List.flatMap_cons]
  have hm:∀m y d X:Nat,m≤5→y+(d+1)*7500000000≤1000000000000→1000000000000≤X+d*7500000000→y+m*1500000000≤X:=fun m y d X h1 h2 h3=>by
   have h4:m*1500000000≤7500000000:=Nat.le_trans (Nat.mul_le_mul_right _ h1) (Nat.le_of_eq rfl)
   rw[Nat.add_mul,Nat.one_mul]at h2
   exact Qdxi y (m*1500000000) (d*7500000000) 7500000000 1000000000000 X h4 h2 h3
  obtain⟨X,hX,hX2⟩:∃X:Nat,1000000000000≤X+d*7500000000∧X+d*7500000000≤1000000000000:=⟨1000000000000-d*7500000000,by omega,by omega⟩
  have h:=Qpzv es hz i hlt h12 h5 X (by omega) (fun x h=>ih (i+1) x (by omega) (by omega)) es[i].fields.length 0 x0 (by omega) (hm _ _ _ _ h5 hl hX)
  rw[List.drop_zero]at h
  exact Sat.cut h
theorem Qvqm(ks:List Kind)(ps:List Point)(es:List Entry)(hb:Qn0o ks ps es=true)(hz:∀e∈es,∀f∈e.fields,szV f.value=true):∀(d i:Nat) (x0:Str),i+d=ps.length→x0.length+d*100≤10000 →
  Cut Qti9 Qqrh 11 [.ptr 0 0,.ptr 1 0,.fn (Fn.func (102:Nat)) [],.sl .point ps,.int .i64 (ps.length:Int),.int .i64 (i:Int)] [.box [.sl .kind ks,.sl .point ps,.sl .entry es],.bld x0] (.str (x0++((ps.drop i).flatMap Q0f8++es.flatMap Qbhp))) []:=by
 have hb2:=hb
 simp only[Qn0o,Qib4,qaT,qdT]at hb2
 obtain⟨⟨b1,b2,b3,b4⟩,_⟩:=hb2
 intro d
 induction d with
 | zero =>
  intro i x0 hi hl
  refine Cut.of Q9js rfl (Qpiu ps ps.length i ks ps es x0) ?_
  conv=>zeta
  rw[List.drop_of_length_le (by omega),show decide ((i:Int)<(ps.length:Int))=false from decide_eq_false (by omega),Qk7y,List.flatMap_nil,List.nil_append]
  exact Sat.cut (Qfke ks ps es hb hz es.length 0 x0 (by omega) (by obtain⟨h12,_⟩:=Qm34 hb;omega))
 | succ d ih =>
  intro i x0 hi hl
  refine Cut.of Q9js rfl (Qpiu ps ps.length i ks ps es x0) ?_
  conv=>zeta
  have hlt:i<ps.length:=by omega
  have hw:IntKind.wrap .i64 ((i:Int)+1)=((i+1:Nat):Int):=by rw[Qbrg]<;>omega
  have hd:ps.drop i=ps[i]::ps.drop (i+1):=qdC hlt
  have hx:ps.getD (i:Int).toNat (Qti9.C.dflt .point)=ps[i]:=by simp[hlt]
  have hin:inb (i:Int) ps.length=true:=by simp only[inb,qaT,qdT];omega
  have hlo:decide ((i:Int)<(ps.length:Int))=true:=decide_eq_true (by omega)
  have hl:(ps.take (i+1)).getLast? = some ps[i]:=by rw[qtS hlt,qlC]
  have hk:ps[i].ok=true:=Q1nj b4 _ (List.getElem_mem hlt)
  obtain⟨r1,r2,r3,r4,r5⟩:=Qa3t hk
  have ht:=Qhew hk
  have nx:=ih (i+1) (x0++Q0f8 ps[i]) (by omega) (by rw[List.length_append];omega)
  have ey:Q0f8 ps[i]=(#[(112:UInt8),(111:UInt8),(105:UInt8),(110:UInt8),(116:UInt8),(32:UInt8)].toList++ps[i].name++#[(32:UInt8)].toList++decS ps[i].x++#[(32:UInt8)].toList++decS ps[i].y++#[(10:UInt8)].toList):=by simp[Q0f8,Qisw]
  rw[ey]at nx ht
  have e:x0++((ps[i]::ps.drop (i+1)).flatMap Q0f8++es.flatMap Qbhp)=x0++(#[(112:UInt8),(111:UInt8),(105:UInt8),(110:UInt8),(116:UInt8),(32:UInt8)].toList++ps[i].name++#[(32:UInt8)].toList++decS ps[i].x++#[(32:UInt8)].toList++decS ps[i].y++#[(10:UInt8)].toList)++((ps.drop (i+1)).flatMap Q0f8++es.flatMap Qbhp):=by rw[List.flatMap_cons,ey];simp
  rw[hlo,hx,hw,hin,hd,e,Qcq3 r2,Qcq3 r3]
  simp only[Qd8q]
  have q:∀n m:Nat,n≤1000→1000≤m→decide (n≤m)=true:=fun n m h h2=>decide_eq_true (Nat.le_trans h h2)
  generalize ps[i].name=n at r1 nx ht ⊢
  generalize decS ps[i].x=da at r4 nx ht ⊢
  generalize decS ps[i].y=db at r5 nx ht ⊢
  exact Sat.nd (q _ _ (by simp;omega) (by omega)) (Sat.nd (q _ _ (by simp;omega) (by omega)) (Sat.nd (q _ _ (by simp;omega) (by omega)) (Sat.nd (q _ _ (by simp;omega) (by omega)) (Sat.nd (q _ _ (by simp;omega) (by omega)) (Sat.nd (q _ _ (by simp;omega) (by omega)) (Sat.nd (decide_eq_true (by simp at ht ⊢;omega)) (Sat.cut nx)))))))
theorem Ql4w(ks:List Kind)(ps:List Point)(es:List Entry)(hb:Qn0o ks ps es=true)(hz:∀e∈es,∀f∈e.fields,szV f.value=true):∀(d i:Nat) (x0:Str),i+d=ks.length→x0.length+d*100≤5000 →
  Cut Qti9 Qqrh 6 [.ptr 0 0,.ptr 1 0,.fn (Fn.func (102:Nat)) [],.sl .kind ks,.int .i64 (ks.length:Int),.int .i64 (i:Int)] [.box [.sl .kind ks,.sl .point ps,.sl .entry es],.bld x0] (.str (x0++((ks.drop i).flatMap kindT++(ps.flatMap Q0f8++es.flatMap Qbhp)))) []:=by
 have hb2:=hb
 simp only[Qn0o,Qib4,qaT,qdT]at hb2
 obtain⟨⟨b1,b2,b3,b4⟩,_⟩:=hb2
 intro d
 induction d with
 | zero =>
  intro i x0 hi hl
  refine Cut.of Q9js rfl (Qrvm ks ks.length i ks ps es x0) ?_
  conv=>zeta
  rw[List.drop_of_length_le (by omega),show decide ((i:Int)<(ks.length:Int))=false from decide_eq_false (by omega),Qk7y,List.flatMap_nil,List.nil_append]
  exact Sat.cut (Qvqm ks ps es hb hz ps.length 0 x0 (by omega) (by omega))
 | succ d ih =>
  intro i x0 hi hl
  refine Cut.of Q9js rfl (Qrvm ks ks.length i ks ps es x0) ?_
  conv=>zeta
  have hlt:i<ks.length:=by omega
  have hw:IntKind.wrap .i64 ((i:Int)+1)=((i+1:Nat):Int):=by rw[Qbrg]<;>omega
  have hd:ks.drop i=ks[i]::ks.drop (i+1):=qdC hlt
  have hx:ks.getD (i:Int).toNat (Qti9.C.dflt .kind)=ks[i]:=by simp[hlt]
  have hin:inb (i:Int) ks.length=true:=by simp only[inb,qaT,qdT];omega
  have hlo:decide ((i:Int)<(ks.length:Int))=true:=decide_eq_true (by omega)
  have hl:(ks.take (i+1)).getLast? = some ks[i]:=by rw[qtS hlt,qlC]
  have hk:ks[i].ok=true:=Q315 b3 _ (List.getElem_mem hlt)
  obtain⟨r1,r2,r3,r4,r5⟩:=Q9gv hk
  have ht:=Qgp5 hk
  have nx:=ih (i+1) (x0++kindT ks[i]) (by omega) (by rw[List.length_append];omega)
  have ey:kindT ks[i]=(#[(107:UInt8),(105:UInt8),(110:UInt8),(100:UInt8),(32:UInt8)].toList++ks[i].name++#[(32:UInt8)].toList++decS ks[i].quick++#[(32:UInt8)].toList++decS ks[i].slow++#[(10:UInt8)].toList):=by simp[kindT,Qq2m]
  rw[ey]at nx ht
  have e:x0++((ks[i]::ks.drop (i+1)).flatMap kindT++(ps.flatMap Q0f8++es.flatMap Qbhp))=x0++(#[(107:UInt8),(105:UInt8),(110:UInt8),(100:UInt8),(32:UInt8)].toList++ks[i].name++#[(32:UInt8)].toList++decS ks[i].quick++#[(32:UInt8)].toList++decS ks[i].slow++#[(10:UInt8)].toList)++((ks.drop (i+1)).flatMap kindT++(ps.flatMap Q0f8++es.flatMap Qbhp)):=by rw[List.flatMap_cons,ey];simp
  rw[hlo,hx,hw,hin,hd,e,Qcq3 r2,Qcq3 r3]
  simp only[Qd8q]
  have q:∀n m:Nat,n≤1000→1000≤m→decide (n≤m)=true:=fun n m h h2=>decide_eq_true (Nat.le_trans h h2)
  generalize ks[i].name=n at r1 nx ht ⊢
  generalize decS ks[i].quick=da at r4 nx ht ⊢
  generalize decS ks[i].slow=db at r5 nx ht ⊢
  exact Sat.nd (q _ _ (by simp;omega) (by omega)) (Sat.nd (q _ _ (by simp;omega) (by omega)) (Sat.nd (q _ _ (by simp;omega) (by omega)) (Sat.nd (q _ _ (by simp;omega) (by omega)) (Sat.nd (q _ _ (by simp;omega) (by omega)) (Sat.nd (q _ _ (by simp;omega) (by omega)) (Sat.nd (decide_eq_true (by simp at ht ⊢;omega)) (Sat.cut nx)))))))
theorem Qotu(ks:List Kind)(ps:List Point)(es:List Entry)(hg:szB es=true):Qewq Tryz.prog CP Qqrh [.agg [.sl .kind ks,.sl .point ps,.sl .entry es]] [] (.str (Q9kb ks ps es)) []:=by
 refine Qewq.of Q9js (by kernel_rfl) (Qdi0 ks ps es) ?_
 rw[show szB es=true from hg,Qd8q,Q9kb]
 cases hb:Qn0o ks ps es with
 | false=>exact Sat.ret rfl rfl
 | true =>
  have hz:∀e∈es,∀f∈e.fields,szV f.value=true:=fun e he f hf=>by
   simp only[szB,qaT]at hg
   have h1:=qlA.1 hg.2 e he
   simp only[szE,qaT]at h1
   exact qlA.1 h1.2 f hf
  have hb2:=hb
  simp only[Qn0o,Qib4,qaT,qdT]at hb2
  rw[if_pos rfl]
  simp only[Bool.not_true,Qk7y]
  exact Sat.cut (Ql4w ks ps es hb hz ks.length 0 [] (by omega) (by simp;omega))
theorem Q4pm:EntOK Tryz.prog CP Qqrh Q55o:=by
 refine⟨eob (by kernel_rfl),fun _ _ _ _ h=>?_⟩
 simp only[Q55o,Qnk5]at h
 split at h
 ·obtain⟨hg,rfl,rfl⟩:=eoh h
  exact Qotu _ _ _ hg
 ·cases h
end Lx
namespace Lx
open Go Go.Proofs
noncomputable def Q3cy:RE Ty El:=⟨Tryz.prog,CP,[(Qzeh,Qa1d),(Qqrh,Q55o),(Qq81,Qnk5),(Qdfk,Q124),(Qjbj,Qer6),(Q5ho,Qz24)],Tryz.f10,0,[],[]⟩
theorem Qmij:REOK Q3cy Qewn:=⟨CP_ok,(TabOK.cons Qmkc (TabOK.cons Q4pm (TabOK.cons Qosp (TabOK.cons Q8cq (TabOK.cons Qy0j (TabOK.cons Qxl3 Qye1)))))),by kernel_rfl,by kernel_rfl⟩
theorem Qcw0(c:List Int):aRun Q3cy 600 false (body0 Q3cy.fn) (Q4gm Q3cy.fn [.sl .u8 c] []) =
 let z0:=(Q1a7 c);let z1:=(Qob6 (Q9kb z0.ks z0.ps z0.es));ifb (decide ((↑c.length:Int)>(1048576:Int))) (some (.ret (.bool true) [])) (ifb (Qf9o c) (ifb (szB z0.es) (ifb (szB z0.es) (ifb (!Q9kb z0.ks z0.ps z0.es==Q9kb z0.ks z0.ps z0.es) (some (.ret (.bool false) [])) (ifb (szB z0.es) (ifb (!Qn0o z0.ks z0.ps z0.es) (some (.ret (.bool (Q9kb z0.ks z0.ps z0.es==#[].toList)) [])) (ifb (szS (Q9kb z0.ks z0.ps z0.es)) (ifb (z1.code==0) (ifb (Q2xe z1.ks z0.ks z1.ps z0.ps z1.es z0.es) (some (.ret (.bool true) [])) (none)) (some (.ret (.bool false) []))) (none))) (none))) (none)) (none)) (none)):=by kernel_rfl
theorem Qmo7(c:List Int)(hg:Qf9o c=true):Qewq Tryz.prog CP Qewn [.sl .u8 c] [] (.bool true) []:=by
 refine Qewq.of Qmij (by kernel_rfl) (Qcw0 c) ?_
 conv=>zeta
 have g:=(Qqbv c hg).2
 simp only[Qp6n,goodS,qaT]at g
 have gb:=g.1
 have z1:szB (Q1a7 c).es=true:=by have h:=gb;simp only[goodB,qaT]at h;exact h.1
 cases h1:decide ((c.length:Int)>1048576) with
 | true=>exact Sat.ret rfl rfl
 | false =>
 rw[hg,z1]
 simp only[beq_self_eq_true,Bool.not_true,Qd8q,Qk7y]
 cases hb:Qn0o (Q1a7 c).ks (Q1a7 c).ps (Q1a7 c).es with
 | false =>
  rw[Q9kb,hb,if_neg (by simp)]
  exact Sat.ret rfl rfl
 | true =>
  obtain⟨e,hl⟩:=Q9t4 hb
  rw[e,show szS (Q9kb (Q1a7 c).ks (Q1a7 c).ps (Q1a7 c).es)=true from decide_eq_true (by omega),Qw30 gb]
  exact Sat.ret rfl rfl
end Lx
