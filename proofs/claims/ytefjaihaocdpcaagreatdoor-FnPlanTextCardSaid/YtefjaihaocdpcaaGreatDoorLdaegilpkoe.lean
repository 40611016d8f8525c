/- Texts, drawn. -/
import Derived.Test.YtefjaihaocdpcaaGreatDoorLkanckpokml
import Derived.Test.YtefjaihaocdpcaaGreatDoorLdnnejkniho
set_option linter.unusedVariables false
set_option linter.unusedSimpArgs false
set_option maxRecDepth 4000
namespace Lx
open Go Go.Proofs
noncomputable def Qov7:RE Ty El:=⟨Tryz.prog,CP,[],Tryz.f111,0,[],[(4,[(0,.any),(1,.any),(5,.any),(6,.any),(7,.any)])]⟩
theorem Qnk6:REOK Qov7 Q001:=⟨CP_ok,Qye1,by kernel_rfl,by kernel_rfl⟩
theorem Qen5(s:Str)(c:Int):aRun Qov7 600 false (body0 Qov7.fn) (Q4gm Qov7.fn [.str s,.int .u8 c] []) =
 some (.go (Qu6t Qov7.fn 4) [.str s,.int .u8 c,.own 0 [] 0,.int .i64 0,.int .i64 0] [.row .str [] 0 0 0 .no]):=by kernel_rfl
theorem Quvy(x0:Str)(x1:Int)(x2:Int)(x3:Int)(x4:List (El .str)):aRun Qov7 600 true (Qu6t Qov7.fn 4) (cutSt Qov7.fn (Q1m4 Qov7 (Qu6t Qov7.fn 4)) [.str x0,.int .u8 x1,.own 0 [] 0,.int .i64 x2,.int .i64 x3] [.row .str x4 0 0 0 .no]) =
 let z0:=(↑(List.length x0):Int);let z1:=(List.drop x2.toNat x0);let z2:=(IntKind.i64.wrap (x3+1));ifb (decide (x3<z0)) (ifb (inb x3 (List.length x0)) (ifb ((↑(List.getD x0 x3.toNat (0:UInt8)).toNat:Int)==x1) (ifb (decide (0≤x2)&&(decide (x2≤x3)&&decide (x3≤z0))) (ifb (decide ((x4.length+[List.take (x3.toNat-x2.toNat) z1].length)*Qbhn Qov7.P (9:Nat)≤(140737488355328:Nat))) (some (.go (Qu6t Qov7.fn 4) [.str x0,.int .u8 x1,.own 0 [] 0,.int .i64 z2,.int .i64 z2] [.row .str (x4++[List.take (x3.toNat-x2.toNat) z1]) 0 0 0 .no])) none) none) (some (.go (Qu6t Qov7.fn 4) [.str x0,.int .u8 x1,.own 0 [] 0,.int .i64 x2,.int .i64 z2] [.row .str x4 0 0 0 .no]))) none) (ifb (decide (0≤x2)&&(decide (x2≤z0)&&decide (z0≤z0))) (ifb (decide ((x4.length+[List.take (z0.toNat-x2.toNat) z1].length)*Qbhn Qov7.P (9:Nat)≤(140737488355328:Nat))) (some (.ret (.own 0 [] 0) [.row .str (x4++[List.take (z0.toNat-x2.toNat) z1]) 0 0 0 .no])) none) none):=by kernel_rfl
theorem Qdaw(s:Str)(c:Int)(hs:s.length≤1000000000):∀(d i fr:Nat) (acc:List Str),i+d=s.length→fr≤i→acc.length≤i →
  Cut Qov7 Q001 4 [.str s,.int .u8 c,.own 0 [] 0,.int .i64 (fr:Int),.int .i64 (i:Int)] [.row .str acc 0 0 0 .no] (.own 0 [] 0) [.row .str (acc++preF ((s.drop fr).take (i-fr)) (cutS c (s.drop i))) 0 0 0 .no]:=by
 have hb:Qbhn Qov7.P 9=16:=by kernel_rfl
 intro d
 induction d with
 | zero =>
  intro i fr acc hi hf ha
  refine Cut.of Qnk6 rfl (Quvy s c fr i acc) ?_
  conv=>zeta
  refine Sat.ifb (fun h=>?_) (fun h=>?_)
  ·simp at h;omega
  ·refine Sat.ifb (fun h=>?_) (fun h=>?_)
   ·refine Sat.ifb (fun h=>?_) (fun h=>?_)
    ·refine Sat.ret rfl ?_
     have e:s.drop i=[]:=List.drop_of_length_le (by omega)
     have e2:s.length=i:=by omega
     simp[e,cutS,preF,e2]
    ·simp[hb]at h;omega
   ·simp at h;omega
 | succ d ih =>
  intro i fr acc hi hf ha
  refine Cut.of Qnk6 rfl (Quvy s c fr i acc) ?_
  conv=>zeta
  have hlt:i<s.length:=by omega
  have hw:IntKind.wrap .i64 ((i:Int)+1)=((i+1:Nat):Int):=by rw[Qbrg]<;>omega
  have hd:s.drop i=s.getD i 0::s.drop (i+1):=by rw[qdC hlt];simp[hlt]
  rw[hw,Int.toNat_natCast,Int.toNat_natCast]
  refine Sat.ifb (fun h=>?_) (fun h=>?_)
  ·refine Sat.ifb (fun h=>?_) (fun h=>?_)
   ·refine Sat.ifb (fun hb1=>?_) (fun hb1=>?_)
    ·refine Sat.ifb (fun h=>?_) (fun h=>?_)
     ·refine Sat.ifb (fun h=>?_) (fun h=>?_)
      ·rw[hd,Q5bz hb1]
       have:=ih (i+1) (i+1) (acc++[(s.drop fr).take (i-fr)]) (by omega) (by omega) (by simp;omega)
       rw[Nat.sub_self,List.take_zero,Qxhi,List.append_assoc]at this
       exact Sat.cut this
      ·simp[hb]at h;omega
     ·simp at h;omega
    ·rw[hd,Q3ea hb1]
     have:=ih (i+1) fr acc (by omega) (by omega) (by omega)
     have e:(s.drop fr).take (i+1-fr)=(s.drop fr).take (i-fr)++[s.getD i 0]:=by
      have:i+1-fr=(i-fr)+1:=by omega
      rw[this,List.take_add_one,List.getElem?_drop,show fr+(i-fr)=i by omega,qeG hlt,qgD,qeG hlt]
      rfl
     rw[e]at this
     exact Sat.cut this
   ·simp[inb]at h;omega
  ·simp at h;omega
theorem Qe8c(s:Str)(c:Int)(hg:decide (s.length≤1000000000)=true):Qewq Tryz.prog CP Q001 [.str s,.int .u8 c] [] (.own 0 [] 0) [.row .str (cutS c s) 0 0 0 .no]:=by
 refine Qewq.of Qnk6 (by kernel_rfl) (Qen5 s c) ?_
 have:=Qdaw s c (of_decide_eq_true hg) s.length 0 0 [] (by omega) (by omega) (by simp)
 rw[List.nil_append,Nat.sub_self,List.take_zero,List.drop_zero,Qxhi]at this
 exact Sat.cut this
theorem Q9p2:EntOK Tryz.prog CP Q001 Qmqn:=by
 refine⟨eob (by kernel_rfl),fun _ _ _ _ h=>?_⟩
 simp only[Qmqn]at h
 split at h
 ·obtain⟨hg,rfl,rfl⟩:=eoh h
  exact Qe8c _ _ hg
 ·cases h

noncomputable def Qjrh:RE Ty El:=⟨Tryz.prog,CP,[(Q001,Qmqn)],Tryz.f162,0,[],[]⟩
theorem Qpr6:REOK Qjrh Q0il:=⟨CP_ok,(TabOK.cons Q9p2 Qye1),by kernel_rfl,by kernel_rfl⟩
theorem Qk4t(s:Str):aRun Qjrh 600 false (body0 Qjrh.fn) (Q4gm Qjrh.fn [.str s] []) =
 let z1:=(cutS (10:Int) s);let z0:=(↑z1.length:Int);let z2:=(IntKind.i64.wrap (z0-1));ifb (decide (List.length s≤(1000000000:Nat))) (ifb (inb z2 z1.length) (ifb (z1.getD z2.toNat (Qjrh.C.dflt Ty.str)==#[].toList) (ifb (decide ((0:Int)≤(0:Int))&&(decide (0≤IntKind.i64.wrap (z0-1))&&decide (IntKind.i64.wrap (z0-1)≤z0))) (some (.ret (.view 0 [] 0 1 0 (Int.toNat z2)) [.row .str z1 0 0 0 .no])) none) (some (.ret (.own 0 [] 0) [.row .str z1 0 0 0 .no]))) none) none:=by kernel_rfl
theorem Qpny(s:Str)(hg:(szS s&&lastE s)=true):Qewq Tryz.prog CP Q0il [.str s] [] (.view 0 [] 0 1 0 ((cutS 10 s).length-1)) [.row .str (cutS 10 s) 0 0 0 .no]:=by
 refine Qewq.of Qpr6 (by kernel_rfl) (Qk4t s) ?_
 conv=>zeta
 simp only[qaT]at hg
 have hs:=of_decide_eq_true (show decide (s.length≤1000000000)=true from hg.1)
 have hl:=Qtox 10 s
 have hp:=List.length_pos_iff.2 (Qk4w 10 s)
 have hlast:((cutS 10 s).getD ((cutS 10 s).length-1) []==[])=true:=hg.2
 rw[decide_eq_true hs]
 generalize cutS 10 s=l at hl hp hlast ⊢
 have hw:IntKind.wrap .i64 ((l.length:Int)-1)=((l.length-1:Nat):Int):=by rw[Qbrg]<;>omega
 rw[hw]
 simp only[Qd8q,Int.toNat_natCast]
 refine Sat.nd (by simp only[inb,qaT,qdT];omega) ?_
 rw[show(l.getD (l.length-1) (Qjrh.C.dflt Ty.str)==#[].toList)=true from hlast]
 simp only[Qd8q]
 exact Sat.nd (by simp only[qaT,qdT];omega) (Sat.ret rfl rfl)
theorem Q28a:EntOK Tryz.prog CP Q0il Qk1q:=by
 refine⟨eob (by kernel_rfl),fun _ _ _ _ h=>?_⟩
 simp only[Qk1q]at h
 split at h
 ·obtain⟨hg,rfl,rfl⟩:=eoh h
  exact Qpny _ hg
 ·cases h

noncomputable def Qrlc:RE Ty El:=⟨Tryz.prog,CP,[],Tryz.f161,0,[],[(2,[(0,.any),(1,.any),(5,.any)])]⟩
theorem Qm2a:REOK Qrlc Q1eg:=⟨CP_ok,Qye1,by kernel_rfl,by kernel_rfl⟩
theorem Qrqx(s:Str)(n:Int):aRun Qrlc 600 false (body0 Qrlc.fn) (Q4gm Qrlc.fn [.str s,.int .i64 n] []) =
 some (.go (Qu6t Qrlc.fn 2) [.str s,.int .i64 n,.str #[].toList] []):=by kernel_rfl
theorem Qzsy(x0:Str)(x1:Int)(x2:Str):aRun Qrlc 600 true (Qu6t Qrlc.fn 2) (cutSt Qrlc.fn (Q1m4 Qrlc (Qu6t Qrlc.fn 2)) [.str x0,.int .i64 x1,.str x2] []) =
 let z0:=(decide (List.length x0+List.length x0≤(9223372036854775807:Nat)));let z1:=(IntKind.i64.wrap (x1.tdiv (2:Int)));ifb (decide (x1>0)) (ifb (x1.tmod (2:Int)==(1:Int)) (ifb (decide (List.length x2+List.length x0≤(9223372036854775807:Nat))) (ifb z0 (some (.go (Qu6t Qrlc.fn 2) [.str (x0++x0),.int .i64 z1,.str (x2++x0)] [])) none) none) (ifb z0 (some (.go (Qu6t Qrlc.fn 2) [.str (x0++x0),.int .i64 z1,.str x2] [])) none)) (some (.ret (.str x2) [])):=by kernel_rfl
theorem Q4o8:∀(d:Nat) (x:Str) (n:Int) (o:Str),n<2 ^ d→d≤14→x.length*2 ^ d≤16384→o.length*2 ^ d≤16384 →
  CutE Qrlc Q1eg 2 [.str x,.int .i64 n,.str o] [] (fun v h=>∃y:Str,v=.str y∧h=[]∧y.length≤1000000):=by
 intro d
 induction d with
 | zero =>
  intro x n o hn hd hx ho
  refine CutE.of Qm2a rfl (Qzsy x n o) ?_
  conv=>zeta
  rw[show decide (n>(0:Int))=false from decide_eq_false (by simp at hn;omega)]
  exact SatE.ret ⟨_,rfl,rfl,by simp at ho;omega⟩
 | succ d ih =>
  intro x n o hn hd hx ho
  have hp:2 ^ (d+1)=2*2 ^ d:=by rw[Nat.pow_succ,Nat.mul_comm]
  have hp1:1≤2 ^ d:=Nat.one_le_two_pow
  have hx':x.length*2 ^ d≤8192:=by
   have:x.length*2 ^ (d+1)=2*(x.length*2 ^ d):=by rw[hp,←Nat.mul_assoc,Nat.mul_comm x.length 2,Nat.mul_assoc]
   omega
  have ho':o.length*2 ^ d≤8192:=by
   have:o.length*2 ^ (d+1)=2*(o.length*2 ^ d):=by rw[hp,←Nat.mul_assoc,Nat.mul_comm o.length 2,Nat.mul_assoc]
   omega
  have hxl:x.length≤8192:=Nat.le_trans (Nat.le_mul_of_pos_right _ hp1) hx'
  have hol:o.length≤8192:=Nat.le_trans (Nat.le_mul_of_pos_right _ hp1) ho'
  have hxx:(x++x).length*2 ^ d≤16384:=by rw[List.length_append,Nat.add_mul];omega
  have hox:(o++x).length*2 ^ d≤16384:=by rw[List.length_append,Nat.add_mul];omega
  refine CutE.of Qm2a rfl (Qzsy x n o) ?_
  conv=>zeta
  refine SatE.ifb (fun h0=>?_) (fun _=>SatE.ret ⟨_,rfl,rfl,by omega⟩)
  have h0:=of_decide_eq_true h0
  have hn':n<2*2 ^ d:=by have e:(2:Int) ^ (d+1)=2*2 ^ d:=(by rw[Int.pow_succ,Int.mul_comm]);rw[e]at hn;exact hn
  have hq:n.tdiv 2<2 ^ d:=by rw[Int.tdiv_eq_ediv_of_nonneg (by omega)];exact Int.ediv_lt_of_lt_mul (by omega) (by rw[Int.mul_comm];exact hn')
  have hlim:(2:Int) ^ (d+1)≤16384:=by
   have:d+1≤14:=hd
   have:=Nat.le_trans (Nat.pow_le_pow_right (n:=2) (by omega) this) (Nat.le_of_eq (show 2 ^ 14=16384 from rfl))
   rw[show(2:Int) ^ (d+1)=((2 ^ (d+1):Nat):Int) from(Int.natCast_pow 2 (d+1)).symm]
   omega
  have hw:IntKind.i64.wrap (n.tdiv 2)=n.tdiv 2:=Qbrg (by rw[Int.tdiv_eq_ediv_of_nonneg (by omega)];omega) (by rw[Int.tdiv_eq_ediv_of_nonneg (by omega)];omega)
  rw[hw]
  refine SatE.ifb (fun _=>?_) (fun _=>?_)
  ·exact SatE.need (decide_eq_true (by omega)) (SatE.need (decide_eq_true (by omega)) (SatE.cut (ih _ _ _ hq (by omega) hxx hox)))
  ·exact SatE.need (decide_eq_true (by omega)) (SatE.cut (ih _ _ _ hq (by omega) hxx (by omega)))
theorem Qyn0(s:Str)(n:Int)(hg:(decide (s.length≤1)&&decide (n<16384))=true):Qewq Tryz.prog CP Q1eg [.str s,.int .i64 n] [] (.str (Qalz s n)) []∧(Qalz s n).length≤1000000:=by
 simp only[qaT,qdT]at hg
 obtain⟨g0,g1⟩:=hg
 have hE:CallE Qrlc.P Qrlc.C Q1eg [.str s,.int .i64 n] [] (fun v h=>∃y:Str,v=.str y∧h=[]∧y.length≤1000000):=CallE.of Qm2a (by kernel_rfl) (Qrqx s n) (SatE.cut (Q4o8 14 s n [] (by rw[show(2:Int) ^ 14=16384 from rfl];omega) (by omega) (Nat.le_trans (Nat.mul_le_mul_right _ g0) (Nat.le_of_eq rfl)) (by simp)))
 obtain⟨v,H',h,x,rfl,rfl,hx⟩:=hE
 exact Qk78 (p:=fun x=>Qewq Tryz.prog CP Q1eg [.str s,.int .i64 n] [] (.str x) []∧x.length≤1000000) ⟨x,h,hx⟩
theorem Qvka(s:Str)(n:Int)(hg:(decide (s.length≤1)&&decide (n<16384))=true):Qewq Tryz.prog CP Q1eg [.str s,.int .i64 n] [] (.str (Qalz s n)) []:=by
 exact(Qyn0 s n hg).1
theorem Qrqa:EntOK Tryz.prog CP Q1eg Qysi:=by
 refine⟨eob (by kernel_rfl),fun _ _ _ _ h=>?_⟩
 simp only[Qysi]at h
 split at h
 ·obtain⟨hg,rfl,rfl⟩:=eoh h
  exact Qvka _ _ hg
 ·cases h

noncomputable def Qr25:RE Ty El:=⟨Tryz.prog,CP,[(Qpxs,Q7v2),(Q604,Qnfe),(Qwua,Qu46),(Qq81,Qnk5),(Q0il,Qk1q)],Tryz.f158,1,[.ro .str],[(4,[(0,.any),(4,.any),(5,.any)])]⟩
theorem Q70l:REOK Qr25 Qg1t:=⟨CP_ok,(TabOK.cons Q0e7 (TabOK.cons Qtpw (TabOK.cons Ql5k (TabOK.cons Qosp (TabOK.cons Q28a Qye1))))),by kernel_rfl,by kernel_rfl⟩
theorem Q9tx(bs:List Int)(p:Int):aRun Qr25 600 false (body0 Qr25.fn) (Q4gm Qr25.fn [.ptr 0 0] [.box [.sl .u8 bs,.int .i64 p]]) =
 let z2:=(dBase bs p);let z0:=(dBook bs z2.p z2.ks z2.ps);let z1:=(Q9kb z2.ks z2.ps z0.es);ifb (rdK bs p) (ifb (bkK bs z2.p z2.ks z2.ps) (ifb (szB z0.es) (ifb (szS z1&&lastE z1) (ifb (posOk z0.p) (some (.go (Qu6t Qr25.fn 4) [.ptr 0 0,.view 1 [] 0 1 0 ((cutS (10:Int) z1).length-(1:Nat)),.int .i64 (pickV bs z0.p (12:Int))] [.box [.sl .u8 bs,.int .i64 (z0.p+1)],.row .str (cutS (10:Int) z1) 0 0 0 .no])) none) none) none) none) none:=by kernel_rfl
theorem Qxil(x0:Nat)(x1:Int)(x2:List (El .u8))(x3:Int)(x4:List (El .str)):aRun Qr25 600 true (Qu6t Qr25.fn 4) (cutSt Qr25.fn (Q1m4 Qr25 (Qu6t Qr25.fn 4)) [.ptr 0 0,.view 1 [] 0 1 0 x0,.int .i64 x1] [.box [.sl .u8 x2,.int .i64 x3],.row .str x4 0 0 0 .no]) =
 let z1:OL:=(some (.go (Qu6t Qr25.fn 4) [.ptr 0 0,.view 1 [] 0 1 0 x0,.int .i64 (IntKind.i64.wrap (x1-1))] [.box [.sl .u8 x2,.int .i64 (x3+1)],.row .str x4 0 0 0 .no]));let z5:=(↑x0:Int);let z0:=(IntKind.i64.wrap (pickV x2 x3 z5+1));let z4:=(pickV x2 x3 z5);let z6:=(Qr25.C.dflt Ty.str);let z2:=(x4.getD ((0:Nat)+z4.toNat) z6);let z3:=(x4.getD ((0:Nat)+z0.toNat) z6);ifb (decide (x1>0)) (ifb (posOk x3) (ifb (decide (IntKind.i64.wrap (pickV x2 x3 z5+1)<z5)) (ifb (inb z4 x0) (ifb (inb (0:Int) (List.length z2)) (ifb (inb z0 x0) (ifb (inb (0:Int) (List.length z3)) (ifb (((↑(List.getD z2 (Int.toNat (0:Int)) (0:UInt8)).toNat:Int)==(115:Int))==((↑(List.getD z3 (Int.toNat (0:Int)) (0:UInt8)).toNat:Int)==(115:Int))) (ifb (inb z4 x0) (ifb (inb z0 x0) (ifb (inb z4 x0) (ifb (inb z0 x0) (some (.go (Qu6t Qr25.fn 4) [.ptr 0 0,.view 1 [] 0 1 0 x0,.int .i64 (IntKind.i64.wrap (x1-1))] [.box [.sl .u8 x2,.int .i64 (x3+1)],.row .str ((x4.set ((0:Nat)+z4.toNat) z3).set ((0:Nat)+z0.toNat) z2) 0 0 0 .no])) none) none) none) none) z1) none) none) none) none) z1) none) (some (.ret (.sl .str (List.take x0 (List.drop (0:Nat) x4))) [.box [.sl .u8 x2,.int .i64 x3]])):=by kernel_rfl
theorem Qdb9{P:Str→Prop}{xs:List Str}{m i:Nat}{v:Str}(h:∀s∈xs.take m,P s)(hv:P v):∀s∈(xs.set i v).take m,P s:=fun s hs=>by
 rw[List.take_set]at hs
 rcases List.mem_or_eq_of_mem_set hs with h1|h1
 ·exact h s h1
 ·subst h1;exact hv
theorem Qvrl(bs:List Int)(hbs:Qf9o bs=true)(m:Nat)(h1:1≤m)(hm:m≤100):∀(d:Nat) (q:Int) (xs:List Str),0≤q→q+d≤890000→m≤xs.length→(∀s∈xs.take m,okLn s=true) →
  CutE Qr25 Qg1t 4 [.ptr 0 0,.view 1 [] 0 1 0 m,.int .i64 (d:Int)] [.box [.sl .u8 bs,.int .i64 q],.row .str xs 0 0 0 .no] (fun v h=>∃x:TxtP,v=.sl .str x.l∧h=[.box [.sl .u8 bs,.int .i64 x.p]]∧x.l.length=m∧(∀s∈x.l,okLn s=true)∧q≤x.p∧x.p≤q+d):=by
 intro d
 induction d with
 | zero =>
  intro q xs h0 hq hl hz
  refine CutE.of Q70l rfl (Qxil m (0:Nat) bs q xs) ?_
  conv=>zeta
  exact SatE.ret ⟨⟨xs.take m,q⟩,by rw[List.drop_zero],rfl,by simp;omega,hz,by simp,by simp⟩
 | succ d ih =>
  intro q xs h0 hq hl hz
  refine CutE.of Q70l rfl (Qxil m ((d+1:Nat):Int) bs q xs) ?_
  conv=>zeta
  have hw:IntKind.i64.wrap (((d+1:Nat):Int)-1)=(d:Int):=by rw[Qbrg]<;>omega
  obtain⟨a1,a2⟩:=Q5va (n:=(m:Int)) hbs (Q8s4 (q:=q) (by omega) (by omega)) (by omega)
  generalize pickV bs q (m:Int)=k at a1 a2 ⊢
  obtain⟨i,rfl⟩:=Int.eq_ofNat_of_zero_le a1
  have hw2:IntKind.i64.wrap ((i:Int)+1)=((i+1:Nat):Int):=by rw[Qbrg]<;>omega
  have el:∀k:Nat,k<m→okLn (xs.getD (0+k) (Qr25.C.dflt Ty.str))=true:=fun k hk=>by
   have hk2:k<xs.length:=by omega
   rw[Nat.zero_add,qgD,qeG hk2]
   exact hz _ (qmG (i:=k) (by rw[List.getElem?_take_of_lt hk,qeG hk2];rfl))
  have ne:∀k:Nat,k<m→inb (0:Int) (List.length (xs.getD (0+k) (Qr25.C.dflt Ty.str)))=true:=fun k hk=>by
   have:=el k hk
   simp only[okLn,qaT,qdT]at this
   simp only[inb,qaT,qdT];omega
  have next:∀ys:List Str,ys.length=xs.length→(∀s∈ys.take m,okLn s=true)→SatE Qr25 Qg1t (fun v h=>∃x:TxtP,v=.sl .str x.l∧h=[.box [.sl .u8 bs,.int .i64 x.p]]∧x.l.length=m∧(∀s∈x.l,okLn s=true)∧q≤x.p∧x.p≤q+((d+1:Nat):Int)) (some (.go (Qu6t Qr25.fn 4) [.ptr 0 0,.view 1 [] 0 1 0 m,.int .i64 (d:Int)] [.box [.sl .u8 bs,.int .i64 (q+(1:Int))],.row .str ys 0 0 0 .no])):=fun ys e hy=>by
   refine SatE.mono (SatE.cut (ih (q+1) ys (by omega) (by omega) (by omega) hy)) ?_
   rintro v h ⟨x,rfl,rfl,b1,b2,b3,b4⟩
   exact⟨x,rfl,rfl,b1,b2,by omega,by omega⟩
  have hi:i<m:=by omega
  have ib:inb (i:Int) m=true:=by simp only[inb,qaT,qdT];omega
  rw[show decide (((d+1:Nat):Int)>0)=true from decide_eq_true (by omega),hw,hw2]
  simp only[Qd8q,Int.toNat_natCast]
  refine SatE.need (Q8s4 (by omega) (by omega)) (SatE.ifb (fun hlt=>?_) (fun _=>next xs rfl hz))
  have hj:i+1<m:=by have:=of_decide_eq_true hlt;omega
  have jb:inb ((i+1:Nat):Int) m=true:=by simp only[inb,qaT,qdT];omega
  refine SatE.need ib (SatE.need (ne i hi) (SatE.need jb (SatE.need (ne (i+1) hj) (SatE.ifb (fun _=>?_) (fun _=>next xs rfl hz)))))
  refine SatE.need ib (SatE.need jb (SatE.need ib (SatE.need jb (next _ (by simp) ?_))))
  exact Qdb9 (P:=fun s=>okLn s=true) (Qdb9 (P:=fun s=>okLn s=true) hz (el (i+1) hj)) (el i hi)
theorem Qhjb(bs:List Int)(p:Int)(hg:txK bs p=true):Qewq Tryz.prog CP Qg1t [.ptr 0 0] [.box [.sl .u8 bs,.int .i64 p]] (.sl .str (dText bs p).l) [.box [.sl .u8 bs,.int .i64 (dText bs p).p]]∧Qtcz p (dText bs p):=by
 simp only[txK,qaT,qdT]at hg
 obtain⟨hbs,h0,h9⟩:=hg
 have hr:rdK bs p=true:=by simp only[rdK,qaT,qdT];exact⟨hbs,by omega,by omega⟩
 obtain⟨b1,b2,b3,b4,b5⟩:=(Q46n bs p hr).2
 have hE:CallE Qr25.P Qr25.C Qg1t [.ptr 0 0] [.box [.sl .u8 bs,.int .i64 p]] (fun v h=>∃x:TxtP,v=.sl .str x.l∧h=[.box [.sl .u8 bs,.int .i64 x.p]]∧Qtcz p x):=by
  refine CallE.of Q70l (by kernel_rfl) (Q9tx bs p) ?_
  conv=>zeta
  generalize dBase bs p=z at *
  have hk:bkK bs z.p z.ks z.ps=true:=by simp only[bkK,qaT,qdT];exact⟨hbs,by omega,by omega,b1,b3⟩
  obtain⟨c1,c2,c3⟩:=(Q4mo bs z.p z.ks z.ps hk).2
  generalize dBook bs z.p z.ks z.ps=y at *
  have c0:=c1
  simp only[goodE,goodB,qaT]at c0
  have hb:Qn0o z.ks z.ps y.es=true:=c0.1
  have ec:=Qa0v hb
  have hl2:=(Q9t4 hb).2
  have hll:=(Q9lg hb).2
  have hne:1≤(Q59c z.ks z.ps y.es).length:=by simp only[Q59c,List.length_append,List.length_map];omega
  have la:lastE (Q9kb z.ks z.ps y.es)=true:=by unfold lastE;rw[ec];simp
  have sz:szS (Q9kb z.ks z.ps y.es)=true:=decide_eq_true (by omega)
  rw[ec]
  refine SatE.need hr (SatE.need hk (SatE.need c0.2.1 (SatE.need (by rw[sz,la];rfl) (SatE.need (Q8s4 (by omega) (by omega)) ?_))))
  obtain⟨a1,a2⟩:=Q5va (n:=(12:Int)) hbs (Q8s4 (q:=y.p) (by omega) (by omega)) (by omega)
  generalize pickV bs y.p (12:Int)=k at a1 a2 ⊢
  obtain⟨d,rfl⟩:=Int.eq_ofNat_of_zero_le a1
  have key:∀(xs:List Str) (m:Nat),xs=Q59c z.ks z.ps y.es++[[]]→m=(Q59c z.ks z.ps y.es).length→SatE Qr25 Qg1t (fun v h=>∃x:TxtP,v=.sl .str x.l∧h=[.box [.sl .u8 bs,.int .i64 x.p]]∧Qtcz p x) (some (.go (Qu6t Qr25.fn 4) [.ptr 0 0,.view 1 [] 0 1 0 m,.int .i64 (d:Int)] [.box [.sl .u8 bs,.int .i64 (y.p+(1:Int))],.row .str xs 0 0 0 .no])):=by
   rintro xs m rfl rfl
   refine SatE.mono (SatE.cut (Qvrl bs hbs (Q59c z.ks z.ps y.es).length hne (by omega) d (y.p+1) (Q59c z.ks z.ps y.es++[[]]) (by omega) (by omega) (by simp) ?_)) ?_
   ·rw[List.take_append_of_le_length (Nat.le_refl _),List.take_length]
    exact Qybm hb
   ·rintro v h ⟨x,rfl,rfl,d1,d2,d3,d4⟩
    exact⟨x,rfl,rfl,by omega,by omega,d2,by omega,by omega⟩
  exact key _ _ rfl (by simp)
 obtain⟨v,H',h,x,rfl,rfl,hx⟩:=hE
 unfold dText
 exact Qk78 (p:=fun x:TxtP=>Qewq Tryz.prog CP Qg1t [.ptr 0 0] [.box [.sl .u8 bs,.int .i64 p]] (.sl .str x.l) [.box [.sl .u8 bs,.int .i64 x.p]]∧Qtcz p x) ⟨x,h,hx⟩
theorem Qhjt(bs:List Int)(p:Int)(hg:txK bs p=true):Qewq Tryz.prog CP Qg1t [.ptr 0 0] [.box [.sl .u8 bs,.int .i64 p]] (.sl .str (dText bs p).l) [.box [.sl .u8 bs,.int .i64 (dText bs p).p]]:=by
 exact(Qhjb bs p hg).1
theorem Qr6r:EntOK Tryz.prog CP Qg1t Qvdz:=by
 refine⟨eob (by kernel_rfl),fun _ _ _ _ h=>?_⟩
 simp only[Qvdz]at h
 split at h
 ·obtain⟨hg,rfl,rfl⟩:=eoh h
  exact Qhjt _ _ hg
 ·cases h

noncomputable def Qbzj:RE Ty El:=⟨Tryz.prog,CP,[(Qpxs,Q7v2),(Qchm,Q2vb),(Qstj,Qmce),(Qrls,Q51w)],Tryz.f159,1,[],[(13,[(5,.any),(7,.any)]),(18,[(5,.any),(8,.any)]),(5,[(5,.any),(9,.any)])]⟩
theorem Qaq1:REOK Qbzj Qvwl:=⟨CP_ok,(TabOK.cons Q0e7 (TabOK.cons Qyvd (TabOK.cons Qqii (TabOK.cons Qz1o Qye1)))),by kernel_rfl,by kernel_rfl⟩
theorem Qjtq(bs:List Int)(p:Int)(ls:List Str):aRun Qbzj 600 false (body0 Qbzj.fn) (Q4gm Qbzj.fn [.ptr 0 0,.sl .str ls] [.box [.sl .u8 bs,.int .i64 p]]) =
 let z4:=([]++ls);let z0:=(↑z4.length:Int);let z3:=(pickV bs p z0);let z1:=(z4.getD z3.toNat (Qbzj.C.dflt Ty.str));let z5:=(115:UInt8);let z6:=(List.drop (Int.toNat (0:Int)) z4);let z7:=(p+1+1);let z8:=(107:UInt8);let z9:=(112:UInt8);let z10:=(z3.toNat-Int.toNat (0:Int));let z11:HL:=[.box [.sl .u8 bs,.int .i64 z7],.row .str z4 0 0 0 .no];let z12:=(140737488355328:Nat);let z13:=(pickV bs p z0+1);let z2:=(IntKind.i64.wrap z13);let z14:=(inb z3 z4.length);ifb (decide (((0:Nat)+ls.length)*Qbhn Qbzj.P (9:Nat)≤z12)) (ifb (posOk p) (ifb (posOk (p+1)) (ifb (pickV bs (p+1) (6:Int)==(0:Int)) (ifb (rdOk bs z7&&decide ((0:Nat)<[#[].toList, #[(119:UInt8),104,97,116].toList, #[z8,105,110,100,32,97,49,32,49,32,49].toList, #[z8,105,110,100,32,98,32,50,32,49].toList, #[z8,105,110,100,32,99,32,49,32,53,49].toList, #[z9,111,105,110,116,32,97,108,102,97,32,48,32,48].toList, #[z9,111,105,110,116,32,113,32,49,54,32,48].toList, #[z9,111,105,110,116,32,113,32,49].toList, #[z5,101,116,32,107,108,49,32,107,105,110,100,32,51,32,110,111,112,101].toList, #[z5,101,116,32,107,108,49,32,108,101,118,101,108,32,51,32,55].toList, #[z5,101,116,32,75,32,108,101,118,101,108,32,51,32,51].toList, #[z5,101,116,32,107,108,49,32,108,101,118,101,108,32,48,51,32,51].toList, #[z5,101,116,32,107,108,49,32,119,104,97,116,32,51,32,51].toList, #[z9,111,105,110,116,32,122,122,32,48,32,48].toList, #[z8,105,110,100,32,113,32,49,32,50].toList].length)) (ifb z14 (some (.ret (.own 1 [] 0) [.box [.sl .u8 bs,.int .i64 (p+1+1+1)],.row .str (z4.set z3.toNat (ofV bs z7 [#[].toList, #[(119:UInt8),104,97,116].toList, #[z8,105,110,100,32,97,49,32,49,32,49].toList, #[z8,105,110,100,32,98,32,50,32,49].toList, #[z8,105,110,100,32,99,32,49,32,53,49].toList, #[z9,111,105,110,116,32,97,108,102,97,32,48,32,48].toList, #[z9,111,105,110,116,32,113,32,49,54,32,48].toList, #[z9,111,105,110,116,32,113,32,49].toList, #[z5,101,116,32,107,108,49,32,107,105,110,100,32,51,32,110,111,112,101].toList, #[z5,101,116,32,107,108,49,32,108,101,118,101,108,32,51,32,55].toList, #[z5,101,116,32,75,32,108,101,118,101,108,32,51,32,51].toList, #[z5,101,116,32,107,108,49,32,108,101,118,101,108,32,48,51,32,51].toList, #[z5,101,116,32,107,108,49,32,119,104,97,116,32,51,32,51].toList, #[z9,111,105,110,116,32,122,122,32,48,32,48].toList, #[z8,105,110,100,32,113,32,49,32,50].toList])) 0 0 0 .no])) none) none) (ifb (pickV bs (p+1) (6:Int)==(1:Int)) (ifb (decide ((0:Int)≤(0:Int))&&(decide (0≤pickV bs p z0)&&decide (pickV bs p z0≤z0))) (ifb (decide (((0:Nat)+(List.take z10 z6).length)*Qbhn Qbzj.P (9:Nat)≤z12)) (ifb (decide (0≤IntKind.i64.wrap z13)&&(decide (IntKind.i64.wrap z13≤z0)&&decide (z0≤z0))) (ifb (decide ((([]++List.take z10 z6).length+(List.take (z0.toNat-z2.toNat) (List.drop z2.toNat z4)).length)*Qbhn Qbzj.P (9:Nat)≤z12)) (some (.ret (.own 1 [] 0) [.box [.sl .u8 bs,.int .i64 z7],.row .str ([]++List.take z10 z6++List.take (z0.toNat-z2.toNat) (List.drop z2.toNat z4)) 0 0 0 .no])) none) none) none) none) (ifb (pickV bs (p+1) (6:Int)==(2:Int)) (some (.go (Qu6t Qbzj.fn 13) [.own 1 [] 0,.int .i64 0] z11)) (ifb (pickV bs (p+1) (6:Int)==(3:Int)) (some (.go (Qu6t Qbzj.fn 18) [.own 1 [] 0,.int .i64 0] z11)) (ifb (pickV bs (p+1) (6:Int)==(4:Int)) (ifb z14 (ifb (bendK bs z7 z1) (ifb z14 (some (.ret (.own 1 [] 0) [.box [.sl .u8 bs,.int .i64 ((dBend bs z7 z1).p)],.row .str (z4.set z3.toNat (dBend bs z7 z1).s) 0 0 0 .no])) none) none) none) (ifb (posOk z7) (some (.go (Qu6t Qbzj.fn 5) [.own 1 [] 0,.int .i64 (IntKind.i64.wrap ((200:Int)+pickV bs z7 (2:Int)))] [.box [.sl .u8 bs,.int .i64 (p+1+1+1)],.row .str z4 0 0 0 .no])) none)))))) none) none) none:=by kernel_rfl
theorem Qq4r(x0:Int)(x1:List (El .u8))(x2:Int)(x3:List (El .str)):aRun Qbzj 600 true (Qu6t Qbzj.fn 13) (cutSt Qbzj.fn (Q1m4 Qbzj (Qu6t Qbzj.fn 13)) [.own 1 [] 0,.int .i64 x0] [.box [.sl .u8 x1,.int .i64 x2],.row .str x3 0 0 0 .no]) =
 ifb (decide (x0<13)) (ifb (decide (0≤x0)&&decide (x0<10 ^ ((4:Nat)+(1:Nat)))) (ifb (decide (#[(115:UInt8),101,116,32,103].toList.length+List.length (dDec (4:Nat) x0)≤(9223372036854775807:Nat))) (ifb (decide ((#[(115:UInt8),101,116,32,103].toList++dDec (4:Nat) x0).length+#[(32:UInt8),108,101,118,101,108,32,49,32,49].toList.length≤(9223372036854775807:Nat))) (ifb (decide ((x3.length+[#[(115:UInt8),101,116,32,103].toList++dDec (4:Nat) x0++#[(32:UInt8),108,101,118,101,108,32,49,32,49].toList].length)*Qbhn Qbzj.P (9:Nat)≤(140737488355328:Nat))) (some (.go (Qu6t Qbzj.fn 13) [.own 1 [] 0,.int .i64 (IntKind.i64.wrap (x0+1))] [.box [.sl .u8 x1,.int .i64 x2],.row .str (x3++[#[(115:UInt8),101,116,32,103].toList++dDec (4:Nat) x0++#[(32:UInt8),108,101,118,101,108,32,49,32,49].toList]) 0 0 0 .no])) none) none) none) none) (some (.ret (.own 1 [] 0) [.box [.sl .u8 x1,.int .i64 x2],.row .str x3 0 0 0 .no])):=by kernel_rfl
theorem Qqza(x0:Int)(x1:List (El .u8))(x2:Int)(x3:List (El .str)):aRun Qbzj 600 true (Qu6t Qbzj.fn 18) (cutSt Qbzj.fn (Q1m4 Qbzj (Qu6t Qbzj.fn 18)) [.own 1 [] 0,.int .i64 x0] [.box [.sl .u8 x1,.int .i64 x2],.row .str x3 0 0 0 .no]) =
 ifb (decide (x0<7)) (ifb (decide (0≤x0)&&decide (x0<10 ^ ((4:Nat)+(1:Nat)))) (ifb (decide (#[(107:UInt8),105,110,100,32,103].toList.length+List.length (dDec (4:Nat) x0)≤(9223372036854775807:Nat))) (ifb (decide ((#[(107:UInt8),105,110,100,32,103].toList++dDec (4:Nat) x0).length+#[(32:UInt8),49,32,49].toList.length≤(9223372036854775807:Nat))) (ifb (decide ((x3.length+[#[(107:UInt8),105,110,100,32,103].toList++dDec (4:Nat) x0++#[(32:UInt8),49,32,49].toList].length)*Qbhn Qbzj.P (9:Nat)≤(140737488355328:Nat))) (some (.go (Qu6t Qbzj.fn 18) [.own 1 [] 0,.int .i64 (IntKind.i64.wrap (x0+1))] [.box [.sl .u8 x1,.int .i64 x2],.row .str (x3++[#[(107:UInt8),105,110,100,32,103].toList++dDec (4:Nat) x0++#[(32:UInt8),49,32,49].toList]) 0 0 0 .no])) none) none) none) none) (some (.ret (.own 1 [] 0) [.box [.sl .u8 x1,.int .i64 x2],.row .str x3 0 0 0 .no])):=by kernel_rfl
theorem Qli7(x0:Int)(x1:List (El .u8))(x2:Int)(x3:List (El .str)):aRun Qbzj 600 true (Qu6t Qbzj.fn 5) (cutSt Qbzj.fn (Q1m4 Qbzj (Qu6t Qbzj.fn 5)) [.own 1 [] 0,.int .i64 x0] [.box [.sl .u8 x1,.int .i64 x2],.row .str x3 0 0 0 .no]) =
 ifb (decide ((↑x3.length:Int)<x0)) (ifb (decide ((x3.length+[#[(115:UInt8),101,116,32,107,108,49,32,108,101,118,101,108,32,57,32,50].toList].length)*Qbhn Qbzj.P (9:Nat)≤(140737488355328:Nat))) (some (.go (Qu6t Qbzj.fn 5) [.own 1 [] 0,.int .i64 x0] [.box [.sl .u8 x1,.int .i64 x2],.row .str (x3++[#[(115:UInt8),101,116,32,107,108,49,32,108,101,118,101,108,32,57,32,50].toList]) 0 0 0 .no])) none) (some (.ret (.own 1 [] 0) [.box [.sl .u8 x1,.int .i64 x2],.row .str x3 0 0 0 .no])):=by kernel_rfl
theorem Q9sd{bs:List Int}{p q:Int}{xs:List Str}(h1:xs.length≤400)(h2:∀s∈xs,s.length≤100000)(h3:p≤q)(h4:q≤p+100):∃x:LsP,(AV.own 1 [] 0:V)=.own 1 [] 0∧([.box [.sl .u8 bs,.int .i64 q],.row .str xs 0 0 0 .no]:List O)=[.box [.sl .u8 bs,.int .i64 x.p],.row .str x.l 0 0 0 .no]∧Qw67 p x:=⟨⟨xs,q⟩,rfl,rfl,h1,h2,h3,h4⟩
theorem Qlp2(bs:List Int)(p q:Int)(h1:p≤q)(h2:q≤p+100):∀(d i:Nat) (xs:List Str),i+d=13→xs.length+d≤400→(∀s∈xs,s.length≤100000) →
  CutE Qbzj Qvwl 13 [.own 1 [] 0,.int .i64 (i:Int)] [.box [.sl .u8 bs,.int .i64 q],.row .str xs 0 0 0 .no] (fun v h=>∃x:LsP,v=.own 1 [] 0∧h=[.box [.sl .u8 bs,.int .i64 x.p],.row .str x.l 0 0 0 .no]∧Qw67 p x):=by
 have hbb:Qbhn Qbzj.P 9≤256:=of_decide_eq_true (by kernel_rfl)
 intro d
 induction d with
 | zero =>
  intro i xs hi hl hz
  refine CutE.of Qaq1 rfl (Qq4r i bs q xs) ?_
  rw[show decide ((i:Int)<(13:Int))=false from decide_eq_false (by omega)]
  exact SatE.ret (Q9sd (by omega) hz h1 h2)
 | succ d ih =>
  intro i xs hi hl hz
  refine CutE.of Qaq1 rfl (Qq4r i bs q xs) ?_
  have hw:IntKind.i64.wrap ((i:Int)+1)=((i+1:Nat):Int):=by rw[Qbrg]<;>omega
  have hk:(decide ((0:Int)≤(i:Int))&&decide ((i:Int)<(10:Int) ^ ((4:Nat)+(1:Nat))))=true:=by
   rw[show(10:Int) ^ ((4:Nat)+(1:Nat))=100000 from rfl]
   simp only[qaT,qdT];omega
  have hd:=(Qbt7 (i:Int) hk).2
  rw[show decide ((i:Int)<(13:Int))=true from decide_eq_true (by omega),hw,hk]
  simp only[Qd8q]
  generalize dDec (4:Nat) (i:Int)=w at hd ⊢
  refine SatE.need (decide_eq_true (by simp;omega)) (SatE.need (decide_eq_true (by simp;omega)) (SatE.need (Q1mk hbb (by simp;omega)) (SatE.cut (ih (i+1) _ (by omega) (by simp;omega) (fun s hs=>?_)))))
  rcases List.mem_append.1 hs with h|h
  ·exact hz s h
  ·rw[List.mem_singleton]at h
   subst h
   simp;omega
theorem Qws3(bs:List Int)(p q:Int)(h1:p≤q)(h2:q≤p+100):∀(d i:Nat) (xs:List Str),i+d=7→xs.length+d≤400→(∀s∈xs,s.length≤100000) →
  CutE Qbzj Qvwl 18 [.own 1 [] 0,.int .i64 (i:Int)] [.box [.sl .u8 bs,.int .i64 q],.row .str xs 0 0 0 .no] (fun v h=>∃x:LsP,v=.own 1 [] 0∧h=[.box [.sl .u8 bs,.int .i64 x.p],.row .str x.l 0 0 0 .no]∧Qw67 p x):=by
 have hbb:Qbhn Qbzj.P 9≤256:=of_decide_eq_true (by kernel_rfl)
 intro d
 induction d with
 | zero =>
  intro i xs hi hl hz
  refine CutE.of Qaq1 rfl (Qqza i bs q xs) ?_
  rw[show decide ((i:Int)<(7:Int))=false from decide_eq_false (by omega)]
  exact SatE.ret (Q9sd (by omega) hz h1 h2)
 | succ d ih =>
  intro i xs hi hl hz
  refine CutE.of Qaq1 rfl (Qqza i bs q xs) ?_
  have hw:IntKind.i64.wrap ((i:Int)+1)=((i+1:Nat):Int):=by rw[Qbrg]<;>omega
  have hk:(decide ((0:Int)≤(i:Int))&&decide ((i:Int)<(10:Int) ^ ((4:Nat)+(1:Nat))))=true:=by
   rw[show(10:Int) ^ ((4:Nat)+(1:Nat))=100000 from rfl]
   simp only[qaT,qdT];omega
  have hd:=(Qbt7 (i:Int) hk).2
  rw[show decide ((i:Int)<(7:Int))=true from decide_eq_true (by omega),hw,hk]
  simp only[Qd8q]
  generalize dDec (4:Nat) (i:Int)=w at hd ⊢
  refine SatE.need (decide_eq_true (by simp;omega)) (SatE.need (decide_eq_true (by simp;omega)) (SatE.need (Q1mk hbb (by simp;omega)) (SatE.cut (ih (i+1) _ (by omega) (by simp;omega) (fun s hs=>?_)))))
  rcases List.mem_append.1 hs with h|h
  ·exact hz s h
  ·rw[List.mem_singleton]at h
   subst h
   simp;omega
theorem Qek5(bs:List Int)(p q:Int)(h1:p≤q)(h2:q≤p+100)(n:Nat)(hn:n≤202):∀(d:Nat) (xs:List Str),xs.length+d=n→(∀s∈xs,s.length≤100000) →
  CutE Qbzj Qvwl 5 [.own 1 [] 0,.int .i64 (n:Int)] [.box [.sl .u8 bs,.int .i64 q],.row .str xs 0 0 0 .no] (fun v h=>∃x:LsP,v=.own 1 [] 0∧h=[.box [.sl .u8 bs,.int .i64 x.p],.row .str x.l 0 0 0 .no]∧Qw67 p x):=by
 have hbb:Qbhn Qbzj.P 9≤256:=of_decide_eq_true (by kernel_rfl)
 intro d
 induction d with
 | zero =>
  intro xs hi hz
  refine CutE.of Qaq1 rfl (Qli7 n bs q xs) ?_
  rw[show decide ((xs.length:Int)<(n:Int))=false from decide_eq_false (by omega)]
  exact SatE.ret (Q9sd (by omega) hz h1 h2)
 | succ d ih =>
  intro xs hi hz
  refine CutE.of Qaq1 rfl (Qli7 n bs q xs) ?_
  rw[show decide ((xs.length:Int)<(n:Int))=true from decide_eq_true (by omega)]
  simp only[Qd8q]
  refine SatE.need (Q1mk hbb (by simp;omega)) (SatE.cut (ih _ (by simp;omega) (fun s hs=>?_)))
  rcases List.mem_append.1 hs with h|h
  ·exact hz s h
  ·rw[List.mem_singleton]at h
   subst h
   simp
theorem Qzly(bs:List Int)(p:Int)(ls:List Str)(hg:splK bs p ls=true):Qewq Tryz.prog CP Qvwl [.ptr 0 0,.sl .str ls] [.box [.sl .u8 bs,.int .i64 p]] (.own 1 [] 0) [.box [.sl .u8 bs,.int .i64 (dSpl bs p ls).p],.row .str (dSpl bs p ls).l 0 0 0 .no]∧Qw67 p (dSpl bs p ls):=by
 simp only[splK,qaT,qdT,qlA]at hg
 obtain⟨hbs,h0,h9,h1,h100,hz⟩:=hg
 have hbb:Qbhn Qbzj.P 9≤256:=of_decide_eq_true (by kernel_rfl)
 have pk:∀(q n:Int),p≤q→q≤p+10→1≤n→0≤pickV bs q n∧pickV bs q n<n:=fun q n h2 h3 h4=>Q5va hbs (Q8s4 (by omega) (by omega)) h4
 have hE:CallE Qbzj.P Qbzj.C Qvwl [.ptr 0 0,.sl .str ls] [.box [.sl .u8 bs,.int .i64 p]] (fun v h=>∃x:LsP,v=.own 1 [] 0∧h=[.box [.sl .u8 bs,.int .i64 x.p],.row .str x.l 0 0 0 .no]∧Qw67 p x):=by
  refine CallE.of Qaq1 (by kernel_rfl) (Qjtq bs p ls) ?_
  conv=>zeta
  rw[show(([]:List (El .str))++ls)=ls from rfl]
  obtain⟨k0,k1⟩:=pk p (ls.length:Int) (by omega) (by omega) (by omega)
  generalize pickV bs p (ls.length:Int)=k at k0 k1 ⊢
  obtain⟨k,rfl⟩:=Int.eq_ofNat_of_zero_le k0
  have hk:k<ls.length:=by omega
  have ik:inb (k:Int) ls.length=true:=by simp only[inb,qaT,qdT];omega
  have hw:IntKind.i64.wrap ((k:Int)+1)=((k+1:Nat):Int):=by rw[Qbrg]<;>omega
  have hzz:∀s∈ls,s.length≤100000:=fun s hs=>Nat.le_trans (hz s hs) (by omega)
  have hset:∀(v:Str),v.length≤100000→∀s∈ls.set k v,s.length≤100000:=fun v hv s hs=>by
   rcases List.mem_or_eq_of_mem_set hs with h|h
   ·exact hzz s h
   ·subst h;exact hv
  rw[hw]
  simp only[Int.toNat_natCast]
  refine SatE.need (Q1mk hbb (by simp;omega)) (SatE.need (Q8s4 (by omega) (by omega)) (SatE.need (Q8s4 (by omega) (by omega)) ?_))
  refine SatE.ifb (fun _=>?_) (fun _=>SatE.ifb (fun _=>?_) (fun _=>SatE.ifb (fun _=>?_) (fun _=>SatE.ifb (fun _=>?_) (fun _=>SatE.ifb (fun _=>?_) (fun _=>?_)))))
  ·refine SatE.need (by rw[rdOk,hbs,Q8s4 (q:=p+1+1) (by omega) (by omega)];rfl) (SatE.need ik (SatE.ret (Q9sd (by simp;omega) (hset _ (Qf3p (fun s hs=>Nat.le_trans (of_decide_eq_true (qlA.1 (show(List.all _ fun s:Str=>decide (s.length≤100))=true from by kernel_rfl) s hs)) (by omega)))) (by omega) (by omega))))
  ·refine SatE.need (by simp only[qaT,qdT];omega) (SatE.need (Q1mk hbb (by simp;omega)) (SatE.need (by simp only[qaT,qdT];omega) (SatE.need (Q1mk hbb (by simp;omega)) (SatE.ret (Q9sd (by simp;omega) (fun s hs=>?_) (by omega) (by omega))))))
   rcases List.mem_append.1 hs with h|h
   ·exact hzz s (List.mem_of_mem_drop (List.mem_of_mem_take h))
   ·exact hzz s (List.mem_of_mem_drop (List.mem_of_mem_take h))
  ·exact SatE.cut (Qlp2 bs p (p+1+1) (by omega) (by omega) 13 0 ls (by omega) (by omega) hzz)
  ·exact SatE.cut (Qws3 bs p (p+1+1) (by omega) (by omega) 7 0 ls (by omega) (by omega) hzz)
  ·have hx:ls.getD k (Qbzj.C.dflt Ty.str)=ls[k]:=by simp[hk]
   have hb:bendK bs (p+1+1) ls[k]=true:=by
    have:=hz _ (List.getElem_mem hk)
    simp only[bendK,qaT,qdT];exact⟨hbs,by omega,by omega,by omega⟩
   obtain⟨d1,d2,d3⟩:=(Qvgm bs (p+1+1) ls[k] hb).2
   rw[hx]
   exact SatE.need ik (SatE.need hb (SatE.need ik (SatE.ret (Q9sd (by simp;omega) (hset _ d1) (by omega) (by omega)))))
  ·obtain⟨a1,a2⟩:=pk (p+1+1) 2 (by omega) (by omega) (by omega)
   generalize pickV bs (p+1+1) 2=b at a1 a2 ⊢
   obtain⟨b,rfl⟩:=Int.eq_ofNat_of_zero_le a1
   rw[show IntKind.i64.wrap (200+(b:Int))=((200+b:Nat):Int) by rw[Qbrg]<;>omega]
   exact SatE.need (Q8s4 (by omega) (by omega)) (SatE.cut (Qek5 bs p _ (by omega) (by omega) (200+b) (by omega) (200+b-ls.length) ls (by omega) hzz))
 obtain⟨v,H',h,x,rfl,rfl,hx⟩:=hE
 unfold dSpl
 exact Qk78 (p:=fun x:LsP=>Qewq Tryz.prog CP Qvwl [.ptr 0 0,.sl .str ls] [.box [.sl .u8 bs,.int .i64 p]] (.own 1 [] 0) [.box [.sl .u8 bs,.int .i64 x.p],.row .str x.l 0 0 0 .no]∧Qw67 p x) ⟨x,h,hx⟩
theorem Qn0r(bs:List Int)(p:Int)(ls:List Str)(hg:splK bs p ls=true):Qewq Tryz.prog CP Qvwl [.ptr 0 0,.sl .str ls] [.box [.sl .u8 bs,.int .i64 p]] (.own 1 [] 0) [.box [.sl .u8 bs,.int .i64 (dSpl bs p ls).p],.row .str (dSpl bs p ls).l 0 0 0 .no]:=by
 exact(Qzly bs p ls hg).1
theorem Qynw:EntOK Tryz.prog CP Qvwl Q4gc:=by
 refine⟨eob (by kernel_rfl),fun _ _ _ _ h=>?_⟩
 simp only[Q4gc]at h
 split at h
 ·obtain⟨hg,rfl,rfl⟩:=eoh h
  exact Qn0r _ _ _ hg
 ·cases h

noncomputable def Qyqq:RE Ty El:=⟨Tryz.prog,CP,[(Qajm,Qqtq),(Qpxs,Q7v2),(Qg1t,Qvdz),(Qvwl,Q4gc),(Qcis,Qulm),(Qikw,Q0bo),(Q1eg,Qysi)],Tryz.f71,0,[],[]⟩
theorem Qbty:REOK Qyqq Qolp:=⟨CP_ok,(TabOK.cons Q3w2 (TabOK.cons Q0e7 (TabOK.cons Qr6r (TabOK.cons Qynw (TabOK.cons Qm3e (TabOK.cons Qbge (TabOK.cons Qrqa Qye1))))))),by kernel_rfl,by kernel_rfl⟩
theorem Q3o0(c:List Int):aRun Qyqq 600 false (body0 Qyqq.fn) (Q4gm Qyqq.fn [.sl .u8 c] []) =
 let z2:=(List.take (2000:Nat) c);let z7:=(0:Int);let z0:=(dText z2 z7);let z1:=(dSpl z2 (z0.p+1) z0.l);let z5:=(↑(List.length (joinL z1.l)):Int);let z4:=(z5-IntKind.i64.wrap (pickV z2 (z1.p+1) (2:Int)*min (1:Int) z5));let z6:=(↑(List.length (joinL z0.l)):Int);let z9:=((10000:Int)+pickV z2 (z1.p+1) (2:Int));let z10:=(z0.p+1+1);let z3:=(z6-IntKind.i64.wrap (pickV z2 z10 (2:Int)*min (1:Int) z6));let z8:=((10000:Int)+pickV z2 z10 (2:Int));let z11:=(120:UInt8);ifb (txK z2 z7) (ifb (posOk z0.p) (ifb (pickV z2 z0.p (2:Int)==z7) (ifb (splK z2 (z0.p+1) z0.l) (ifb (Qrt3 z1.l) (ifb (posOk z1.p) (ifb (pickV z2 z1.p (24:Int)==z7) (ifb (posOk (z1.p+1)) (ifb (decide (z7≤z7)&&(decide (0≤IntKind.i64.wrap z4)&&decide (IntKind.i64.wrap z4≤z5))) (some (.ret (.str (List.take ((IntKind.i64.wrap z4).toNat-Int.toNat z7) (List.drop (Int.toNat z7) (joinL z1.l)))) [])) none) none) (ifb (pickV z2 z1.p (24:Int)==(1:Int)) (ifb (posOk (z1.p+1)) (ifb (decide (#[z11].toList.length≤(1:Nat))&&decide (IntKind.i64.wrap z9<(16384:Int))) (some (.ret (.str (Qalz #[z11].toList (IntKind.i64.wrap z9))) [])) none) none) (some (.ret (.str (joinL z1.l)) [])))) none) none) none) (ifb (Qrt3 z0.l) (ifb (posOk (z0.p+1)) (ifb (pickV z2 (z0.p+1) (24:Int)==z7) (ifb (posOk z10) (ifb (decide (z7≤z7)&&(decide (0≤IntKind.i64.wrap z3)&&decide (IntKind.i64.wrap z3≤z6))) (some (.ret (.str (List.take ((IntKind.i64.wrap z3).toNat-Int.toNat z7) (List.drop (Int.toNat z7) (joinL z0.l)))) [])) none) none) (ifb (pickV z2 (z0.p+1) (24:Int)==(1:Int)) (ifb (posOk z10) (ifb (decide (#[z11].toList.length≤(1:Nat))&&decide (IntKind.i64.wrap z8<(16384:Int))) (some (.ret (.str (Qalz #[z11].toList (IntKind.i64.wrap z8))) [])) none) none) (some (.ret (.str (joinL z0.l)) [])))) none) none)) none) none:=by kernel_rfl
theorem Qkif(c:List Int)(hg:Qf9o c=true):Qewq Tryz.prog CP Qolp [.sl .u8 c] [] (.str (Qerj c).s) []∧Q2vc (Qerj c):=by
 have hbs:=Qz2g hg 2000
 have ht:txK (c.take 2000) 0=true:=by simp only[txK,qaT,qdT];exact⟨hbs,by omega,by omega⟩
 obtain⟨b1,b2,b3,b4,b5⟩:=(Qhjb (c.take 2000) 0 ht).2
 have hE:CallE Qyqq.P Qyqq.C Qolp [.sl .u8 c] [] (fun v h=>∃x:PsD,v=.str x.s∧h=[]∧Q2vc x):=by
  refine CallE.of Qbty (by kernel_rfl) (Q3o0 c) ?_
  conv=>zeta
  generalize dText (c.take 2000) 0=z at *
  have hz:∀s∈z.l,s.length≤200:=fun s hs=>by
   have:=b3 s hs
   simp only[okLn,qaT,qdT]at this
   exact this.2
  refine SatE.need ht (SatE.need (Q8s4 (by omega) (by omega)) (SatE.ifb (fun _=>?_) (fun _=>?_)))
  ·have hk:splK (c.take 2000) (z.p+1) z.l=true:=by
    simp only[splK,qaT,qdT,qlA];exact⟨hbs,by omega,by omega,b1,b2,hz⟩
   obtain⟨d1,d2,d3,d4⟩:=(Qzly (c.take 2000) (z.p+1) z.l hk).2
   generalize dSpl (c.take 2000) (z.p+1) z.l=y at *
   refine SatE.need hk (SatE.need (by simp only[Qrt3,qaT,qdT,qlA];exact⟨by omega,d2⟩) ?_)
   have hL:(joinL y.l).length≤1000000000:=by
    have h:=Q3xg (m:=100000) (l:=y.l) (by assumption)
    have h2:=Nat.mul_le_mul_right (100000+1) (show(y.l).length≤1000 by omega)
    omega
   generalize joinL y.l=L at hL ⊢
   have qq:0≤y.p∧y.p≤5000:=by omega
   generalize y.p=q at qq ⊢
   refine SatE.need (Q8s4 (by omega) (by omega)) (SatE.ifb (fun _=>?_) (fun _=>SatE.ifb (fun _=>?_) (fun _=>SatE.ret ⟨⟨_⟩,rfl,rfl,decide_eq_true hL⟩)))
   ·obtain⟨a1,a2⟩:=Q5va (n:=2) hbs (Q8s4 (q:=q+1) (by omega) (by omega)) (by omega)
    generalize pickV (List.take 2000 c) (q+1) 2=b at a1 a2 ⊢
    have hm:0≤b*min (1:Int) (L.length:Int)∧b*min (1:Int) (L.length:Int)≤(L.length:Int)∧b*min (1:Int) (L.length:Int)≤1:=by
     rcases(show b=0∨b=1 by omega)with rfl|rfl
     ·simp
     ·omega
    generalize b*min (1:Int) (L.length:Int)=e at hm ⊢
    rw[show IntKind.i64.wrap e=e from Qbrg (by omega) (by omega),show IntKind.i64.wrap ((L.length:Int)-e)=(L.length:Int)-e from Qbrg (by omega) (by omega)]
    exact SatE.need (Q8s4 (by omega) (by omega)) (SatE.need (by simp only[qaT,qdT];omega) (SatE.ret ⟨⟨_⟩,rfl,rfl,decide_eq_true (by simp;omega)⟩))
   ·obtain⟨a1,a2⟩:=Q5va (n:=2) hbs (Q8s4 (q:=q+1) (by omega) (by omega)) (by omega)
    generalize pickV (List.take 2000 c) (q+1) 2=b at a1 a2 ⊢
    rw[show IntKind.i64.wrap (10000+b)=10000+b from Qbrg (by omega) (by omega)]
    have hk:(decide (#[(120:UInt8)].toList.length≤(1:Nat))&&decide (10000+b<(16384:Int)))=true:=by
     rw[decide_eq_true (show 10000+b<(16384:Int) by omega)];rfl
    have hd:=(Qyn0 _ _ hk).2
    exact SatE.need (Q8s4 (by omega) (by omega)) (SatE.need hk (SatE.ret ⟨⟨_⟩,rfl,rfl,decide_eq_true (Nat.le_trans hd (by omega))⟩))
  ·have hz2:∀s∈z.l,s.length≤100000:=fun s hs=>Nat.le_trans (hz s hs) (by omega)
   refine SatE.need (by simp only[Qrt3,qaT,qdT,qlA];exact⟨by omega,hz2⟩) ?_
   have hL:(joinL z.l).length≤1000000000:=by
    have h:=Q3xg (m:=100000) (l:=z.l) (by assumption)
    have h2:=Nat.mul_le_mul_right (100000+1) (show(z.l).length≤1000 by omega)
    omega
   generalize joinL z.l=L at hL ⊢
   have qq:0≤z.p+1∧z.p+1≤5000:=by omega
   generalize z.p+1=q at qq ⊢
   refine SatE.need (Q8s4 (by omega) (by omega)) (SatE.ifb (fun _=>?_) (fun _=>SatE.ifb (fun _=>?_) (fun _=>SatE.ret ⟨⟨_⟩,rfl,rfl,decide_eq_true hL⟩)))
   ·obtain⟨a1,a2⟩:=Q5va (n:=2) hbs (Q8s4 (q:=q+1) (by omega) (by omega)) (by omega)
    generalize pickV (List.take 2000 c) (q+1) 2=b at a1 a2 ⊢
    have hm:0≤b*min (1:Int) (L.length:Int)∧b*min (1:Int) (L.length:Int)≤(L.length:Int)∧b*min (1:Int) (L.length:Int)≤1:=by
     rcases(show b=0∨b=1 by omega)with rfl|rfl
     ·simp
     ·omega
    generalize b*min (1:Int) (L.length:Int)=e at hm ⊢
    rw[show IntKind.i64.wrap e=e from Qbrg (by omega) (by omega),show IntKind.i64.wrap ((L.length:Int)-e)=(L.length:Int)-e from Qbrg (by omega) (by omega)]
    exact SatE.need (Q8s4 (by omega) (by omega)) (SatE.need (by simp only[qaT,qdT];omega) (SatE.ret ⟨⟨_⟩,rfl,rfl,decide_eq_true (by simp;omega)⟩))
   ·obtain⟨a1,a2⟩:=Q5va (n:=2) hbs (Q8s4 (q:=q+1) (by omega) (by omega)) (by omega)
    generalize pickV (List.take 2000 c) (q+1) 2=b at a1 a2 ⊢
    rw[show IntKind.i64.wrap (10000+b)=10000+b from Qbrg (by omega) (by omega)]
    have hk:(decide (#[(120:UInt8)].toList.length≤(1:Nat))&&decide (10000+b<(16384:Int)))=true:=by
     rw[decide_eq_true (show 10000+b<(16384:Int) by omega)];rfl
    have hd:=(Qyn0 _ _ hk).2
    exact SatE.need (Q8s4 (by omega) (by omega)) (SatE.need hk (SatE.ret ⟨⟨_⟩,rfl,rfl,decide_eq_true (Nat.le_trans hd (by omega))⟩))
 obtain⟨v,H',h,x,rfl,rfl,hx⟩:=hE
 unfold Qerj
 exact Qk78 (p:=fun x:PsD=>Qewq Tryz.prog CP Qolp [.sl .u8 c] [] (.str x.s) []∧Q2vc x) ⟨x,h,hx⟩
theorem Qej0(c:List Int)(hg:Qf9o c=true):Qewq Tryz.prog CP Qolp [.sl .u8 c] [] (.str (Qerj c).s) []:=by
 exact(Qkif c hg).1
theorem Q7x1:EntOK Tryz.prog CP Qolp Q97b:=by
 refine⟨eob (by kernel_rfl),fun _ _ _ _ h=>?_⟩
 simp only[Q97b]at h
 split at h
 ·obtain⟨hg,rfl,rfl⟩:=eoh h
  exact Qej0 _ hg
 ·cases h
end Lx
namespace Lx
open Go Go.Proofs
structure PrD where
 ks:List Kind
 ps:List Point
 es:List Entry
 deriving Inhabited
end Lx
namespace Lx
open Go Go.Proofs
end Lx
namespace Lx
open Go Go.Proofs
noncomputable def Qim2:RE Ty El:=⟨Tryz.prog,CP,[(Qryc,Q123),(Qg3n,Qdux),(Q4bs,Qna9),(Q659,Qb5f),(Qg00,Q7p0),(Q0gt,Qroy),(Qiq5,Qsxi),(Qi5t,Qcb4),(Q3pj,Qj6w),(Q5ff,Qo07),(Q8ie,Q4q8),(Qwr6,Qxwe),(Qz8g,Qkmo),(Qza3,Qwc8)],Tryz.f155,4,[],[]⟩
theorem Qf74:REOK Qim2 Qk0k:=⟨CP_ok,(TabOK.cons Qne7 (TabOK.cons Qrmu (TabOK.cons Q0ms (TabOK.cons Q4vp (TabOK.cons Qtc1 (TabOK.cons Q6fz (TabOK.cons Q8il (TabOK.cons Qvs4 (TabOK.cons Qvb7 (TabOK.cons Q8iz (TabOK.cons Q5yh (TabOK.cons Q763 (TabOK.cons Qkv7 (TabOK.cons Qpoc Qye1)))))))))))))),by kernel_rfl,by kernel_rfl⟩
theorem Qjoz(ks:List Kind)(ps:List Point)(es:List Entry)(l:Str):aRun Qim2 600 false (body0 Qim2.fn) (Q4gm Qim2.fn [.ptr 0 0,.str l] [.box [.own 1 [] 0,.own 2 [] 0,.own 3 [] 0],.row .kind ks 0 0 0 .no,.row .point ps 0 0 0 .no,.row .entry es 1 0 0 .no]) =
 let z1:HL:=[.box [.own 1 [] 0,.own 2 [] 0,.own 3 [] 0],.row .kind ks 0 0 0 .no,.row .point ps 0 0 0 .no,.row .entry es 1 0 0 .no];let z5:=(cutS (↑(UInt8.toNat (32:UInt8)):Int) l);let z7:=(Qim2.C.dflt Ty.str);let z8:OL:=(some (.ret (.int .i64 3) z1));let z14:=(1000000000:Nat);let z16:OL:=(some (.ret (.int .i64 6) z1));let z20:=(Int.toNat (1:Int));let z2:=(z5.getD z20 z7);let z21:=(↑z5.length:Int);let z0:=(List.take (z21.toNat-Int.toNat (2:Int)) (List.drop (Int.toNat (2:Int)) z5));let z15:=(decide ((0:Int)≤(2:Int))&&(decide ((2:Int)≤z21)&&decide (z21≤z21)));let z18:=(inb (0:Int) (decsV z0).length);let z19:=(inb (1:Int) (decsV z0).length);let z22:=(readR l);let z6:OL:=(some (.ret (.int .i64 0) [.box [.own 1 [] 0,.own 2 [] 0,.own 4 [] 0],.row .kind ks 0 0 0 .no,.row .point ps 0 0 0 .no,.out,.row .entry (layF es z22.flight (Fld.mk z22.what z22.number z22.value)) 1 0 0 .no]));let z17:=(ifb (layK ks ps es z22.what) z6 none);let z23:OL:=(some (.ret (.int .i64 4) z1));let z24:=(decide ((7:Int)=(7:Int))&&decide (z0.length≤(2000000000:Nat)));let z25:=(decide ((218:Nat)=Qxxs)&&decide (ps.length<z14));let z26:=(szV z22.value&&(decide (ks.length<z14)&&decide (ps.length<z14)));let z27:=(Int.toNat (0:Int));let z9:=(z5.getD z27 z7==#[(107:UInt8),105,110,100].toList);let z29:=(ifb (decide ((↑es.length:Int)≥(12:Int))) z16 z17);let z31:=(!Qh2h ks ps z22.flight z22.what z22.number z22.value);let z32:=(z5.getD z27 z7==#[(115:UInt8),101,116].toList);let z34:=(inb (0:Int) z5.length);let z35:=(Qim2.C.dflt Ty.int);let z3:=((decsV z0).getD z27 z35);let z4:=((decsV z0).getD z20 z35);let z10:OL:=(some (.ret (.int .i64 0) [.box [.own 1 [] 0,.own 4 [] 0,.own 3 [] 0],.row .kind ks 0 0 0 .no,.out,.row .entry es 1 0 0 .no,.row .point (sortP (ps++[Point.mk z2 z3 z4])) 0 0 0 .no]));let z11:=(ifb (decide ((ps.length+[Point.mk z2 z3 z4].length)*Qbhn Qim2.P (160:Nat)≤(140737488355328:Nat))) (ifb (decide ((220:Nat)=Qne2)&&srtPK (ps++[Point.mk z2 z3 z4])) z10 none) none);let z12:OL:=(some (.ret (.int .i64 0) [.box [.own 4 [] 0,.own 2 [] 0,.own 3 [] 0],.out,.row .point ps 0 0 0 .no,.row .entry es 1 0 0 .no,.row .kind (sortK (ks++[Kind.mk z2 z3 z4])) 0 0 0 .no]));let z13:=(ifb (decide ((ks.length+[Kind.mk z2 z3 z4].length)*Qbhn Qim2.P (40:Nat)≤(140737488355328:Nat))) (ifb (decide ((216:Nat)=Quea)&&srtKK (ks++[Kind.mk z2 z3 z4])) z12 none) none);let z28:=(ifb (decide ((↑ps.length:Int)≥(16:Int))) z16 z11);let z30:=(ifb (decide ((↑ks.length:Int)≥(6:Int))) z16 z13);let z33:=(Point.mk z2 z3 z4);ifb (szS l) (ifb z34 (ifb z9 (ifb z9 (ifb (z21 !=(4:Int)) z8 (ifb z15 (ifb z24 (ifb (!z0.all decB) z8 (ifb (inb (1:Int) z5.length) (ifb (szS z2) (ifb z34 (ifb z9 (ifb z18 (ifb z19 (ifb (!(Kind.mk z2 z3 z4).ok) z8 (ifb (decide (ks.length<z14)) (ifb (decide (idxF (fun p=>p.name==z5.getD z20 z7) ks≥0)) z23 z30) none)) none) none) (ifb z18 (ifb z19 (ifb (!z33.ok) z8 (ifb (decide (ps.length<z14)) (ifb (decide (idxF (fun p=>p.name==z5.getD z20 z7) ps≥0)) z23 (ifb z25 (ifb (!Q343 ps z33) (some (.ret (.int .i64 5) z1)) z28) none)) none)) none) none)) none) none) none)) none) none)) (ifb z32 (ifb (szS l) (ifb (!(readF l).isSome) z8 (ifb z26 (ifb z31 (some (.ret (.int .i64 7) z1)) (ifb (decide (es.length<z14)) (ifb (decide (idxF (fun p=>p.name==z22.flight) es<0)) z29 z17) none)) none)) none) (some (.ret (.int .i64 2) z1)))) (ifb (z5.getD z27 z7==#[(112:UInt8),111,105,110,116].toList) (ifb (z21 !=(4:Int)) z8 (ifb z15 (ifb z24 (ifb (!z0.all decB) z8 (ifb (inb (1:Int) z5.length) (ifb (szS z2) (ifb z34 (ifb z9 (ifb z18 (ifb z19 (ifb (!(Kind.mk z2 z3 z4).ok) z8 (ifb (decide (ks.length<z14)) (ifb (decide (idxF (fun p=>p.name==z5.getD z20 z7) ks≥0)) z23 z30) none)) none) none) (ifb z18 (ifb z19 (ifb (!z33.ok) z8 (ifb (decide (ps.length<z14)) (ifb (decide (idxF (fun p=>p.name==z5.getD z20 z7) ps≥0)) z23 (ifb z25 (ifb (!Q343 ps z33) (some (.ret (.int .i64 5) z1)) z28) none)) none)) none) none)) none) none) none)) none) none)) (ifb z32 (ifb (szS l) (ifb (!(readF l).isSome) z8 (ifb z26 (ifb z31 (some (.ret (.int .i64 7) z1)) (ifb (decide (es.length<z14)) (ifb (decide (idxF (fun p=>p.name==z22.flight) es<0)) z29 z17) none)) none)) none) (some (.ret (.int .i64 2) z1))))) none) none:=by kernel_rfl
theorem Que7(ks:List Kind)(ps:List Point)(es:List Entry)(l:Str)(hg:Qnkc ks ps es l=true):Qewq Tryz.prog CP Qk0k [.ptr 0 0,.str l] (H0L ks ps es) (.int .i64 (lineF ks ps es l).code) (HUL (lineF ks ps es l).ks (lineF ks ps es l).ps (lineF ks ps es l).es):=by
 simp only[Qnkc,qaT]at hg
 obtain⟨hE,hs⟩:=hg
 obtain⟨ck,cp,l1,l2,l3⟩:=Qs0c hE
 have hl:=of_decide_eq_true (show decide (l.length≤1000000000)=true from hs)
 have hcp:∀w∈cutS 32 l,szS w=true:=fun w hw=>decide_eq_true (by have:=Qh3y 32 l w hw;omega)
 have hp0:=List.length_pos_iff.2 (Qk4w 32 l)
 have h32:(((32:UInt8).toNat:Nat):Int)=32:=rfl
 have q1:decide (ks.length<1000000000)=true:=decide_eq_true (by omega)
 have q2:decide (ps.length<1000000000)=true:=decide_eq_true (by omega)
 have q3:decide (es.length<1000000000)=true:=decide_eq_true (by omega)
 have hb40:Qbhn Qim2.P 40≤256:=of_decide_eq_true (by kernel_rfl)
 have hb160:Qbhn Qim2.P 160≤256:=of_decide_eq_true (by kernel_rfl)
 have in0:inb (0:Int) (cutS 32 l).length=true:=by simp only[inb,qaT,qdT];omega
 cases k1:((cutS 32 l).getD 0 []==Qq2m) with
 | true =>
  rw[Qka8 k1]
  show Qewq Tryz.prog CP Qk0k [.ptr 0 0,.str l] (H0L ks ps es) (.int .i64 (kindC ks (cutS 32 l))) (HUL (Qbgk ks (cutS 32 l)) ps es)
  by_cases h4:(cutS 32 l).length=4
  ·obtain⟨a,b,c,d,hc⟩:=list4 h4
   have hb:szS b=true:=hcp b (by rw[hc];simp)
   rw[hc]at k1
   rw[hc]
   have hC:∀x:Int,((if (Qypu [a,b,c,d]).ok=true then if 0≤Qh2z ks (Qypu [a,b,c,d]).name then 4 else if 6≤ks.length then 6 else 0 else 3:Int)=x)→kindC ks [a,b,c,d]=x:=fun x h=>by rw[kindC,if_pos (show[a,b,c,d].length=4 from rfl)];exact h
   cases hd:[c,d].all decB with
   | false =>
    have e:kindC ks [a,b,c,d]=3:=Qn6i (fun _=>Qy6i (Qy9e hd))
    rw[Qntr (by rw[e];decide),e]
    refine U0 (Qewq.of Qf74 (by kernel_rfl) (Qjoz ks ps es l) ?_)
    conv=>zeta
    rw[h32,hc,show inb (0:Int) [a,b,c,d].length=true from rfl,show(List.getD [a,b,c,d] (Int.toNat 0) (Qim2.C.dflt .str)==#[(107:UInt8),105,110,100].toList)=true from k1,show((([a,b,c,d].length:Nat):Int) !=4)=false from rfl,show List.take ((([a,b,c,d].length:Nat):Int).toNat-Int.toNat 2) (List.drop (Int.toNat 2) [a,b,c,d])=[c,d] from rfl,show(decide ((0:Int)≤2)&&(decide ((2:Int)≤(([a,b,c,d].length:Nat):Int))&&decide ((([a,b,c,d].length:Nat):Int)≤(([a,b,c,d].length:Nat):Int))))=true from rfl,show(decide ((7:Int)=7)&&decide ([c,d].length≤2000000000))=true by simp,hd,hs]
    simp only[Qd8q,Qk7y,Bool.not_true,Bool.not_false]
    exact Sat.ret rfl rfl
   | true =>
   cases hk:(Qypu [a,b,c,d]).ok with
   | false =>
    have e:kindC ks [a,b,c,d]=3:=Qn6i (fun _=>hk)
    rw[Qntr (by rw[e];decide),e]
    refine U0 (Qewq.of Qf74 (by kernel_rfl) (Qjoz ks ps es l) ?_)
    conv=>zeta
    rw[h32,hc,show inb (0:Int) [a,b,c,d].length=true from rfl,show(List.getD [a,b,c,d] (Int.toNat 0) (Qim2.C.dflt .str)==#[(107:UInt8),105,110,100].toList)=true from k1,show((([a,b,c,d].length:Nat):Int) !=4)=false from rfl,show List.take ((([a,b,c,d].length:Nat):Int).toNat-Int.toNat 2) (List.drop (Int.toNat 2) [a,b,c,d])=[c,d] from rfl,show(decide ((0:Int)≤2)&&(decide ((2:Int)≤(([a,b,c,d].length:Nat):Int))&&decide ((([a,b,c,d].length:Nat):Int)≤(([a,b,c,d].length:Nat):Int))))=true from rfl,show(decide ((7:Int)=7)&&decide ([c,d].length≤2000000000))=true by simp,hd,show inb (1:Int) [a,b,c,d].length=true from rfl,show List.getD [a,b,c,d] (Int.toNat 1) (Qim2.C.dflt .str)=b from rfl,hb,decs2 hd,show inb (0:Int) [numF c,numF d].length=true from rfl,show inb (1:Int) [numF c,numF d].length=true from rfl,show List.getD [numF c,numF d] (Int.toNat 0) (Qim2.C.dflt .int)=numF c from rfl,show List.getD [numF c,numF d] (Int.toNat 1) (Qim2.C.dflt .int)=numF d from rfl,show Kind.mk b (numF c) (numF d)=Qypu [a,b,c,d] from rfl,show Point.mk b (numF c) (numF d)=Qh70 [a,b,c,d] from rfl,hs]
    rw[hk]
    simp only[Qd8q,Qk7y,Bool.not_true,Bool.not_false]
    exact Sat.ret rfl rfl
   | true =>
   rw[hk,if_pos rfl]at hC
   by_cases h5:0≤Qh2z ks (Qypu [a,b,c,d]).name
   ·have e:kindC ks [a,b,c,d]=4:=hC _ (if_pos h5)
    rw[Qntr (by rw[e];decide),e]
    refine U0 (Qewq.of Qf74 (by kernel_rfl) (Qjoz ks ps es l) ?_)
    conv=>zeta
    rw[h32,hc,show inb (0:Int) [a,b,c,d].length=true from rfl,show(List.getD [a,b,c,d] (Int.toNat 0) (Qim2.C.dflt .str)==#[(107:UInt8),105,110,100].toList)=true from k1,show((([a,b,c,d].length:Nat):Int) !=4)=false from rfl,show List.take ((([a,b,c,d].length:Nat):Int).toNat-Int.toNat 2) (List.drop (Int.toNat 2) [a,b,c,d])=[c,d] from rfl,show(decide ((0:Int)≤2)&&(decide ((2:Int)≤(([a,b,c,d].length:Nat):Int))&&decide ((([a,b,c,d].length:Nat):Int)≤(([a,b,c,d].length:Nat):Int))))=true from rfl,show(decide ((7:Int)=7)&&decide ([c,d].length≤2000000000))=true by simp,hd,show inb (1:Int) [a,b,c,d].length=true from rfl,show List.getD [a,b,c,d] (Int.toNat 1) (Qim2.C.dflt .str)=b from rfl,hb,decs2 hd,show inb (0:Int) [numF c,numF d].length=true from rfl,show inb (1:Int) [numF c,numF d].length=true from rfl,show List.getD [numF c,numF d] (Int.toNat 0) (Qim2.C.dflt .int)=numF c from rfl,show List.getD [numF c,numF d] (Int.toNat 1) (Qim2.C.dflt .int)=numF d from rfl,show Kind.mk b (numF c) (numF d)=Qypu [a,b,c,d] from rfl,show Point.mk b (numF c) (numF d)=Qh70 [a,b,c,d] from rfl,hs]
    rw[hk]
    simp only[Qd8q,Qk7y,Bool.not_true,Bool.not_false]
    refine Sat.nd q1 ?_
    rw[show decide (idxF (fun p:Kind=>p.name==b) ks≥0)=true from decide_eq_true h5]
    exact Sat.ret rfl rfl
   rw[if_neg h5]at hC
   have hn:∀y∈ks,y.name≠(Qypu [a,b,c,d]).name:=fun y hy e=>h5 (Q9yp.2 ⟨y,hy,beq_iff_eq.2 e⟩)
   by_cases h6:6≤ks.length
   ·have e:kindC ks [a,b,c,d]=6:=hC _ (if_pos h6)
    rw[Qntr (by rw[e];decide),e]
    refine U0 (Qewq.of Qf74 (by kernel_rfl) (Qjoz ks ps es l) ?_)
    conv=>zeta
    rw[h32,hc,show inb (0:Int) [a,b,c,d].length=true from rfl,show(List.getD [a,b,c,d] (Int.toNat 0) (Qim2.C.dflt .str)==#[(107:UInt8),105,110,100].toList)=true from k1,show((([a,b,c,d].length:Nat):Int) !=4)=false from rfl,show List.take ((([a,b,c,d].length:Nat):Int).toNat-Int.toNat 2) (List.drop (Int.toNat 2) [a,b,c,d])=[c,d] from rfl,show(decide ((0:Int)≤2)&&(decide ((2:Int)≤(([a,b,c,d].length:Nat):Int))&&decide ((([a,b,c,d].length:Nat):Int)≤(([a,b,c,d].length:Nat):Int))))=true from rfl,show(decide ((7:Int)=7)&&decide ([c,d].length≤2000000000))=true by simp,hd,show inb (1:Int) [a,b,c,d].length=true from rfl,show List.getD [a,b,c,d] (Int.toNat 1) (Qim2.C.dflt .str)=b from rfl,hb,decs2 hd,show inb (0:Int) [numF c,numF d].length=true from rfl,show inb (1:Int) [numF c,numF d].length=true from rfl,show List.getD [numF c,numF d] (Int.toNat 0) (Qim2.C.dflt .int)=numF c from rfl,show List.getD [numF c,numF d] (Int.toNat 1) (Qim2.C.dflt .int)=numF d from rfl,show Kind.mk b (numF c) (numF d)=Qypu [a,b,c,d] from rfl,show Point.mk b (numF c) (numF d)=Qh70 [a,b,c,d] from rfl,hs]
    rw[hk]
    simp only[Qd8q,Qk7y,Bool.not_true,Bool.not_false]
    refine Sat.nd q1 ?_
    rw[show decide (idxF (fun p:Kind=>p.name==b) ks≥0)=false from decide_eq_false h5,Qk7y]
    rw[decide_eq_true (show(ks.length:Int)≥6 by omega)]
    exact Sat.ret rfl rfl
   have e:kindC ks [a,b,c,d]=0:=hC _ (if_neg h6)
   have hln:Qbgk ks [a,b,c,d]=sortK (ks++[(Qypu [a,b,c,d])]):=by rw[Qbgk,e,if_pos rfl,Qz2h ck hn];rfl
   rw[hln,e]
   refine UK (Qewq.of Qf74 (by kernel_rfl) (Qjoz ks ps es l) ?_)
   conv=>zeta
   rw[h32,hc,show inb (0:Int) [a,b,c,d].length=true from rfl,show(List.getD [a,b,c,d] (Int.toNat 0) (Qim2.C.dflt .str)==#[(107:UInt8),105,110,100].toList)=true from k1,show((([a,b,c,d].length:Nat):Int) !=4)=false from rfl,show List.take ((([a,b,c,d].length:Nat):Int).toNat-Int.toNat 2) (List.drop (Int.toNat 2) [a,b,c,d])=[c,d] from rfl,show(decide ((0:Int)≤2)&&(decide ((2:Int)≤(([a,b,c,d].length:Nat):Int))&&decide ((([a,b,c,d].length:Nat):Int)≤(([a,b,c,d].length:Nat):Int))))=true from rfl,show(decide ((7:Int)=7)&&decide ([c,d].length≤2000000000))=true by simp,hd,show inb (1:Int) [a,b,c,d].length=true from rfl,show List.getD [a,b,c,d] (Int.toNat 1) (Qim2.C.dflt .str)=b from rfl,hb,decs2 hd,show inb (0:Int) [numF c,numF d].length=true from rfl,show inb (1:Int) [numF c,numF d].length=true from rfl,show List.getD [numF c,numF d] (Int.toNat 0) (Qim2.C.dflt .int)=numF c from rfl,show List.getD [numF c,numF d] (Int.toNat 1) (Qim2.C.dflt .int)=numF d from rfl,show Kind.mk b (numF c) (numF d)=Qypu [a,b,c,d] from rfl,show Point.mk b (numF c) (numF d)=Qh70 [a,b,c,d] from rfl,hs]
   rw[hk]
   simp only[Qd8q,Qk7y,Bool.not_true,Bool.not_false]
   refine Sat.nd q1 ?_
   rw[show decide (idxF (fun p:Kind=>p.name==b) ks≥0)=false from decide_eq_false h5,Qk7y]
   rw[decide_eq_false (show ¬(ks.length:Int)≥6 by omega),Qk7y]
   refine Sat.nd (Q1mk hb40 (by simp;omega)) (Sat.nd (by rw[Qlh1 ck hn (by omega)];rfl) ?_)
   exact Sat.ret rfl rfl
  ·have e:kindC ks (cutS 32 l)=3:=Qn6i (fun h=>absurd h h4)
   rw[Qntr (by rw[e];decide),e]
   refine U0 (Qewq.of Qf74 (by kernel_rfl) (Qjoz ks ps es l) ?_)
   conv=>zeta
   rw[h32,in0,show(List.getD (cutS 32 l) (Int.toNat 0) (Qim2.C.dflt .str)==#[(107:UInt8),105,110,100].toList)=true from k1,show(((cutS 32 l).length:Int) !=4)=true by simp only[bne_iff_ne,ne_eq];omega,hs]
   simp only[Qd8q,Qk7y,Bool.not_true,Bool.not_false]
   exact Sat.ret rfl rfl
 | false =>
 cases k2:((cutS 32 l).getD 0 []==Qisw) with
 | true =>
  rw[Qsko k1 k2]
  show Qewq Tryz.prog CP Qk0k [.ptr 0 0,.str l] (H0L ks ps es) (.int .i64 (Qvcq ps (cutS 32 l))) (HUL ks (Q5pt ps (cutS 32 l)) es)
  by_cases h4:(cutS 32 l).length=4
  ·obtain⟨a,b,c,d,hc⟩:=list4 h4
   have hb:szS b=true:=hcp b (by rw[hc];simp)
   rw[hc]at k1 k2
   rw[hc]
   have hC:∀x:Int,((if (Qh70 [a,b,c,d]).ok=true then if 0≤Qigq ps (Qh70 [a,b,c,d]).name then 4 else if Q343 ps (Qh70 [a,b,c,d])=true then if 16≤ps.length then 6 else 0 else 5 else 3:Int)=x)→Qvcq ps [a,b,c,d]=x:=fun x h=>by rw[Qvcq,if_pos (show[a,b,c,d].length=4 from rfl)];exact h
   cases hd:[c,d].all decB with
   | false =>
    have e:Qvcq ps [a,b,c,d]=3:=Qnda (fun _=>Qhi7 (Qy9e hd))
    rw[Qfnn (by rw[e];decide),e]
    refine U0 (Qewq.of Qf74 (by kernel_rfl) (Qjoz ks ps es l) ?_)
    conv=>zeta
    rw[h32,hc,show inb (0:Int) [a,b,c,d].length=true from rfl,show(List.getD [a,b,c,d] (Int.toNat 0) (Qim2.C.dflt .str)==#[(107:UInt8),105,110,100].toList)=false from k1,show(List.getD [a,b,c,d] (Int.toNat 0) (Qim2.C.dflt .str)==#[(112:UInt8),111,105,110,116].toList)=true from k2,show((([a,b,c,d].length:Nat):Int) !=4)=false from rfl,show List.take ((([a,b,c,d].length:Nat):Int).toNat-Int.toNat 2) (List.drop (Int.toNat 2) [a,b,c,d])=[c,d] from rfl,show(decide ((0:Int)≤2)&&(decide ((2:Int)≤(([a,b,c,d].length:Nat):Int))&&decide ((([a,b,c,d].length:Nat):Int)≤(([a,b,c,d].length:Nat):Int))))=true from rfl,show(decide ((7:Int)=7)&&decide ([c,d].length≤2000000000))=true by simp,hd,hs]
    simp only[Qd8q,Qk7y,Bool.not_true,Bool.not_false]
    exact Sat.ret rfl rfl
   | true =>
   cases hk:(Qh70 [a,b,c,d]).ok with
   | false =>
    have e:Qvcq ps [a,b,c,d]=3:=Qnda (fun _=>hk)
    rw[Qfnn (by rw[e];decide),e]
    refine U0 (Qewq.of Qf74 (by kernel_rfl) (Qjoz ks ps es l) ?_)
    conv=>zeta
    rw[h32,hc,show inb (0:Int) [a,b,c,d].length=true from rfl,show(List.getD [a,b,c,d] (Int.toNat 0) (Qim2.C.dflt .str)==#[(107:UInt8),105,110,100].toList)=false from k1,show(List.getD [a,b,c,d] (Int.toNat 0) (Qim2.C.dflt .str)==#[(112:UInt8),111,105,110,116].toList)=true from k2,show((([a,b,c,d].length:Nat):Int) !=4)=false from rfl,show List.take ((([a,b,c,d].length:Nat):Int).toNat-Int.toNat 2) (List.drop (Int.toNat 2) [a,b,c,d])=[c,d] from rfl,show(decide ((0:Int)≤2)&&(decide ((2:Int)≤(([a,b,c,d].length:Nat):Int))&&decide ((([a,b,c,d].length:Nat):Int)≤(([a,b,c,d].length:Nat):Int))))=true from rfl,show(decide ((7:Int)=7)&&decide ([c,d].length≤2000000000))=true by simp,hd,show inb (1:Int) [a,b,c,d].length=true from rfl,show List.getD [a,b,c,d] (Int.toNat 1) (Qim2.C.dflt .str)=b from rfl,hb,decs2 hd,show inb (0:Int) [numF c,numF d].length=true from rfl,show inb (1:Int) [numF c,numF d].length=true from rfl,show List.getD [numF c,numF d] (Int.toNat 0) (Qim2.C.dflt .int)=numF c from rfl,show List.getD [numF c,numF d] (Int.toNat 1) (Qim2.C.dflt .int)=numF d from rfl,show Kind.mk b (numF c) (numF d)=Qypu [a,b,c,d] from rfl,show Point.mk b (numF c) (numF d)=Qh70 [a,b,c,d] from rfl,hs]
    rw[hk]
    simp only[Qd8q,Qk7y,Bool.not_true,Bool.not_false]
    exact Sat.ret rfl rfl
   | true =>
   rw[hk,if_pos rfl]at hC
   by_cases h5:0≤Qigq ps (Qh70 [a,b,c,d]).name
   ·have e:Qvcq ps [a,b,c,d]=4:=hC _ (if_pos h5)
    rw[Qfnn (by rw[e];decide),e]
    refine U0 (Qewq.of Qf74 (by kernel_rfl) (Qjoz ks ps es l) ?_)
    conv=>zeta
    rw[h32,hc,show inb (0:Int) [a,b,c,d].length=true from rfl,show(List.getD [a,b,c,d] (Int.toNat 0) (Qim2.C.dflt .str)==#[(107:UInt8),105,110,100].toList)=false from k1,show(List.getD [a,b,c,d] (Int.toNat 0) (Qim2.C.dflt .str)==#[(112:UInt8),111,105,110,116].toList)=true from k2,show((([a,b,c,d].length:Nat):Int) !=4)=false from rfl,show List.take ((([a,b,c,d].length:Nat):Int).toNat-Int.toNat 2) (List.drop (Int.toNat 2) [a,b,c,d])=[c,d] from rfl,show(decide ((0:Int)≤2)&&(decide ((2:Int)≤(([a,b,c,d].length:Nat):Int))&&decide ((([a,b,c,d].length:Nat):Int)≤(([a,b,c,d].length:Nat):Int))))=true from rfl,show(decide ((7:Int)=7)&&decide ([c,d].length≤2000000000))=true by simp,hd,show inb (1:Int) [a,b,c,d].length=true from rfl,show List.getD [a,b,c,d] (Int.toNat 1) (Qim2.C.dflt .str)=b from rfl,hb,decs2 hd,show inb (0:Int) [numF c,numF d].length=true from rfl,show inb (1:Int) [numF c,numF d].length=true from rfl,show List.getD [numF c,numF d] (Int.toNat 0) (Qim2.C.dflt .int)=numF c from rfl,show List.getD [numF c,numF d] (Int.toNat 1) (Qim2.C.dflt .int)=numF d from rfl,show Kind.mk b (numF c) (numF d)=Qypu [a,b,c,d] from rfl,show Point.mk b (numF c) (numF d)=Qh70 [a,b,c,d] from rfl,hs]
    rw[hk]
    simp only[Qd8q,Qk7y,Bool.not_true,Bool.not_false]
    refine Sat.nd q2 ?_
    rw[show decide (idxF (fun p:Point=>p.name==b) ps≥0)=true from decide_eq_true h5]
    exact Sat.ret rfl rfl
   rw[if_neg h5]at hC
   have hn:∀y∈ps,y.name≠(Qh70 [a,b,c,d]).name:=fun y hy e=>h5 (Q9yp.2 ⟨y,hy,beq_iff_eq.2 e⟩)
   cases hf:Q343 ps (Qh70 [a,b,c,d]) with
   | false =>
    have e:Qvcq ps [a,b,c,d]=5:=hC _ (by rw[hf];rfl)
    rw[Qfnn (by rw[e];decide),e]
    refine U0 (Qewq.of Qf74 (by kernel_rfl) (Qjoz ks ps es l) ?_)
    conv=>zeta
    rw[h32,hc,show inb (0:Int) [a,b,c,d].length=true from rfl,show(List.getD [a,b,c,d] (Int.toNat 0) (Qim2.C.dflt .str)==#[(107:UInt8),105,110,100].toList)=false from k1,show(List.getD [a,b,c,d] (Int.toNat 0) (Qim2.C.dflt .str)==#[(112:UInt8),111,105,110,116].toList)=true from k2,show((([a,b,c,d].length:Nat):Int) !=4)=false from rfl,show List.take ((([a,b,c,d].length:Nat):Int).toNat-Int.toNat 2) (List.drop (Int.toNat 2) [a,b,c,d])=[c,d] from rfl,show(decide ((0:Int)≤2)&&(decide ((2:Int)≤(([a,b,c,d].length:Nat):Int))&&decide ((([a,b,c,d].length:Nat):Int)≤(([a,b,c,d].length:Nat):Int))))=true from rfl,show(decide ((7:Int)=7)&&decide ([c,d].length≤2000000000))=true by simp,hd,show inb (1:Int) [a,b,c,d].length=true from rfl,show List.getD [a,b,c,d] (Int.toNat 1) (Qim2.C.dflt .str)=b from rfl,hb,decs2 hd,show inb (0:Int) [numF c,numF d].length=true from rfl,show inb (1:Int) [numF c,numF d].length=true from rfl,show List.getD [numF c,numF d] (Int.toNat 0) (Qim2.C.dflt .int)=numF c from rfl,show List.getD [numF c,numF d] (Int.toNat 1) (Qim2.C.dflt .int)=numF d from rfl,show Kind.mk b (numF c) (numF d)=Qypu [a,b,c,d] from rfl,show Point.mk b (numF c) (numF d)=Qh70 [a,b,c,d] from rfl,hs]
    rw[hk]
    simp only[Qd8q,Qk7y,Bool.not_true,Bool.not_false]
    refine Sat.nd q2 ?_
    rw[show decide (idxF (fun p:Point=>p.name==b) ps≥0)=false from decide_eq_false h5,Qk7y]
    refine Sat.nd (by rw[q2];rfl) ?_
    rw[hf]
    exact Sat.ret rfl rfl
   | true =>
   rw[hf,if_pos rfl]at hC
   by_cases h6:16≤ps.length
   ·have e:Qvcq ps [a,b,c,d]=6:=hC _ (if_pos h6)
    rw[Qfnn (by rw[e];decide),e]
    refine U0 (Qewq.of Qf74 (by kernel_rfl) (Qjoz ks ps es l) ?_)
    conv=>zeta
    rw[h32,hc,show inb (0:Int) [a,b,c,d].length=true from rfl,show(List.getD [a,b,c,d] (Int.toNat 0) (Qim2.C.dflt .str)==#[(107:UInt8),105,110,100].toList)=false from k1,show(List.getD [a,b,c,d] (Int.toNat 0) (Qim2.C.dflt .str)==#[(112:UInt8),111,105,110,116].toList)=true from k2,show((([a,b,c,d].length:Nat):Int) !=4)=false from rfl,show List.take ((([a,b,c,d].length:Nat):Int).toNat-Int.toNat 2) (List.drop (Int.toNat 2) [a,b,c,d])=[c,d] from rfl,show(decide ((0:Int)≤2)&&(decide ((2:Int)≤(([a,b,c,d].length:Nat):Int))&&decide ((([a,b,c,d].length:Nat):Int)≤(([a,b,c,d].length:Nat):Int))))=true from rfl,show(decide ((7:Int)=7)&&decide ([c,d].length≤2000000000))=true by simp,hd,show inb (1:Int) [a,b,c,d].length=true from rfl,show List.getD [a,b,c,d] (Int.toNat 1) (Qim2.C.dflt .str)=b from rfl,hb,decs2 hd,show inb (0:Int) [numF c,numF d].length=true from rfl,show inb (1:Int) [numF c,numF d].length=true from rfl,show List.getD [numF c,numF d] (Int.toNat 0) (Qim2.C.dflt .int)=numF c from rfl,show List.getD [numF c,numF d] (Int.toNat 1) (Qim2.C.dflt .int)=numF d from rfl,show Kind.mk b (numF c) (numF d)=Qypu [a,b,c,d] from rfl,show Point.mk b (numF c) (numF d)=Qh70 [a,b,c,d] from rfl,hs]
    rw[hk]
    simp only[Qd8q,Qk7y,Bool.not_true,Bool.not_false]
    refine Sat.nd q2 ?_
    rw[show decide (idxF (fun p:Point=>p.name==b) ps≥0)=false from decide_eq_false h5,Qk7y]
    refine Sat.nd (by rw[q2];rfl) ?_
    rw[hf]
    simp only[Bool.not_true,Qk7y]
    rw[decide_eq_true (show(ps.length:Int)≥16 by omega)]
    exact Sat.ret rfl rfl
   have e:Qvcq ps [a,b,c,d]=0:=hC _ (if_neg h6)
   have hln:Q5pt ps [a,b,c,d]=sortP (ps++[(Qh70 [a,b,c,d])]):=by rw[Q5pt,e,if_pos rfl,Qg92 cp hn,Qa41 cp]
   rw[hln,e]
   refine UP (Qewq.of Qf74 (by kernel_rfl) (Qjoz ks ps es l) ?_)
   conv=>zeta
   rw[h32,hc,show inb (0:Int) [a,b,c,d].length=true from rfl,show(List.getD [a,b,c,d] (Int.toNat 0) (Qim2.C.dflt .str)==#[(107:UInt8),105,110,100].toList)=false from k1,show(List.getD [a,b,c,d] (Int.toNat 0) (Qim2.C.dflt .str)==#[(112:UInt8),111,105,110,116].toList)=true from k2,show((([a,b,c,d].length:Nat):Int) !=4)=false from rfl,show List.take ((([a,b,c,d].length:Nat):Int).toNat-Int.toNat 2) (List.drop (Int.toNat 2) [a,b,c,d])=[c,d] from rfl,show(decide ((0:Int)≤2)&&(decide ((2:Int)≤(([a,b,c,d].length:Nat):Int))&&decide ((([a,b,c,d].length:Nat):Int)≤(([a,b,c,d].length:Nat):Int))))=true from rfl,show(decide ((7:Int)=7)&&decide ([c,d].length≤2000000000))=true by simp,hd,show inb (1:Int) [a,b,c,d].length=true from rfl,show List.getD [a,b,c,d] (Int.toNat 1) (Qim2.C.dflt .str)=b from rfl,hb,decs2 hd,show inb (0:Int) [numF c,numF d].length=true from rfl,show inb (1:Int) [numF c,numF d].length=true from rfl,show List.getD [numF c,numF d] (Int.toNat 0) (Qim2.C.dflt .int)=numF c from rfl,show List.getD [numF c,numF d] (Int.toNat 1) (Qim2.C.dflt .int)=numF d from rfl,show Kind.mk b (numF c) (numF d)=Qypu [a,b,c,d] from rfl,show Point.mk b (numF c) (numF d)=Qh70 [a,b,c,d] from rfl,hs]
   rw[hk]
   simp only[Qd8q,Qk7y,Bool.not_true,Bool.not_false]
   refine Sat.nd q2 ?_
   rw[show decide (idxF (fun p:Point=>p.name==b) ps≥0)=false from decide_eq_false h5,Qk7y]
   refine Sat.nd (by rw[q2];rfl) ?_
   rw[hf]
   simp only[Bool.not_true,Qk7y]
   rw[decide_eq_false (show ¬(ps.length:Int)≥16 by omega),Qk7y]
   refine Sat.nd (Q1mk hb160 (by simp;omega)) (Sat.nd (by rw[Qscz cp hn (by omega)];rfl) ?_)
   exact Sat.ret rfl rfl
  ·have e:Qvcq ps (cutS 32 l)=3:=Qnda (fun h=>absurd h h4)
   rw[Qfnn (by rw[e];decide),e]
   refine U0 (Qewq.of Qf74 (by kernel_rfl) (Qjoz ks ps es l) ?_)
   conv=>zeta
   rw[h32,in0,show(List.getD (cutS 32 l) (Int.toNat 0) (Qim2.C.dflt .str)==#[(107:UInt8),105,110,100].toList)=false from k1,show(List.getD (cutS 32 l) (Int.toNat 0) (Qim2.C.dflt .str)==#[(112:UInt8),111,105,110,116].toList)=true from k2,show(((cutS 32 l).length:Int) !=4)=true by simp only[bne_iff_ne,ne_eq];omega,hs]
   simp only[Qd8q,Qk7y,Bool.not_true,Bool.not_false]
   exact Sat.ret rfl rfl
 | false =>
 have hd3:∀v:Bool,((cutS 32 l).getD 0 []==wSetL)=v→(List.getD (cutS 32 l) (Int.toNat 0) (Qim2.C.dflt .str)==#[(115:UInt8),101,116].toList)=v:=fun v h=>h
 cases k3:((cutS 32 l).getD 0 []==wSetL) with
 | true =>
  rw[Qyxg k1 k2 k3]
  show Qewq Tryz.prog CP Qk0k [.ptr 0 0,.str l] (H0L ks ps es) (.int .i64 (setCn ks ps es l)) (HUL (setLn ks ps es l).ks (setLn ks ps es l).ps (setLn ks ps es l).es)
  have go:∀(v:AV Ty El) (H':List O),True→True:=fun _ _ _=>trivial
  cases hr:readF l with
  | none =>
   have e:setCn ks ps es l=3:=by rw[setCn,hr]
   rw[setLn,e,if_neg (by decide)]
   refine U0 (Qewq.of Qf74 (by kernel_rfl) (Qjoz ks ps es l) ?_)
   conv=>zeta
   rw[h32,in0,show(List.getD (cutS 32 l) (Int.toNat 0) (Qim2.C.dflt .str)==#[(107:UInt8),105,110,100].toList)=false from k1,show(List.getD (cutS 32 l) (Int.toNat 0) (Qim2.C.dflt .str)==#[(112:UInt8),111,105,110,116].toList)=false from k2,hd3 _ k3,hr,hs]
   simp only[Qd8q,Qk7y,Option.isSome_none,Bool.not_false]
   exact Sat.ret rfl rfl
  | some x =>
   have er:readR l=x:=by rw[readR,hr];rfl
   have hv:szV x.value=true:=by rw[←er];exact Qwje hs
   have hbk:Qn0o ks ps es=true:=by simp only[goodE,qaT]at hE;exact hE.1
   have hgb:goodB ks ps es=true:=by simp only[goodE,qaT]at hE;exact hE.2
   have hbase:Qib4 ks ps=true:=by simp only[Qn0o,qaT]at hbk;exact hbk.1
   have hch:Qh2h ks ps x.flight x.what x.number x.value=Qs7k ks ps x:=by rw[Qs7k,Qh2h,hbase,Bool.true_and]
   have e:setCn ks ps es l=if (takeF ks ps es x).code=2 then 7 else if (takeF ks ps es x).code=3 then 6 else 0:=by rw[setCn,hr]
   have fin:∀(u:BookR) ,takeF ks ps es x=u→True:=fun _ _=>trivial
   cases h1:Qs7k ks ps x with
   | false =>
    have et:takeF ks ps es x=⟨ks,ps,es,2⟩:=by rw[takeF,if_pos hbk,h1,if_neg (by simp)]
    have e':setCn ks ps es l=7:=by rw[e,et];rfl
    rw[setLn,e',if_neg (by decide)]
    refine U0 (Qewq.of Qf74 (by kernel_rfl) (Qjoz ks ps es l) ?_)
    conv=>zeta
    rw[h32,in0,show(List.getD (cutS 32 l) (Int.toNat 0) (Qim2.C.dflt .str)==#[(107:UInt8),105,110,100].toList)=false from k1,show(List.getD (cutS 32 l) (Int.toNat 0) (Qim2.C.dflt .str)==#[(112:UInt8),111,105,110,116].toList)=false from k2,hd3 _ k3,hr,hs,er,hv,q1,q2,hch,h1]
    simp only[Qd8q,Qk7y,Option.isSome_some,Bool.not_true,Bool.not_false,Bool.and_self]
    exact Sat.ret rfl rfl
   | true =>
   have hw:inR x.what (-1000) 1000=true:=by
    simp only[Qs7k,qaT]at h1
    have:=Q3ut h1.2.2.2
    simp only[inR,qaT,qdT];omega
   have hK:layK ks ps es x.what=true:=by rw[layK,hbk,hgb,hw];rfl
   by_cases h3:entIx es x.flight<0∧12≤es.length
   ·have et:takeF ks ps es x=⟨ks,ps,es,3⟩:=by rw[takeF,if_pos hbk,h1,if_pos rfl,if_pos h3]
    have e':setCn ks ps es l=6:=by rw[e,et];rfl
    rw[setLn,e',if_neg (by decide)]
    refine U0 (Qewq.of Qf74 (by kernel_rfl) (Qjoz ks ps es l) ?_)
    conv=>zeta
    rw[h32,in0,show(List.getD (cutS 32 l) (Int.toNat 0) (Qim2.C.dflt .str)==#[(107:UInt8),105,110,100].toList)=false from k1,show(List.getD (cutS 32 l) (Int.toNat 0) (Qim2.C.dflt .str)==#[(112:UInt8),111,105,110,116].toList)=false from k2,hd3 _ k3,hr,hs,er,hv,q1,q2,hch,h1,q3,show decide (idxF (fun p:Entry=>p.name==x.flight) es<0)=true from decide_eq_true h3.1,decide_eq_true (show(es.length:Int)≥12 by omega)]
    simp only[Qd8q,Qk7y,Option.isSome_some,Bool.not_true,Bool.not_false,Bool.and_self]
    exact Sat.ret rfl rfl
   ·have et:takeF ks ps es x=⟨ks,ps,putF es x.flight ⟨x.what,x.number,x.value⟩,0⟩:=by rw[takeF,if_pos hbk,h1,if_pos rfl,if_neg h3]
    have e':setCn ks ps es l=0:=by rw[e,et];rfl
    have hB:layB es x.flight=true:=by
     simp only[layB,Bool.not_eq_true',Bool.and_eq_false_iff,decide_eq_false_iff_not]
     by_cases h4:entIx es x.flight<0
     ·exact .inr (fun h5=>h3 ⟨h4,h5⟩)
     ·exact .inl h4
    have hF:layF es x.flight ⟨x.what,x.number,x.value⟩=putF es x.flight ⟨x.what,x.number,x.value⟩:=by rw[layF,hB,if_pos rfl]
    rw[setLn,e',if_pos rfl,er,et]
    refine US (Qewq.of Qf74 (by kernel_rfl) (Qjoz ks ps es l) ?_)
    conv=>zeta
    rw[h32,in0,show(List.getD (cutS 32 l) (Int.toNat 0) (Qim2.C.dflt .str)==#[(107:UInt8),105,110,100].toList)=false from k1,show(List.getD (cutS 32 l) (Int.toNat 0) (Qim2.C.dflt .str)==#[(112:UInt8),111,105,110,116].toList)=false from k2,hd3 _ k3,hr,hs,er,hv,q1,q2,hch,h1,q3,hK,hF]
    simp only[Qd8q,Qk7y,Option.isSome_some,Bool.not_true,Bool.not_false,Bool.and_self]
    by_cases h4:entIx es x.flight<0
    ·rw[show decide (idxF (fun p:Entry=>p.name==x.flight) es<0)=true from decide_eq_true h4,decide_eq_false (show ¬(es.length:Int)≥12 by omega)]
     exact Sat.ret rfl rfl
    ·rw[show decide (idxF (fun p:Entry=>p.name==x.flight) es<0)=false from decide_eq_false h4]
     exact Sat.ret rfl rfl
 | false =>
  rw[Qq64 k1 k2 k3]
  show Qewq Tryz.prog CP Qk0k [.ptr 0 0,.str l] (H0L ks ps es) (.int .i64 2) (HUL ks ps es)
  refine U0 (Qewq.of Qf74 (by kernel_rfl) (Qjoz ks ps es l) ?_)
  conv=>zeta
  rw[h32,in0,show(List.getD (cutS 32 l) (Int.toNat 0) (Qim2.C.dflt .str)==#[(107:UInt8),105,110,100].toList)=false from k1,show(List.getD (cutS 32 l) (Int.toNat 0) (Qim2.C.dflt .str)==#[(112:UInt8),111,105,110,116].toList)=false from k2,hd3 _ k3,hs]
  simp only[Qd8q,Qk7y]
  exact Sat.ret rfl rfl
theorem Qtu0(ks:List Kind)(ps:List Point)(es:List Entry)(l:Str)(hg:Qnkc ks ps es l=true):Qewq Tryz.prog CP Qk0k [.ptr 0 0,.str l] [.box [.own 1 [] 0,.own 2 [] 0,.own 3 [] 0],.row .kind ks 0 0 0 .no,.row .point ps 0 0 0 .no,.row .entry es 1 0 0 .no] (.int .i64 (lineF ks ps es l).code) [.box [.own 4 [] 0,.own 5 [] 0,.own 6 [] 0],.out,.out,.out,.row .kind (lineF ks ps es l).ks 0 0 0 .no,.row .point (lineF ks ps es l).ps 0 0 0 .no,.row .entry (lineF ks ps es l).es 1 0 0 .no]:=by
 exact Que7 ks ps es l hg
theorem Q32h:EntOK Tryz.prog CP Qk0k Qbo0:=by
 refine⟨eob (by kernel_rfl),fun _ _ _ _ h=>?_⟩
 simp only[Qbo0]at h
 split at h
 ·obtain⟨hg,rfl,rfl⟩:=eoh h
  exact Qtu0 _ _ _ _ hg
 ·cases h
end Lx
namespace Lx
open Go Go.Proofs
def Qer6:Ent Ty El:=Qzl2
def Q5om:Ent Ty El:=⟨[.ro,.ro],0,fun a h=>match a,h with
 | [.int .i64 i,.int .i64 c],[]=>some (true,.tup [.agg [.nils,.nils,.nils],.agg [.int .i64 i,.int .i64 c]],[])
 | _,_=>none⟩
end Lx
namespace Lx
open Go Go.Proofs
noncomputable def Qtok:RE Ty El:=⟨Tryz.prog,CP,[],Tryz.f153,0,[],[]⟩
theorem Q4r5:REOK Qtok Qmvc:=⟨CP_ok,Qye1,by kernel_rfl,by kernel_rfl⟩
theorem Qp58(i c:Int):aRun Qtok 600 false (body0 Qtok.fn) (Q4gm Qtok.fn [.int .i64 i,.int .i64 c] []) =
 some (.ret (.tup [.agg [.nils,.nils,.nils],.agg [.int .i64 i,.int .i64 c]]) []):=by kernel_rfl
theorem Q6yu(i c:Int):Qewq Tryz.prog CP Qmvc [.int .i64 i,.int .i64 c] [] (.tup [.agg [.nils,.nils,.nils],.agg [.int .i64 i,.int .i64 c]]) []:=by
 refine Qewq.of Q4r5 (by kernel_rfl) (Qp58 i c) ?_
 exact Sat.ret rfl rfl
theorem Qk8i:EntOK Tryz.prog CP Qmvc Q5om:=by
 refine⟨eob (by kernel_rfl),fun _ _ _ _ h=>?_⟩
 simp only[Q5om]at h
 split at h
 ·obtain⟨hg,rfl,rfl⟩:=eoh h
  exact Q6yu _ _
 ·cases h

noncomputable def Q1p5:RE Ty El:=⟨Tryz.prog,CP,[(Qmvc,Q5om),(Q665,Qm1b),(Qk0k,Qbo0)],Tryz.f62,0,[.agg [.ro .kind,.ro .point,.ro .entry],.any],[(9,[(2,.box [.own .kind,.own .point,.own .entry]),(3,.box [.own .kind,.own .point,.own .entry]),(4,.box [.own .kind,.own .point,.own .entry]),(6,.box [.own .kind,.own .point,.own .entry]),(26,.box [.own .kind,.own .point,.own .entry]),(27,.box [.own .kind,.own .point,.own .entry]),(28,.box [.own .kind,.own .point,.own .entry])])]⟩
theorem Q9dg:REOK Q1p5 Qjbj:=⟨CP_ok,(TabOK.cons Qk8i (TabOK.cons Qwca (TabOK.cons Q32h Qye1))),by kernel_rfl,by kernel_rfl⟩
theorem Qv8x(s:Str):aRun Q1p5 600 false (body0 Q1p5.fn) (Q4gm Q1p5.fn [.str s] []) =
 let z0:OL:=(some (.ret (.tup [.agg [.sl .kind [],.sl .point [],.sl .entry []],.agg [.int .i64 0,.int .i64 1]]) []));ifb (decide ((↑(List.length s):Int)>(10000:Int))) z0 (ifb (szS s) (ifb (decide ((↑(Qehh s).length:Int)>(200:Int))) z0 (some (.go (Qu6t Q1p5.fn 9) [.ptr 0 0,.ptr 4 0,.fn (Fn.func (153:Nat)) [],.ptr 5 0,.sl .str (Qehh s),.int .i64 ((↑(Qehh s).length:Int)),.int .i64 0] [.box [.own 1 [] 0,.own 2 [] 0,.own 3 [] 0],.row .kind [] 0 0 0 .no,.row .point [] 0 0 0 .no,.row .entry [] 1 0 0 .no,.box [.int .i64 0,.int .i64 0],.box [.own 6 [] 0,.own 7 [] 0,.own 8 [] 0],.row .kind [] 0 0 0 .no,.row .point [] 0 0 0 .no,.row .entry [] 1 0 0 .no]))) none):=by kernel_rfl
theorem Qoj1(x0:List (El .str))(x1:Int)(x2:Int)(x3:List (El .kind))(x4:List (El .point))(x5:List (El .entry))(x6:Int)(x7:Int)(x8:List (El .kind))(x9:List (El .point))(x10:List (El .entry)):aRun Q1p5 600 true (Qu6t Q1p5.fn 9) (cutSt Q1p5.fn (Q1m4 Q1p5 (Qu6t Q1p5.fn 9)) [.ptr 0 0,.ptr 4 0,.fn (Fn.func (153:Nat)) [],.ptr 5 0,.sl .str x0,.int .i64 x1,.int .i64 x2] [.box [.own 1 [] 0,.own 2 [] 0,.own 3 [] 0],.row .kind x3 0 0 0 .no,.row .point x4 0 0 0 .no,.row .entry x5 1 0 0 .no,.box [.int .i64 x6,.int .i64 x7],.box [.own 6 [] 0,.own 7 [] 0,.own 8 [] 0],.row .kind x8 0 0 0 .no,.row .point x9 0 0 0 .no,.row .entry x10 1 0 0 .no]) =
 let z1:=(x0.getD x2.toNat (Q1p5.C.dflt Ty.str));let z0:=(lineF x8 x9 x10 z1);ifb (decide (x2<x1)) (ifb (inb x2 x0.length) (ifb (Qnkc x8 x9 x10 z1) (ifb (z0.code !=0) (some (.ret (.tup [.agg [.sl .kind [],.sl .point [],.sl .entry []],.agg [.int .i64 (IntKind.i64.wrap (x2+1)),.int .i64 (z0.code)]]) [])) (some (.go (Qu6t Q1p5.fn 9) [.ptr 0 0,.ptr 4 0,.fn (Fn.func (153:Nat)) [],.ptr 5 0,.sl .str x0,.int .i64 x1,.int .i64 (IntKind.i64.wrap (x2+1))] [.box [.own 1 [] 0,.own 2 [] 0,.own 3 [] 0],.row .kind x3 0 0 0 .no,.row .point x4 0 0 0 .no,.row .entry x5 1 0 0 .no,.box [.int .i64 x6,.int .i64 x7],.box [.own 6 [] 0,.own 7 [] 0,.own 8 [] 0],.row .kind (z0.ks) 0 0 0 .no,.row .point (z0.ps) 0 0 0 .no,.row .entry (z0.es) 1 0 0 .no]))) none) none) (some (.ret (.tup [.agg [.sl .kind x8,.sl .point x9,.sl .entry x10],.agg [.int .i64 0,.int .i64 0]]) [])):=by kernel_rfl
theorem Qsjb(ls:List Str)(h0:ls.length≤200)(hz:∀l∈ls,szS l=true)(r0:List Kind)(r1:List Point)(r2:List Entry)(a b:Int):∀(d i:Nat) (ks:List Kind) (ps:List Point) (es:List Entry),i+d=ls.length→goodE ks ps es=true →
  Cut Q1p5 Qjbj 9 [.ptr 0 0,.ptr 4 0,.fn (Fn.func (153:Nat)) [],.ptr 5 0,.sl .str ls,.int .i64 (ls.length:Int),.int .i64 (i:Int)] [.box [.own 1 [] 0,.own 2 [] 0,.own 3 [] 0],.row .kind r0 0 0 0 .no,.row .point r1 0 0 0 .no,.row .entry r2 1 0 0 .no,.box [.int .i64 a,.int .i64 b],.box [.own 6 [] 0,.own 7 [] 0,.own 8 [] 0],.row .kind ks 0 0 0 .no,.row .point ps 0 0 0 .no,.row .entry es 1 0 0 .no] (.tup [.agg [.sl .kind (Qqi5 ks ps es (ls.drop i) i).ks,.sl .point (Qqi5 ks ps es (ls.drop i) i).ps,.sl .entry (Qqi5 ks ps es (ls.drop i) i).es],.agg [.int .i64 (Qqi5 ks ps es (ls.drop i) i).line,.int .i64 (Qqi5 ks ps es (ls.drop i) i).code]]) []:=by
 intro d
 induction d with
 | zero =>
  intro i ks ps es hi hg
  refine Cut.of Q9dg rfl (Qoj1 ls ls.length i r0 r1 r2 a b ks ps es) ?_
  conv=>zeta
  rw[List.drop_of_length_le (by omega),show decide ((i:Int)<(ls.length:Int))=false from decide_eq_false (by omega),Qk7y]
  exact Sat.ret rfl rfl
 | succ d ih =>
  intro i ks ps es hi hg
  refine Cut.of Q9dg rfl (Qoj1 ls ls.length i r0 r1 r2 a b ks ps es) ?_
  conv=>zeta
  have hlt:i<ls.length:=by omega
  have hw:IntKind.wrap .i64 ((i:Int)+1)=((i+1:Nat):Int):=by rw[Qbrg]<;>omega
  have hd:ls.drop i=ls[i]::ls.drop (i+1):=qdC hlt
  have hx:ls.getD (i:Int).toNat (Q1p5.C.dflt .str)=ls[i]:=by simp[hlt]
  have hin:inb (i:Int) ls.length=true:=by simp only[inb,qaT,qdT];omega
  have hlo:decide ((i:Int)<(ls.length:Int))=true:=decide_eq_true (by omega)
  have hs:=hz ls[i] (List.getElem_mem hlt)
  have hK:Qnkc ks ps es ls[i]=true:=by rw[Qnkc,hg,hs];rfl
  rw[hlo,hx,hw,hin,hK,hd]
  simp only[Qd8q]
  by_cases hc:(lineF ks ps es ls[i]).code=0
  ·rw[Qqi5,if_pos hc,show((lineF ks ps es ls[i]).code !=0)=false by rw[hc];rfl,Qk7y]
   exact Sat.cut (ih (i+1) _ _ _ (by omega) (Qwdt hg hs))
  ·rw[Qqi5,if_neg hc,show((lineF ks ps es ls[i]).code !=0)=true from bne_iff_ne.2 hc,Qd8q]
   exact Sat.ret rfl rfl
theorem Qfd4(s:Str)(hg:szS s=true):Qewq Tryz.prog CP Qjbj [.str s] [] (.tup [.agg [.sl .kind (Qob6 s).ks,.sl .point (Qob6 s).ps,.sl .entry (Qob6 s).es],.agg [.int .i64 (Qob6 s).line,.int .i64 (Qob6 s).code]]) []:=by
 refine Qewq.of Q9dg (by kernel_rfl) (Qv8x s) ?_
 conv=>zeta
 have hz:=Qhr2 hg
 rw[Qob6]
 by_cases h1:10000<s.length
 ·rw[if_pos (.inl h1),decide_eq_true (show(s.length:Int)>10000 by omega)]
  exact Sat.ret rfl rfl
 ·rw[decide_eq_false (show ¬(s.length:Int)>10000 by omega),Qk7y,show szS s=true from hg,Qd8q]
  by_cases h2:200<(Qehh s).length
  ·rw[if_pos (.inr h2),decide_eq_true (show((Qehh s).length:Int)>200 by omega)]
   exact Sat.ret rfl rfl
  ·rw[if_neg (by omega),decide_eq_false (show ¬((Qehh s).length:Int)>200 by omega),Qk7y]
   exact Sat.cut (Qsjb (Qehh s) (by omega) hz [] [] [] 0 0 (Qehh s).length 0 [] [] [] (by omega) good0)
theorem Qy0j:EntOK Tryz.prog CP Qjbj Qer6:=by
 refine⟨eob (by kernel_rfl),fun _ _ _ _ h=>?_⟩
 simp only[Qer6,Qzl2]at h
 split at h
 ·obtain⟨hg,rfl,rfl⟩:=eoh h
  exact Qfd4 _ hg
 ·cases h
end Lx
namespace Lx
open Go Go.Proofs
theorem Qw30{ks:List Kind}{ps:List Point}{es:List Entry}(h:goodB ks ps es=true):Q2xe ks ks ps ps es es=true:=by
 simp only[goodB,Q8cx,Q6lz,Qjyp,qaT,qdT,and_true]at h
 simp only[Q2xe,sameK,qaT,qdT,and_true]
 exact⟨⟨h.2.1,h.2.2.1⟩,h.2.2.2⟩
end Lx
namespace Lx
open Go Go.Proofs
noncomputable def Qti9:RE Ty El:=⟨Tryz.prog,CP,[(Qaev,Qjv4),(Qvow,Qo6n),(Qfq7,Qvn1)],Tryz.f60,0,[],[(6,[(1,.any),(3,.any),(4,.any),(18,.any),(19,.any),(20,.any)]),(11,[(1,.any),(3,.any),(4,.any),(44,.any),(45,.any),(46,.any)]),(16,[(3,.any),(69,.any),(70,.any),(71,.any)]),(19,[(3,.any),(10,.any),(69,.any),(70,.any),(71,.any),(76,.any),(77,.any),(78,.any)])]⟩
theorem Q9js:REOK Qti9 Qqrh:=⟨CP_ok,(TabOK.cons Qwza (TabOK.cons Quvh (TabOK.cons Q80o Qye1))),by kernel_rfl,by kernel_rfl⟩
theorem Qdi0(ks:List Kind)(ps:List Point)(es:List Entry):aRun Qti9 600 false (body0 Qti9.fn) (Q4gm Qti9.fn [.agg [.sl .kind ks,.sl .point ps,.sl .entry es]] []) =
 ifb (szB es) (ifb (!Qn0o ks ps es) (some (.ret (.str #[].toList) [])) (some (.go (Qu6t Qti9.fn 6) [.ptr 0 0,.ptr 1 0,.fn (Fn.func (102:Nat)) [],.sl .kind ks,.int .i64 (↑ks.length:Int),.int .i64 0] [.box [.sl .kind ks,.sl .point ps,.sl .entry es],.bld []]))) none:=by kernel_rfl
theorem Qrvm(x0:List (El .kind))(x1:Int)(x2:Int)(x3:List (El .kind))(x4:List (El .point))(x5:List (El .entry))(x6:Str):aRun Qti9 600 true (Qu6t Qti9.fn 6) (cutSt Qti9.fn (Q1m4 Qti9 (Qu6t Qti9.fn 6)) [.ptr 0 0,.ptr 1 0,.fn (Fn.func (102:Nat)) [],.sl .kind x0,.int .i64 x1,.int .i64 x2] [.box [.sl .kind x3,.sl .point x4,.sl .entry x5],.bld x6]) =
 let z0:=(x0.getD x2.toNat (Qti9.C.dflt Ty.kind));let z2:=(9223372036854775807:Nat);let z3:=(32:UInt8);let z4:=(107:UInt8);let z1:=(#[z4,105,110,100,32].toList++z0.name++#[z3].toList++decS z0.quick++#[z3].toList++decS z0.slow++#[(10:UInt8)].toList);ifb (decide (x2<x1)) (ifb (inb x2 x0.length) (ifb (decide (#[z4,105,110,100,32].toList.length+List.length z0.name≤z2)) (ifb (decide ((#[z4,105,110,100,32].toList++z0.name).length+#[z3].toList.length≤z2)) (ifb (inR z0.quick (0:Int) (1000000000:Int)) (ifb (decide ((#[z4,105,110,100,32].toList++z0.name++#[z3].toList).length+List.length (decS z0.quick)≤z2)) (ifb (decide ((#[z4,105,110,100,32].toList++z0.name++#[z3].toList++decS z0.quick).length+#[z3].toList.length≤z2)) (ifb (inR z0.slow (0:Int) (1000000000:Int)) (ifb (decide ((#[z4,105,110,100,32].toList++z0.name++#[z3].toList++decS z0.quick++#[z3].toList).length+List.length (decS z0.slow)≤z2)) (ifb (decide ((#[z4,105,110,100,32].toList++z0.name++#[z3].toList++decS z0.quick++#[z3].toList++decS z0.slow).length+#[(10:UInt8)].toList.length≤z2)) (ifb (decide (List.length x6+z1.length≤(140737488355328:Nat))) (some (.go (Qu6t Qti9.fn 6) [.ptr 0 0,.ptr 1 0,.fn (Fn.func (102:Nat)) [],.sl .kind x0,.int .i64 x1,.int .i64 (IntKind.i64.wrap (x2+1))] [.box [.sl .kind x3,.sl .point x4,.sl .entry x5],.bld (x6++z1)])) none) none) none) none) none) none) none) none) none) none) (some (.go (Qu6t Qti9.fn 11) [.ptr 0 0,.ptr 1 0,.fn (Fn.func (102:Nat)) [],.sl .point x4,.int .i64 (↑x4.length:Int),.int .i64 0] [.box [.sl .kind x3,.sl .point x4,.sl .entry x5],.bld x6])):=by kernel_rfl
theorem Qpiu(x0:List (El .point))(x1:Int)(x2:Int)(x3:List (El .kind))(x4:List (El .point))(x5:List (El .entry))(x6:Str):aRun Qti9 600 true (Qu6t Qti9.fn 11) (cutSt Qti9.fn (Q1m4 Qti9 (Qu6t Qti9.fn 11)) [.ptr 0 0,.ptr 1 0,.fn (Fn.func (102:Nat)) [],.sl .point x0,.int .i64 x1,.int .i64 x2] [.box [.sl .kind x3,.sl .point x4,.sl .entry x5],.bld x6]) =
 let z0:=(x0.getD x2.toNat (Qti9.C.dflt Ty.point));let z2:=(9223372036854775807:Nat);let z3:=(32:UInt8);let z4:=(112:UInt8);let z1:=(#[z4,111,105,110,116,32].toList++z0.name++#[z3].toList++decS z0.x++#[z3].toList++decS z0.y++#[(10:UInt8)].toList);ifb (decide (x2<x1)) (ifb (inb x2 x0.length) (ifb (decide (#[z4,111,105,110,116,32].toList.length+List.length z0.name≤z2)) (ifb (decide ((#[z4,111,105,110,116,32].toList++z0.name).length+#[z3].toList.length≤z2)) (ifb (inR z0.x (0:Int) (1000000000:Int)) (ifb (decide ((#[z4,111,105,110,116,32].toList++z0.name++#[z3].toList).length+List.length (decS z0.x)≤z2)) (ifb (decide ((#[z4,111,105,110,116,32].toList++z0.name++#[z3].toList++decS z0.x).length+#[z3].toList.length≤z2)) (ifb (inR z0.y (0:Int) (1000000000:Int)) (ifb (decide ((#[z4,111,105,110,116,32].toList++z0.name++#[z3].toList++decS z0.x++#[z3].toList).length+List.length (decS z0.y)≤z2)) (ifb (decide ((#[z4,111,105,110,116,32].toList++z0.name++#[z3].toList++decS z0.x++#[z3].toList++decS z0.y).length+#[(10:UInt8)].toList.length≤z2)) (ifb (decide (List.length x6+z1.length≤(140737488355328:Nat))) (some (.go (Qu6t Qti9.fn 11) [.ptr 0 0,.ptr 1 0,.fn (Fn.func (102:Nat)) [],.sl .point x0,.int .i64 x1,.int .i64 (IntKind.i64.wrap (x2+1))] [.box [.sl .kind x3,.sl .point x4,.sl .entry x5],.bld (x6++z1)])) none) none) none) none) none) none) none) none) none) none) (some (.go (Qu6t Qti9.fn 16) [.ptr 0 0,.sl .entry x5,.int .i64 (↑x5.length:Int),.int .i64 0] [.bld x6])):=by kernel_rfl
theorem Q2wc(x0:List (El .entry))(x1:Int)(x2:Int)(x3:Str):aRun Qti9 600 true (Qu6t Qti9.fn 16) (cutSt Qti9.fn (Q1m4 Qti9 (Qu6t Qti9.fn 16)) [.ptr 0 0,.sl .entry x0,.int .i64 x1,.int .i64 x2] [.bld x3]) =
 let z0:=(x0.getD x2.toNat (Qti9.C.dflt Ty.entry));ifb (decide (x2<x1)) (ifb (inb x2 x0.length) (some (.go (Qu6t Qti9.fn 19) [.ptr 0 0,.ptr 1 0,.sl .entry x0,.int .i64 x1,.int .i64 x2,.sl .fld (z0.fields),.int .i64 ((↑z0.fields.length:Int)),.int .i64 0] [.bld x3,.box [.str (z0.name),.sl .fld (z0.fields)]])) none) (some (.ret (.str x3) [])):=by kernel_rfl
theorem Q3b6(x0:List (El .entry))(x1:Int)(x2:Int)(x3:List (El .fld))(x4:Int)(x5:Int)(x6:Str)(x7:Str)(x8:List (El .fld)):aRun Qti9 600 true (Qu6t Qti9.fn 19) (cutSt Qti9.fn (Q1m4 Qti9 (Qu6t Qti9.fn 19)) [.ptr 0 0,.ptr 1 0,.sl .entry x0,.int .i64 x1,.int .i64 x2,.sl .fld x3,.int .i64 x4,.int .i64 x5] [.bld x6,.box [.str x7,.sl .fld x8]]) =
 let z0:=(x3.getD x5.toNat (Qti9.C.dflt Ty.fld));let z1:=(Chg.mk x7 z0.what z0.number z0.value);let z2:=(formF z1++#[(10:UInt8)].toList);ifb (decide (x5<x4)) (ifb (inb x5 x3.length) (ifb (szV z0.value) (ifb (decide (List.length (formF z1)+#[(10:UInt8)].toList.length≤(9223372036854775807:Nat))) (ifb (decide (List.length x6+z2.length≤(140737488355328:Nat))) (some (.go (Qu6t Qti9.fn 19) [.ptr 0 0,.ptr 1 0,.sl .entry x0,.int .i64 x1,.int .i64 x2,.sl .fld x3,.int .i64 x4,.int .i64 (IntKind.i64.wrap (x5+1))] [.bld (x6++z2),.box [.str x7,.sl .fld x8]])) none) none) none) none) (some (.go (Qu6t Qti9.fn 16) [.ptr 0 0,.sl .entry x0,.int .i64 x1,.int .i64 (IntKind.i64.wrap (x2+1))] [.bld x6])):=by kernel_rfl
theorem Qcq3{n:Int}(h:inR n 0 9999999=true):inR n 0 1000000000=true:=by
 simp only[inR,qaT,qdT]at h ⊢;omega
theorem Qpzv(es:List Entry)(hz:∀e∈es,∀f∈e.fields,szV f.value=true)(i:Nat)(hlt:i<es.length)(h12:es.length≤12)(h5:es[i].fields.length≤5)(X:Nat)(hX:X≤1000000000000)(nxt:∀x0:Str,x0.length≤X→Cut Qti9 Qqrh 16 [.ptr 0 0,.sl .entry es,.int .i64 (es.length:Int),.int .i64 ((i+1:Nat):Int)] [.bld x0] (.str (x0++(es.drop (i+1)).flatMap Qbhp)) []):∀(d j:Nat) (x0:Str),j+d=es[i].fields.length→x0.length+d*1500000000≤X →
  Cut Qti9 Qqrh 19 [.ptr 0 0,.ptr 1 0,.sl .entry es,.int .i64 (es.length:Int),.int .i64 (i:Int),.sl .fld es[i].fields,.int .i64 (es[i].fields.length:Int),.int .i64 (j:Int)] [.bld x0,.box [.str es[i].name,.sl .fld es[i].fields]] (.str (x0++((es[i].fields.drop j).flatMap (fldT es[i].name)++(es.drop (i+1)).flatMap Qbhp))) []:=by
 intro d
 induction d with
 | zero =>
  intro j x0 hj hl
  refine Cut.of Q9js rfl (Q3b6 es es.length i es[i].fields es[i].fields.length j x0 es[i].name es[i].fields) ?_
  conv=>zeta
  have hw:IntKind.wrap .i64 ((i:Int)+1)=((i+1:Nat):Int):=by rw[Qbrg]<;>omega
  rw[hw,List.drop_of_length_le (by omega),show decide ((j:Int)<(es[i].fields.length:Int))=false from decide_eq_false (by omega),List.flatMap_nil,List.nil_append]
  exact Sat.cut (nxt x0 (by omega))
 | succ d ih =>
  intro j x0 hj hl
  refine Cut.of Q9js rfl (Q3b6 es es.length i es[i].fields es[i].fields.length j x0 es[i].name es[i].fields) ?_
  conv=>zeta
  have hltj:j<es[i].fields.length:=by omega
  have hwj:IntKind.wrap .i64 ((j:Int)+1)=((j+1:Nat):Int):=by rw[Qbrg]<;>omega
  have hdj:es[i].fields.drop j=es[i].fields[j]::es[i].fields.drop (j+1):=qdC hltj
  have hxj:es[i].fields.getD (j:Int).toNat (Qti9.C.dflt .fld)=es[i].fields[j]:=by simp[hltj]
  have hinj:inb (j:Int) es[i].fields.length=true:=by simp only[inb,qaT,qdT];omega
  have hv:=hz es[i] (List.getElem_mem hlt) es[i].fields[j] (List.getElem_mem hltj)
  have hfl:=Qpgn (n:=es[i].name) hv
  have nx:=ih (j+1) (x0++fldT es[i].name es[i].fields[j]) (by omega) (by rw[List.length_append];omega)
  have ey:fldT es[i].name es[i].fields[j]=formF (Chg.mk es[i].name es[i].fields[j].what es[i].fields[j].number es[i].fields[j].value)++#[(10:UInt8)].toList:=rfl
  rw[ey]at nx hfl
  have e:x0++((es[i].fields[j]::es[i].fields.drop (j+1)).flatMap (fldT es[i].name)++(es.drop (i+1)).flatMap Qbhp)=x0++(formF (Chg.mk es[i].name es[i].fields[j].what es[i].fields[j].number es[i].fields[j].value)++#[(10:UInt8)].toList)++((es[i].fields.drop (j+1)).flatMap (fldT es[i].name)++(es.drop (i+1)).flatMap Qbhp):=by rw[List.flatMap_cons,ey];simp
  rw[hxj,hinj,hwj,hdj,e,show decide ((j:Int)<(es[i].fields.length:Int))=true from decide_eq_true (by omega),hv]
  simp only[Qd8q]
  exact Sat.nd (decide_eq_true (by simp at hfl ⊢;omega)) (Sat.nd (decide_eq_true (by simp at hfl ⊢;omega)) (Sat.cut nx))
theorem Qfke(ks:List Kind)(ps:List Point)(es:List Entry)(hb:Qn0o ks ps es=true)(hz:∀e∈es,∀f∈e.fields,szV f.value=true):∀(d i:Nat) (x0:Str),i+d=es.length→x0.length+d*7500000000≤1000000000000 →
  Cut Qti9 Qqrh 16 [.ptr 0 0,.sl .entry es,.int .i64 (es.length:Int),.int .i64 (i:Int)] [.bld x0] (.str (x0++(es.drop i).flatMap Qbhp)) []:=by
 obtain⟨h12,hf5⟩:=Qm34 hb
 intro d
 induction d with
 | zero =>
  intro i x0 hi hl
  refine Cut.of Q9js rfl (Q2wc es es.length i x0) ?_
  conv=>zeta
  rw[List.drop_of_length_le (by omega),show decide ((i:Int)<(es.length:Int))=false from decide_eq_false (by omega),Qk7y,List.flatMap_nil,List.append_nil]
  exact Sat.ret rfl rfl
 | succ d ih =>
  intro i x0 hi hl
  refine Cut.of Q9js rfl (Q2wc es es.length i x0) ?_
  conv=>zeta
  have hlt:i<es.length:=by omega
  have h5:=hf5 es[i] (List.getElem_mem hlt)
  have hin:inb (i:Int) es.length=true:=by simp only[inb,qaT,qdT];omega
  have hx:es.getD (i:Int).toNat (Qti9.C.dflt .entry)=es[i]:=by simp[hlt]
  rw[show decide ((i:Int)<(es.length:Int))=true from decide_eq_true (by omega),hin,hx,Qd8q,Qd8q,qdC hlt,List.flatMap_cons]
  have hm:∀m y d X:Nat,m≤5→y+(d+1)*7500000000≤1000000000000→1000000000000≤X+d*7500000000→y+m*1500000000≤X:=fun m y d X h1 h2 h3=>by
   have h4:m*1500000000≤7500000000:=Nat.le_trans (Nat.mul_le_mul_right _ h1) (Nat.le_of_eq rfl)
   rw[Nat.add_mul,Nat.one_mul]at h2
   exact Qdxi y (m*1500000000) (d*7500000000) 7500000000 1000000000000 X h4 h2 h3
  obtain⟨X,hX,hX2⟩:∃X:Nat,1000000000000≤X+d*7500000000∧X+d*7500000000≤1000000000000:=⟨1000000000000-d*7500000000,by omega,by omega⟩
  have h:=Qpzv es hz i hlt h12 h5 X (by omega) (fun x h=>ih (i+1) x (by omega) (by omega)) es[i].fields.length 0 x0 (by omega) (hm _ _ _ _ h5 hl hX)
  rw[List.drop_zero]at h
  exact Sat.cut h
theorem Qvqm(ks:List Kind)(ps:List Point)(es:List Entry)(hb:Qn0o ks ps es=true)(hz:∀e∈es,∀f∈e.fields,szV f.value=true):∀(d i:Nat) (x0:Str),i+d=ps.length→x0.length+d*100≤10000 →
  Cut Qti9 Qqrh 11 [.ptr 0 0,.ptr 1 0,.fn (Fn.func (102:Nat)) [],.sl .point ps,.int .i64 (ps.length:Int),.int .i64 (i:Int)] [.box [.sl .kind ks,.sl .point ps,.sl .entry es],.bld x0] (.str (x0++((ps.drop i).flatMap Q0f8++es.flatMap Qbhp))) []:=by
 have hb2:=hb
 simp only[Qn0o,Qib4,qaT,qdT]at hb2
 obtain⟨⟨b1,b2,b3,b4⟩,_⟩:=hb2
 intro d
 induction d with
 | zero =>
  intro i x0 hi hl
  refine Cut.of Q9js rfl (Qpiu ps ps.length i ks ps es x0) ?_
  conv=>zeta
  rw[List.drop_of_length_le (by omega),show decide ((i:Int)<(ps.length:Int))=false from decide_eq_false (by omega),Qk7y,List.flatMap_nil,List.nil_append]
  exact Sat.cut (Qfke ks ps es hb hz es.length 0 x0 (by omega) (by obtain⟨h12,_⟩:=Qm34 hb;omega))
 | succ d ih =>
  intro i x0 hi hl
  refine Cut.of Q9js rfl (Qpiu ps ps.length i ks ps es x0) ?_
  conv=>zeta
  have hlt:i<ps.length:=by omega
  have hw:IntKind.wrap .i64 ((i:Int)+1)=((i+1:Nat):Int):=by rw[Qbrg]<;>omega
  have hd:ps.drop i=ps[i]::ps.drop (i+1):=qdC hlt
  have hx:ps.getD (i:Int).toNat (Qti9.C.dflt .point)=ps[i]:=by simp[hlt]
  have hin:inb (i:Int) ps.length=true:=by simp only[inb,qaT,qdT];omega
  have hlo:decide ((i:Int)<(ps.length:Int))=true:=decide_eq_true (by omega)
  have hl:(ps.take (i+1)).getLast? = some ps[i]:=by rw[qtS hlt,qlC]
  have hk:ps[i].ok=true:=Q1nj b4 _ (List.getElem_mem hlt)
  obtain⟨r1,r2,r3,r4,r5⟩:=Qa3t hk
  have ht:=Qhew hk
  have nx:=ih (i+1) (x0++Q0f8 ps[i]) (by omega) (by rw[List.length_append];omega)
  have ey:Q0f8 ps[i]=(#[(112:UInt8),111,105,110,116,32].toList++ps[i].name++#[(32:UInt8)].toList++decS ps[i].x++#[(32:UInt8)].toList++decS ps[i].y++#[(10:UInt8)].toList):=by simp[Q0f8,Qisw]
  rw[ey]at nx ht
  have e:x0++((ps[i]::ps.drop (i+1)).flatMap Q0f8++es.flatMap Qbhp)=x0++(#[(112:UInt8),111,105,110,116,32].toList++ps[i].name++#[(32:UInt8)].toList++decS ps[i].x++#[(32:UInt8)].toList++decS ps[i].y++#[(10:UInt8)].toList)++((ps.drop (i+1)).flatMap Q0f8++es.flatMap Qbhp):=by rw[List.flatMap_cons,ey];simp
  rw[hlo,hx,hw,hin,hd,e,Qcq3 r2,Qcq3 r3]
  simp only[Qd8q]
  have q:∀n m:Nat,n≤1000→1000≤m→decide (n≤m)=true:=fun n m h h2=>decide_eq_true (Nat.le_trans h h2)
  generalize ps[i].name=n at r1 nx ht ⊢
  generalize decS ps[i].x=da at r4 nx ht ⊢
  generalize decS ps[i].y=db at r5 nx ht ⊢
  exact Sat.nd (q _ _ (by simp;omega) (by omega)) (Sat.nd (q _ _ (by simp;omega) (by omega)) (Sat.nd (q _ _ (by simp;omega) (by omega)) (Sat.nd (q _ _ (by simp;omega) (by omega)) (Sat.nd (q _ _ (by simp;omega) (by omega)) (Sat.nd (q _ _ (by simp;omega) (by omega)) (Sat.nd (decide_eq_true (by simp at ht ⊢;omega)) (Sat.cut nx)))))))
theorem Ql4w(ks:List Kind)(ps:List Point)(es:List Entry)(hb:Qn0o ks ps es=true)(hz:∀e∈es,∀f∈e.fields,szV f.value=true):∀(d i:Nat) (x0:Str),i+d=ks.length→x0.length+d*100≤5000 →
  Cut Qti9 Qqrh 6 [.ptr 0 0,.ptr 1 0,.fn (Fn.func (102:Nat)) [],.sl .kind ks,.int .i64 (ks.length:Int),.int .i64 (i:Int)] [.box [.sl .kind ks,.sl .point ps,.sl .entry es],.bld x0] (.str (x0++((ks.drop i).flatMap kindT++(ps.flatMap Q0f8++es.flatMap Qbhp)))) []:=by
 have hb2:=hb
 simp only[Qn0o,Qib4,qaT,qdT]at hb2
 obtain⟨⟨b1,b2,b3,b4⟩,_⟩:=hb2
 intro d
 induction d with
 | zero =>
  intro i x0 hi hl
  refine Cut.of Q9js rfl (Qrvm ks ks.length i ks ps es x0) ?_
  conv=>zeta
  rw[List.drop_of_length_le (by omega),show decide ((i:Int)<(ks.length:Int))=false from decide_eq_false (by omega),Qk7y,List.flatMap_nil,List.nil_append]
  exact Sat.cut (Qvqm ks ps es hb hz ps.length 0 x0 (by omega) (by omega))
 | succ d ih =>
  intro i x0 hi hl
  refine Cut.of Q9js rfl (Qrvm ks ks.length i ks ps es x0) ?_
  conv=>zeta
  have hlt:i<ks.length:=by omega
  have hw:IntKind.wrap .i64 ((i:Int)+1)=((i+1:Nat):Int):=by rw[Qbrg]<;>omega
  have hd:ks.drop i=ks[i]::ks.drop (i+1):=qdC hlt
  have hx:ks.getD (i:Int).toNat (Qti9.C.dflt .kind)=ks[i]:=by simp[hlt]
  have hin:inb (i:Int) ks.length=true:=by simp only[inb,qaT,qdT];omega
  have hlo:decide ((i:Int)<(ks.length:Int))=true:=decide_eq_true (by omega)
  have hl:(ks.take (i+1)).getLast? = some ks[i]:=by rw[qtS hlt,qlC]
  have hk:ks[i].ok=true:=Q315 b3 _ (List.getElem_mem hlt)
  obtain⟨r1,r2,r3,r4,r5⟩:=Q9gv hk
  have ht:=Qgp5 hk
  have nx:=ih (i+1) (x0++kindT ks[i]) (by omega) (by rw[List.length_append];omega)
  have ey:kindT ks[i]=(#[(107:UInt8),105,110,100,32].toList++ks[i].name++#[(32:UInt8)].toList++decS ks[i].quick++#[(32:UInt8)].toList++decS ks[i].slow++#[(10:UInt8)].toList):=by simp[kindT,Qq2m]
  rw[ey]at nx ht
  have e:x0++((ks[i]::ks.drop (i+1)).flatMap kindT++(ps.flatMap Q0f8++es.flatMap Qbhp))=x0++(#[(107:UInt8),105,110,100,32].toList++ks[i].name++#[(32:UInt8)].toList++decS ks[i].quick++#[(32:UInt8)].toList++decS ks[i].slow++#[(10:UInt8)].toList)++((ks.drop (i+1)).flatMap kindT++(ps.flatMap Q0f8++es.flatMap Qbhp)):=by rw[List.flatMap_cons,ey];simp
  rw[hlo,hx,hw,hin,hd,e,Qcq3 r2,Qcq3 r3]
  simp only[Qd8q]
  have q:∀n m:Nat,n≤1000→1000≤m→decide (n≤m)=true:=fun n m h h2=>decide_eq_true (Nat.le_trans h h2)
  generalize ks[i].name=n at r1 nx ht ⊢
  generalize decS ks[i].quick=da at r4 nx ht ⊢
  generalize decS ks[i].slow=db at r5 nx ht ⊢
  exact Sat.nd (q _ _ (by simp;omega) (by omega)) (Sat.nd (q _ _ (by simp;omega) (by omega)) (Sat.nd (q _ _ (by simp;omega) (by omega)) (Sat.nd (q _ _ (by simp;omega) (by omega)) (Sat.nd (q _ _ (by simp;omega) (by omega)) (Sat.nd (q _ _ (by simp;omega) (by omega)) (Sat.nd (decide_eq_true (by simp at ht ⊢;omega)) (Sat.cut nx)))))))
theorem Qotu(ks:List Kind)(ps:List Point)(es:List Entry)(hg:szB es=true):Qewq Tryz.prog CP Qqrh [.agg [.sl .kind ks,.sl .point ps,.sl .entry es]] [] (.str (Q9kb ks ps es)) []:=by
 refine Qewq.of Q9js (by kernel_rfl) (Qdi0 ks ps es) ?_
 rw[show szB es=true from hg,Qd8q,Q9kb]
 cases hb:Qn0o ks ps es with
 | false=>exact Sat.ret rfl rfl
 | true =>
  have hz:∀e∈es,∀f∈e.fields,szV f.value=true:=fun e he f hf=>by
   simp only[szB,qaT]at hg
   have h1:=qlA.1 hg.2 e he
   simp only[szE,qaT]at h1
   exact qlA.1 h1.2 f hf
  have hb2:=hb
  simp only[Qn0o,Qib4,qaT,qdT]at hb2
  rw[if_pos rfl]
  simp only[Bool.not_true,Qk7y]
  exact Sat.cut (Ql4w ks ps es hb hz ks.length 0 [] (by omega) (by simp;omega))
theorem Q4pm:EntOK Tryz.prog CP Qqrh Q55o:=by
 refine⟨eob (by kernel_rfl),fun _ _ _ _ h=>?_⟩
 simp only[Q55o,Qnk5]at h
 split at h
 ·obtain⟨hg,rfl,rfl⟩:=eoh h
  exact Qotu _ _ _ hg
 ·cases h
end Lx
namespace Lx
open Go Go.Proofs
noncomputable def Q6sw:RE Ty El:=⟨Tryz.prog,CP,[(Qolp,Q97b),(Qqrh,Q55o),(Qaev,Qjv4),(Qjbj,Qer6),(Qwou,Qzl2),(Q5ho,Qz24)],Tryz.f14,0,[],[(16,[(3,.any),(5,.any),(10,.any),(11,.any),(12,.any)])]⟩
theorem Qqms:REOK Q6sw Q2dt:=⟨CP_ok,(TabOK.cons Q7x1 (TabOK.cons Q4pm (TabOK.cons Qwza (TabOK.cons Qy0j (TabOK.cons Qafr (TabOK.cons Qxl3 Qye1)))))),by kernel_rfl,by kernel_rfl⟩
theorem Qck0(c:List Int):aRun Q6sw 600 false (body0 Q6sw.fn) (Q4gm Q6sw.fn [.sl .u8 c] []) =
 let z0:=(Qob6 (Qerj c).s);let z1:=(Qob6 (Q9kb z0.ks z0.ps z0.es));let z2:OL:=(some (.ret (.bool false) []));let z3:OL:=(some (.ret (.bool true) []));ifb (decide ((↑c.length:Int)>(1048576:Int))) z3 (ifb (Qf9o c) (ifb (szS (Qerj c).s) (ifb (szS (Qerj c).s) (ifb (!(z0.line==z0.line&&(z0.code==z0.code&&true))) z2 (ifb (Q2xe z0.ks z0.ks z0.ps z0.ps z0.es z0.es) (ifb (z0.code==0) (ifb (szB z0.es) (ifb (szS (Q9kb z0.ks z0.ps z0.es)) (ifb (szB z0.es) (ifb (Qn0o z0.ks z0.ps z0.es) (ifb (z1.code==0) (ifb (Q2xe z1.ks z0.ks z1.ps z0.ps z1.es z0.es) z3 none) z2) z2) none) none) none) (ifb (z0.line==0) (ifb (Q2xe z0.ks [] z0.ps [] z0.es []) z3 none) (some (.go (Qu6t Q6sw.fn 16) [.str ((Qerj c).s),.ptr 0 0,.int .i64 1,.str #[].toList,.int .i64 0] [.box [.int .i64 (z0.line),.int .i64 (z0.code)]])))) none)) none) none) none):=by kernel_rfl
theorem Qm6e(x0:Str)(x1:Int)(x2:Str)(x3:Int)(x4:Int)(x5:Int):aRun Q6sw 600 true (Qu6t Q6sw.fn 16) (cutSt Q6sw.fn (Q1m4 Q6sw (Qu6t Q6sw.fn 16)) [.str x0,.ptr 0 0,.int .i64 x1,.str x2,.int .i64 x3] [.box [.int .i64 x4,.int .i64 x5]]) =
 let z0:=(IntKind.i64.wrap (x3+1));let z1:OL:=(some (.ret (.bool ((Qob6 x2).code==0)) []));let z2:=(Qu6t Q6sw.fn 16);let z3:HL:=[.box [.int .i64 x4,.int .i64 x5]];ifb (decide (x3<(↑(List.length x0):Int))) (ifb (decide (x1<x4)) (ifb (inb x3 (List.length x0)) (ifb ((↑(List.getD x0 x3.toNat (0:UInt8)).toNat:Int)==(10:Int)) (ifb (decide ((0:Int)≤(0:Int))&&(decide (0≤IntKind.i64.wrap (x3+1))&&decide (IntKind.i64.wrap (x3+1)≤(↑(List.length x0):Int)))) (some (.go z2 [.str x0,.ptr 0 0,.int .i64 (IntKind.i64.wrap (x1+1)),.str (List.take (z0.toNat-Int.toNat (0:Int)) (List.drop (Int.toNat (0:Int)) x0)),.int .i64 z0] z3)) none) (some (.go z2 [.str x0,.ptr 0 0,.int .i64 x1,.str x2,.int .i64 z0] z3))) none) (ifb (szS x2) z1 none)) (ifb (szS x2) z1 none):=by kernel_rfl
theorem Q54a(t:Str)(m:Int):∀(s:Str) (i:Nat) (n:Int) (h:Str),h.length≤t.length→(scanF t m s i n h).length≤t.length
 | [],_,_,h,hh=>hh
 | b::s,i,n,h,hh=>by
  rw[scanF]
  split
  ·split
   ·exact Q54a t m s _ _ _ (by rw[List.length_take];omega)
   ·exact Q54a t m s _ _ _ hh
  ·exact hh
theorem Q4aa(t:Str)(m q:Int)(ht:t.length≤1000000000):∀(s:Str) (i:Nat) (n:Int) (h:Str),t.drop i=s→i+s.length=t.length→0≤n→n≤(i:Int)+1→h.length≤t.length→(Qob6 (scanF t m s i n h)).code=0 →
  Cut Q6sw Q2dt 16 [.str t,.ptr 0 0,.int .i64 n,.str h,.int .i64 (i:Int)] [.box [.int .i64 m,.int .i64 q]] (.bool true) []:=by
 have fin:∀h:Str,h.length≤t.length→(Qob6 h).code=0→Sat Q6sw Q2dt (.bool true) [] (ifb (szS h) (some (.ret (.bool ((Qob6 h).code==(0:Int))) [])) none):=fun h hh h0=>by
  rw[show szS h=true from decide_eq_true (by omega),h0]
  exact Sat.ret rfl rfl
 intro s
 induction s with
 | nil =>
  intro i n h hd hi h0 h1 hh hp
  refine Cut.of Qqms rfl (Qm6e t n h i m q) ?_
  conv=>zeta
  rw[show decide ((i:Int)<(List.length t:Int))=false from decide_eq_false (by simp at hi;omega)]
  exact fin h hh hp
 | cons b s ih =>
  intro i n h hd hi h0 h1 hh hp
  refine Cut.of Qqms rfl (Qm6e t n h i m q) ?_
  conv=>zeta
  rw[List.length_cons]at hi
  have hlt:i<t.length:=by omega
  have hb:t.getD i 0=b:=by
   have:=congrArg (fun l:Str=>l.getD 0 0) hd
   simpa[qgD]using this
  have hd2:t.drop (i+1)=s:=by
   have:=congrArg List.tail hd
   simpa[List.tail_drop]using this
  have hw:IntKind.i64.wrap ((i:Int)+1)=((i+1:Nat):Int):=by rw[Qbrg]<;>omega
  have hin:inb (i:Int) (List.length t)=true:=by simp only[inb,qaT,qdT];omega
  rw[show decide ((i:Int)<(List.length t:Int))=true from decide_eq_true (by omega),hin,hw]
  simp only[Qd8q,Int.toNat_natCast]
  rw[hb]
  rw[scanF]at hp
  cases hn:decide (n<m) with
  | false =>
   rw[if_neg (of_decide_eq_false hn)]at hp
   exact fin h hh hp
  | true =>
   rw[if_pos (of_decide_eq_true hn)]at hp
   cases hc:((b.toNat:Int)==10) with
   | false =>
    rw[if_neg (by rw[hc];simp)]at hp
    exact Sat.cut (ih (i+1) n h hd2 (by omega) h0 (by omega) hh hp)
   | true =>
    rw[if_pos hc]at hp
    rw[show IntKind.i64.wrap (n+1)=n+1 from Qbrg (by omega) (by omega),show i+1-Int.toNat 0=i+1 from rfl,show List.drop (Int.toNat 0) t=t from rfl]
    simp only[Qd8q]
    exact Sat.nd (by simp only[qaT,qdT];omega) (Sat.cut (ih (i+1) (n+1) (t.take (i+1)) hd2 (by omega) (by omega) (by omega) (by rw[List.length_take];omega) hp))
theorem Qe3m(c:List Int)(hg:Qf9o c=true):Qewq Tryz.prog CP Q2dt [.sl .u8 c] [] (.bool true) []:=by
 refine Qewq.of Qqms (by kernel_rfl) (Qck0 c) ?_
 conv=>zeta
 have gs:szS (Qerj c).s=true:=(Qkif c hg).2
 generalize (Qerj c).s=t at gs ⊢
 cases h1:decide ((c.length:Int)>1048576) with
 | true=>exact Sat.ret rfl rfl
 | false =>
 have gE:=Qh3t gs
 have gE2:=gE
 simp only[goodE,qaT]at gE2
 have gb:=gE2.2
 have gz:szB (Qob6 t).es=true:=by have h:=gb;simp only[goodB,qaT]at h;exact h.1
 rw[hg,gs,Qw30 gb]
 simp only[beq_self_eq_true,Bool.and_self,Bool.not_true,Qd8q,Qk7y]
 cases hc:((Qob6 t).code==(0:Int)) with
 | true =>
  have hb:=Qn7k gs
  obtain⟨e,hl⟩:=Q9t4 hb
  rw[gz,show szS (Q9kb (Qob6 t).ks (Qob6 t).ps (Qob6 t).es)=true from decide_eq_true (by omega),hb,e,Qw30 gb]
  exact Sat.ret rfl rfl
 | false =>
  have hc':(Qob6 t).code≠0:=by simpa using hc
  cases hl:((Qob6 t).line==(0:Int)) with
  | true =>
   obtain⟨e1,e2,e3⟩:=Q131 hc'
   rw[e1,e2,e3]
   exact Sat.ret rfl rfl
  | false =>
   have hl':(Qob6 t).line≠0:=by simpa using hl
   obtain⟨f1,f2,f3⟩:=Q1d8 hc' hl'
   have sc:=Qajy t (Qob6 t).line f2 t [] [] rfl (fun l hl=>by cases hl) rfl (by simpa using f1)
   have sl:=Q54a t (Qob6 t).line t 0 1 [] (Nat.zero_le _)
   have ht:t.length≤1000000000:=of_decide_eq_true gs
   have sc2:scanF t (Qob6 t).line t 0 1 []=joinL ((cutS 10 t).take ((Qob6 t).line.toNat-1)):=sc
   rw[sc2]at sl
   exact Sat.cut (Q4aa t (Qob6 t).line (Qob6 t).code ht t 0 1 [] rfl (by omega) (by omega) (by omega) (Nat.zero_le _) (by rw[sc2];exact f3 sl))
end Lx
