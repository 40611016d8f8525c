/- Numbers read; lists of numbers. -/
import Derived.Lib.Bytealg
import Derived.Sort.Statements
import Derived.Shelf.GgSortFunc.InsertionK
import Derived.Shelf.SlSortCmp.Insertion
import Derived.Lib.Walk
import Derived.Test.YtefjaihaocdpcaaGreatDoorLeffjlgmbmk
set_option linter.unusedVariables false
set_option linter.unusedSimpArgs false
set_option maxRecDepth 4000
namespace Lx
open Go Go.Proofs
noncomputable def Qhnv:RE Ty El:=⟨Tryz.prog,CP,[(Q409,Q028),(Q6ji,Qrl7)],Tryz.f104,0,[],[]⟩
theorem Qmyy:REOK Qhnv Q8l1:=⟨CP_ok,(TabOK.cons Qgq4 (TabOK.cons Qabz Qye1)),by kernel_rfl,by kernel_rfl⟩
theorem Qqay(s:Str)(m:Int):aRun Qhnv 600 false (body0 Qhnv.fn) (Q4gm Qhnv.fn [.str s,.int .i64 m] []) =
 let z0:OL:=(some (.ret (.tup [.int .i64 0,.bool false]) []));let z1:OL:=(some (.ret (.tup [.int .i64 ((Lib.atoi s).getD (0:Int)),.bool true]) []));let z2:=(ifb (decide (List.length s≤(18:Nat))&&(Lib.atoi s).isSome) z1 none);ifb (s==#[].toList) z0 (ifb (decide ((↑(List.length s):Int)>m)) z0 (ifb (decide (#[(48:UInt8),49,50,51,52,53,54,55,56,57].toList=Qy27)&&(decide ((0:Nat)<List.length s)&&szS s)) (ifb (!Lib.trimS s Qy27==#[].toList) z0 (ifb (inb (0:Int) (List.length s)) (ifb ((↑(List.getD s (Int.toNat (0:Int)) (0:UInt8)).toNat:Int)==(48:Int)) (ifb (!s==#[(48:UInt8)].toList) z0 z2) z2) none)) none)):=by kernel_rfl
theorem Qxag(s:Str)(m:Int)(hg:decide (m=7)=true):Qewq Tryz.prog CP Q8l1 [.str s,.int .i64 m] [] (.tup [.int .i64 (decV s),.bool (decB s)]) []:=by
 refine Qewq.of Qmyy (by kernel_rfl) (Qqay s m) ?_
 conv=>zeta
 have hm:m=7:=of_decide_eq_true hg
 subst hm
 have no:numF s=-1→Sat Qhnv Q8l1 (.tup [.int .i64 (decV s),.bool (decB s)]) [] (some (.ret (.tup [.int .i64 (0:Int),.bool false]) [])):=fun h=>by
  refine Sat.ret ?_ rfl
  simp[decV,decB,h]
  decide
 have hdig:decide (#[(48:UInt8),49,50,51,52,53,54,55,56,57].toList=Qy27)=true:=rfl
 rw[hdig]
 by_cases h0:s=[]
 ·subst h0
  exact no rfl
 ·have hl0:0<s.length:=List.length_pos_iff.2 h0
  have e0:(s==#[].toList)=false:=by simpa using h0
  rw[e0]
  simp only[Qk7y]
  by_cases h7:s.length≤7
  ·have hz:szS s=true:=decide_eq_true (by omega)
   rw[decide_eq_false (by omega),decide_eq_true hl0,hz,Qm0m]
   simp only[Qk7y,Bool.and_self,Qd8q]
   cases hd:s.all isDig with
   | false =>
    refine no ?_
    unfold numF
    by_cases hc:1≤s.length∧s.length≤7∧¬(1<s.length∧((s.getD 0 0).toNat:Int)=48)
    ·rw[if_pos hc,Qz12 hd]
    ·rw[if_neg hc]
   | true =>
    have hat:=Qf1l hl0 hd
    have hg0:=Qk3r hd
    have hin:inb (0:Int) s.length=true:=by simp only[inb,qaT,qdT];omega
    have h18:(decide (s.length≤18)&&(Lib.atoi s).isSome)=true:=by rw[hat,decide_eq_true (by omega)];rfl
    have yes:¬(1<s.length∧((s.getD 0 0).toNat:Int)=48)→Sat Qhnv Q8l1 (.tup [.int .i64 (decV s),.bool (decB s)]) [] (some (.ret (.tup [.int .i64 ((Lib.atoi s).getD (0:Int)),.bool true]) [])):=fun h=>by
     have hn:numF s=numGo 0 s:=by unfold numF;rw[if_pos ⟨hl0,h7,h⟩]
     refine Sat.ret ?_ rfl
     rw[hat]
     have e1:decV s=numGo 0 s:=by unfold decV;rw[hn];omega
     have e2:decB s=true:=by unfold decB;rw[hn];exact decide_eq_true hg0
     rw[e1,e2];rfl
    rw[hin,h18]
    simp only[Bool.not_true,Qk7y,Qd8q]
    have ez:s.getD (Int.toNat 0) 0=s.getD 0 0:=rfl
    rw[ez]
    by_cases hz0:((s.getD 0 0).toNat:Int)=48
    ·rw[hz0]
     simp only[beq_self_eq_true,Qd8q]
     by_cases h1:1<s.length
     ·have hne:(s==#[(48:UInt8)].toList)=false:=by
       apply beq_eq_false_iff_ne.2
       intro e
       rw[e]at h1;simp at h1
      rw[hne]
      refine no ?_
      unfold numF
      rw[if_neg (fun hc=>hc.2.2 ⟨h1,hz0⟩)]
     ·have hne:(s==#[(48:UInt8)].toList)=true:=by
       cases s with
       | nil=>simp at hl0
       | cons b t =>
        have ht:t=[]:=List.eq_nil_of_length_eq_zero (by simp only[List.length_cons]at h1;omega)
        subst ht
        have:b=48:=UInt8.toNat_inj.1 (by have:((b.toNat:Nat):Int)=48:=hz0;show b.toNat=48;omega)
        subst this;rfl
      rw[hne]
      exact yes (fun hc=>h1 hc.1)
    ·rw[beq_eq_false_iff_ne.2 hz0]
     exact yes (fun hc=>hz0 hc.2)
  ·rw[decide_eq_true (by omega)]
   refine no ?_
   unfold numF
   rw[if_neg (by omega)]
theorem Qbi7:EntOK Tryz.prog CP Q8l1 Q18u:=by
 refine⟨eob (by kernel_rfl),fun _ _ _ _ h=>?_⟩
 simp only[Q18u]at h
 split at h
 ·obtain⟨hg,rfl,rfl⟩:=eoh h
  exact Qxag _ _ hg
 ·cases h

noncomputable def Qhfx:RE Ty El:=⟨Tryz.prog,CP,[(Q8l1,Q18u)],Tryz.f167,0,[.ro .int,.any],[(3,[(1,.any),(6,.any),(11,.any),(12,.any),(13,.any)])]⟩
theorem Qker:REOK Qhfx Q0gt:=⟨CP_ok,(TabOK.cons Qbi7 Qye1),by kernel_rfl,by kernel_rfl⟩
theorem Qu7l(w:List Str)(m:Int):aRun Qhfx 600 false (body0 Qhfx.fn) (Q4gm Qhfx.fn [.sl .str w,.int .i64 m] []) =
 some (.go (Qu6t Qhfx.fn 3) [.int .i64 m,.own 0 [] 0,.sl .str w,.int .i64 (↑w.length:Int),.int .i64 0] [.row .int [] 0 0 0 .no]):=by kernel_rfl
theorem Qfs1(x0:Int)(x1:List (El .str))(x2:Int)(x3:Int)(x4:List (El .int)):aRun Qhfx 600 true (Qu6t Qhfx.fn 3) (cutSt Qhfx.fn (Q1m4 Qhfx (Qu6t Qhfx.fn 3)) [.int .i64 x0,.own 0 [] 0,.sl .str x1,.int .i64 x2,.int .i64 x3] [.row .int x4 0 0 0 .no]) =
 let z0:=(x1.getD x3.toNat (Qhfx.C.dflt Ty.str));ifb (decide (x3<x2)) (ifb (inb x3 x1.length) (ifb (decide (x0=(7:Int))) (ifb (!decB z0) (some (.ret (.tup [.sl .int [],.bool false]) [])) (ifb (decide ((x4.length+[decV z0].length)*Qbhn Qhfx.P (3:Nat)≤(140737488355328:Nat))) (some (.go (Qu6t Qhfx.fn 3) [.int .i64 x0,.own 0 [] 0,.sl .str x1,.int .i64 x2,.int .i64 (IntKind.i64.wrap (x3+1))] [.row .int (x4++[decV z0]) 0 0 0 .no])) none)) none) none) (some (.ret (.tup [.sl .int x4,.bool true]) [])):=by kernel_rfl
theorem Qjoa(w:List Str)(hw:w.length≤2000000000):∀(d i:Nat),i+d=w.length→(w.take i).all decB=true→Cut Qhfx Q0gt 3 [.int .i64 7,.own 0 [] 0,.sl .str w,.int .i64 (w.length:Int),.int .i64 (i:Int)] [.row .int ((w.take i).map decV) 0 0 0 .no] (.tup [.sl .int (decsV w),.bool (w.all decB)]) []:=by
 intro d
 have hb:Qbhn Qhfx.P 3=8:=by kernel_rfl
 induction d with
 | zero =>
  intro i hi ha
  refine Cut.of Qker rfl (Qfs1 7 w w.length i _) ?_
  conv=>zeta
  rw[decide_eq_false (by omega)]
  have:w.take i=w:=List.take_of_length_le (by omega)
  rw[this]at ha ⊢
  refine Sat.ret ?_ rfl
  unfold decsV
  rw[if_pos ha,ha]
 | succ d ih =>
  intro i hi ha
  refine Cut.of Qker rfl (Qfs1 7 w w.length i _) ?_
  conv=>zeta
  have hlt:i<w.length:=by omega
  have hwr:IntKind.wrap .i64 ((i:Int)+1)=((i+1:Nat):Int):=by rw[Qbrg]<;>omega
  have hx:w.getD (i:Int).toNat (Qhfx.C.dflt .str)=w[i]:=by simp[hlt]
  have hin:inb (i:Int) w.length=true:=by simp only[inb,qaT,qdT];omega
  have htk:=qtS hlt
  have hroom:decide ((((w.take i).map decV).length+[decV w[i]].length)*8≤140737488355328)=true:=decide_eq_true (by simp;omega)
  rw[decide_eq_true (by omega),hin,hx,hwr,hb,hroom,show decide ((7:Int)=7)=true from rfl]
  simp only[Qd8q]
  cases hd:decB w[i] with
  | false =>
   have:w.all decB=false:=by
    apply Bool.eq_false_iff.2
    intro h
    have:=qlA.1 h w[i] (List.getElem_mem hlt)
    rw[hd]at this;cases this
   refine Sat.ret ?_ rfl
   unfold decsV
   rw[this];rfl
  | true =>
   have:=ih (i+1) (by omega) (by rw[htk,List.all_append,ha];simp[hd])
   rw[htk,List.map_append]at this
   exact Sat.cut this
theorem Qlk2(w:List Str)(m:Int)(hg:(decide (m=7)&&decide (w.length≤2000000000))=true):Qewq Tryz.prog CP Q0gt [.sl .str w,.int .i64 m] [] (.tup [.sl .int (decsV w),.bool (w.all decB)]) []:=by
 refine Qewq.of Qker (by kernel_rfl) (Qu7l w m) ?_
 simp only[qaT,qdT]at hg
 obtain⟨rfl,hw⟩:=hg
 exact Sat.cut (Qjoa w hw w.length 0 (by omega) rfl)
theorem Q6fz:EntOK Tryz.prog CP Q0gt Qroy:=by
 refine⟨eob (by kernel_rfl),fun _ _ _ _ h=>?_⟩
 simp only[Qroy]at h
 split at h
 ·obtain⟨hg,rfl,rfl⟩:=eoh h
  exact Qlk2 _ _ hg
 ·cases h
end Lx
namespace Lx
open Go Go.Proofs
def ptOf(ps:List Point)(n:Str):Point:=ps.getD (Qigq ps n).toNat (dfltP .point)
def Q51t(ps:List Point)(w:List Str):List Point:=if Qyhl ps w then w.map (ptOf ps) else []
def Qbsc:Ent Ty El:=⟨[.ro,.ro],0,fun a h=>match a,h with
 | [.agg [.sl .kind ks,.sl .point ps],.sl .str w],[]=>some (decide (ps.length<1000000000),.tup [.sl .point (Q51t ps w),.bool (Qyhl ps w)],[])
 | _,_=>none⟩
def Qmiz:Ent Ty El:=⟨[.ro,.ro,.ro],0,fun a h=>match a,h with
 | [.agg [.sl .kind ks,.sl .point ps],.int .i64 what,.str v],[]=>some (szV v&&(decide (ks.length<1000000000)&&decide (ps.length<1000000000)),.bool (fitsV ks ps what v),[])
 | _,_=>none⟩
def Qna9:Ent Ty El:=⟨[.ro,.ro],0,fun a h=>match a,h with
 | [.agg [.sl .kind ks,.sl .point ps],.agg [.str fl,.int .i64 what,.int .i64 num,.str v]],[]=>some (szV v&&(decide (ks.length<1000000000)&&decide (ps.length<1000000000)),.bool (Qh2h ks ps fl what num v),[])
 | _,_=>none⟩
def Qjv4:Ent Ty El:=Q124
theorem Qtox(c:Int):∀s:Str,(cutS c s).length≤s.length+1
 | []=>by simp[cutS]
 | b::s=>by
  have:=Qtox c s
  simp only[cutS]
  split
  ·simp;omega
  ·split
   ·simp
   ·rename_i w ws h
    rw[h]at this
    simp at this ⊢;omega
theorem Qrzz{ks:List Kind}{ps:List Point}(h:Qib4 ks ps=true):ks.length≤6∧ps.length≤16:=by
 simp only[Qib4,qaT,qdT]at h
 exact⟨h.1,h.2.1⟩
theorem Qxkm{ks:List Kind}{ps:List Point}{n:Str}{prev:Option Int}{f:Fld}{fs:List Fld}:Qt03 ks ps n prev (f::fs)=(Qh2h ks ps n f.what f.number f.value&&((match prev with|none=>true|some q=>decide (q<f.what))&&Qt03 ks ps n (some f.what) fs)):=by cases prev<;>rfl
theorem Qvuh{ks:List Kind}{ps:List Point}{e:Entry}(h:¬e.fields.length=0):Q7i7 ks ps e=Qt03 ks ps e.name none e.fields:=by
 unfold Q7i7
 rw[decide_eq_false h]
 cases hf:e.fields with
 | nil=>rw[hf]at h;simp at h
 | cons f fs =>
  simp only[Qt03,Qh2h,Bool.not_false,Bool.true_and]
  cases Q2rq e.name<;>simp
end Lx
namespace Lx
open Go Go.Proofs
noncomputable def Qe0d:RE Ty El:=⟨Tryz.prog,CP,[(Qn2h,Q0vx),(Q8ie,Q4q8)],Tryz.f121,0,[.ro .point,.any],[(5,[(1,.any),(2,.any),(6,.any),(14,.any),(15,.any),(16,.any)])]⟩
theorem Qtsk:REOK Qe0d Qwtz:=⟨CP_ok,(TabOK.cons Qfgu (TabOK.cons Q5yh Qye1)),by kernel_rfl,by kernel_rfl⟩
theorem Qwrn(ks:List Kind)(ps:List Point)(w:List Str):aRun Qe0d 600 false (body0 Qe0d.fn) (Q4gm Qe0d.fn [.agg [.sl .kind ks,.sl .point ps],.sl .str w] []) =
 ifb (!inR (↑w.length:Int) (2:Int) (8:Int)) (some (.ret (.tup [.sl .point [],.bool false]) [])) (some (.go (Qu6t Qe0d.fn 5) [.sl .str w,.ptr 0 0,.own 1 [] 0,.sl .str w,.int .i64 (↑w.length:Int),.int .i64 0] [.box [.sl .kind ks,.sl .point ps],.row .point [] 0 0 0 .no])):=by kernel_rfl
theorem Qpoy(x0:List (El .str))(x1:List (El .str))(x2:Int)(x3:Int)(x4:List (El .kind))(x5:List (El .point))(x6:List (El .point)):aRun Qe0d 600 true (Qu6t Qe0d.fn 5) (cutSt Qe0d.fn (Q1m4 Qe0d (Qu6t Qe0d.fn 5)) [.sl .str x0,.ptr 0 0,.own 1 [] 0,.sl .str x1,.int .i64 x2,.int .i64 x3] [.box [.sl .kind x4,.sl .point x5],.row .point x6 0 0 0 .no]) =
 let z0:=(Qe0d.C.dflt Ty.str);let z1:=(Qe0d.C.dflt Ty.point);let z2:OL:=(some (.ret (.tup [.sl .point [],.bool false]) []));let z3:=(Qu6t Qe0d.fn 5);ifb (decide (x3<x2)) (ifb (inb x3 x1.length) (ifb (decide (x5.length<(1000000000:Nat))) (ifb (decide (idxF (fun p=>p.name==x1.getD x3.toNat z0) x5<0)) z2 (ifb (decide (x3>0)) (ifb (inb (IntKind.i64.wrap (x3-1)) x0.length) (ifb (x1.getD x3.toNat z0==x0.getD (IntKind.i64.wrap (x3-1)).toNat z0) z2 (ifb (inb (idxF (fun p=>p.name==x1.getD x3.toNat z0) x5) x5.length) (ifb (decide ((x6.length+[x5.getD (idxF (fun p=>p.name==x1.getD x3.toNat z0) x5).toNat z1].length)*Qbhn Qe0d.P (160:Nat)≤(140737488355328:Nat))) (some (.go z3 [.sl .str x0,.ptr 0 0,.own 1 [] 0,.sl .str x1,.int .i64 x2,.int .i64 (IntKind.i64.wrap (x3+1))] [.box [.sl .kind x4,.sl .point x5],.row .point (x6++[x5.getD (idxF (fun p=>p.name==x1.getD x3.toNat z0) x5).toNat z1]) 0 0 0 .no])) none) none)) none) (ifb (inb (idxF (fun p=>p.name==x1.getD x3.toNat z0) x5) x5.length) (ifb (decide ((x6.length+[x5.getD (idxF (fun p=>p.name==x1.getD x3.toNat z0) x5).toNat z1].length)*Qbhn Qe0d.P (160:Nat)≤(140737488355328:Nat))) (some (.go z3 [.sl .str x0,.ptr 0 0,.own 1 [] 0,.sl .str x1,.int .i64 x2,.int .i64 (IntKind.i64.wrap (x3+1))] [.box [.sl .kind x4,.sl .point x5],.row .point (x6++[x5.getD (idxF (fun p=>p.name==x1.getD x3.toNat z0) x5).toNat z1]) 0 0 0 .no])) none) none))) none) none) (some (.ret (.tup [.sl .point x6,.bool true]) [])):=by kernel_rfl
theorem Qf4k(ks:List Kind)(ps:List Point)(w:List Str)(hps:ps.length<1000000000)(hw8:inR w.length 2 8=true):∀(d i:Nat),i+d=w.length→Qyhl ps w=Qyf3 ps (w.take i).getLast? (w.drop i) →
  Cut Qe0d Qwtz 5 [.sl .str w,.ptr 0 0,.own 1 [] 0,.sl .str w,.int .i64 (w.length:Int),.int .i64 (i:Int)] [.box [.sl .kind ks,.sl .point ps],.row .point ((w.take i).map (ptOf ps)) 0 0 0 .no] (.tup [.sl .point (Q51t ps w),.bool (Qyhl ps w)]) []:=by
 intro d
 have hb:Qbhn Qe0d.P 160=32:=by kernel_rfl
 have hw9:w.length≤8:=by simp only[inR,qaT,qdT]at hw8;omega
 induction d with
 | zero =>
  intro i hi hr
  refine Cut.of Qtsk rfl (Qpoy w w w.length i ks ps _) ?_
  conv=>zeta
  rw[decide_eq_false (by omega)]
  have e:w.take i=w:=List.take_of_length_le (by omega)
  rw[List.drop_of_length_le (by omega)]at hr
  have hr':Qyhl ps w=true:=hr
  refine Sat.ret ?_ rfl
  rw[e,Q51t,if_pos hr',hr']
 | succ d ih =>
  intro i hi hr
  refine Cut.of Qtsk rfl (Qpoy w w w.length i ks ps _) ?_
  conv=>zeta
  have hlt:i<w.length:=by omega
  have hw:IntKind.wrap .i64 ((i:Int)+1)=((i+1:Nat):Int):=by rw[Qbrg]<;>omega
  have hw1:IntKind.wrap .i64 ((i:Int)-1)=(i:Int)-1:=by rw[Qbrg]<;>omega
  have hd:w.drop i=w[i]::w.drop (i+1):=qdC hlt
  have hx:w.getD (i:Int).toNat (Qe0d.C.dflt .str)=w[i]:=by simp[hlt]
  have hin:inb (i:Int) w.length=true:=by simp only[inb,qaT,qdT];omega
  have hlo:decide ((i:Int)<(w.length:Int))=true:=decide_eq_true (by omega)
  have htk:=qtS hlt
  have hl:(w.take (i+1)).getLast? = some w[i]:=by rw[qtS hlt,qlC]
  have no:Qyhl ps w=false→Sat Qe0d Qwtz (.tup [.sl .point (Q51t ps w),.bool (Qyhl ps w)]) [] (some (.ret (.tup [.sl .point [],.bool false]) [])):=fun h=>by
   refine Sat.ret ?_ rfl
   rw[Q51t,h];rfl
  have hroom:decide ((((w.take i).map (ptOf ps)).length+[ps.getD (idxF (fun p=>p.name==w[i]) ps).toNat (Qe0d.C.dflt .point)].length)*32≤140737488355328)=true:=decide_eq_true (by simp;omega)
  rw[hlo,hin,hx,hw,hw1,hb,hroom,decide_eq_true hps]
  simp only[Qd8q]
  rw[hd,Qyf3]at hr
  have hpi:idxF (fun p=>p.name==w[i]) ps=Qigq ps w[i]:=rfl
  rw[hpi]
  by_cases hp0:Qigq ps w[i]<0
  ·rw[decide_eq_true hp0]
   rw[decide_eq_true hp0]at hr
   exact no (by rw[hr];rfl)
  ·rw[decide_eq_false hp0]
   rw[decide_eq_false hp0]at hr
   have hlt2:=Q1mf (p:=fun q:Point=>q.name==w[i]) (l:=ps)
   have hinp:inb (Qigq ps w[i]) ps.length=true:=by
    simp only[inb,qaT,qdT]
    have:Qigq ps w[i]=idxF (fun q:Point=>q.name==w[i]) ps:=rfl
    omega
   rw[hinp]
   simp only[Qk7y,Qd8q]
   simp only[Bool.not_false,Bool.true_and]at hr
   have go:(w.take i).getLast?≠some w[i]→Sat Qe0d Qwtz (.tup [.sl .point (Q51t ps w),.bool (Qyhl ps w)]) [] (some (.go (Qu6t Qe0d.fn 5) [.sl .str w,.ptr 0 0,.own 1 [] 0,.sl .str w,.int .i64 (w.length:Int),.int .i64 ((i+1:Nat):Int)] [.box [.sl .kind ks,.sl .point ps],.row .point ((w.take i).map (ptOf ps)++[ps.getD (Qigq ps w[i]).toNat (Qe0d.C.dflt .point)]) 0 0 0 .no])):=fun h=>by
    have hne:((w.take i).getLast?==some w[i])=false:=beq_eq_false_iff_ne.2 h
    rw[hne]at hr
    have:=ih (i+1) (by omega) (by rw[hl];exact hr)
    rw[htk,List.map_append]at this
    exact Sat.cut this
   by_cases h0:(i:Int)>0
   ·rw[decide_eq_true h0]
    have hi1:i-1<w.length:=by omega
    have hx1:w.getD ((i:Int)-1).toNat (Qe0d.C.dflt .str)=w[i-1]:=by
     rw[show((i:Int)-1).toNat=i-1 by omega];simp[hi1]
    have hl1:(w.take i).getLast? = some w[i-1]:=by
     have:=qtS hi1
     rw[show i-1+1=i by omega]at this
     rw[this,qlC]
    have hin1:inb ((i:Int)-1) w.length=true:=by simp only[inb,qaT,qdT];omega
    rw[hin1,hx1]
    simp only[Qd8q]
    rw[hl1]at hr go
    by_cases he:w[i]=w[i-1]
    ·rw[beq_iff_eq.2 he]
     have:((some w[i-1]:Option Str)==some w[i])=true:=by rw[he];simp
     rw[this]at hr
     exact no (by rw[hr];rfl)
    ·rw[beq_eq_false_iff_ne.2 he]
     exact go (fun e=>he (Option.some.inj e).symm)
   ·rw[decide_eq_false h0]
    have:i=0:=by omega
    subst this
    exact go (by simp)
theorem Qpn1(ks:List Kind)(ps:List Point)(w:List Str)(hg:decide (ps.length<1000000000)=true):Qewq Tryz.prog CP Qwtz [.agg [.sl .kind ks,.sl .point ps],.sl .str w] [] (.tup [.sl .point (Q51t ps w),.bool (Qyhl ps w)]) []:=by
 refine Qewq.of Qtsk (by kernel_rfl) (Qwrn ks ps w) ?_
 cases h8:inR (w.length:Int) 2 8 with
 | false =>
  refine Sat.ret ?_ rfl
  rw[Q51t,Qyhl,h8];rfl
 | true =>
  have:=Qf4k ks ps w (of_decide_eq_true hg) h8 w.length 0 (by omega) (by rw[Qyhl,h8];rfl)
  exact Sat.cut this
theorem Q09u:EntOK Tryz.prog CP Qwtz Qbsc:=by
 refine⟨eob (by kernel_rfl),fun _ _ _ _ h=>?_⟩
 simp only[Qbsc]at h
 split at h
 ·obtain⟨hg,rfl,rfl⟩:=eoh h
  exact Qpn1 _ _ _ hg
 ·cases h

noncomputable def Qdvz:RE Ty El:=⟨Tryz.prog,CP,[(Qryc,Q123),(Q5ff,Qo07),(Q0gt,Qroy),(Q8l1,Q18u),(Qn2h,Q0vx),(Qwtz,Qbsc)],Tryz.f172,0,[],[]⟩
theorem Qpl8:REOK Qdvz Qvlr:=⟨CP_ok,(TabOK.cons Qne7 (TabOK.cons Q8iz (TabOK.cons Q6fz (TabOK.cons Qbi7 (TabOK.cons Qfgu (TabOK.cons Q09u Qye1)))))),by kernel_rfl,by kernel_rfl⟩
theorem Ql56(ks:List Kind)(ps:List Point)(what:Int)(v:Str):aRun Qdvz 600 false (body0 Qdvz.fn) (Q4gm Qdvz.fn [.agg [.sl .kind ks,.sl .point ps],.int .i64 what,.str v] []) =
 let z0:=(cutS (↑(UInt8.toNat (32:UInt8)):Int) v);let z1:OL:=(some (.ret (.bool false) []));let z2:=(Qdvz.C.dflt Ty.int);let z3:=(decsV z0);ifb (szS v) (ifb (what==1) (ifb (decide (ks.length<(1000000000:Nat))) (some (.ret (.bool (decide (idxF (fun p=>p.name==v) ks≥0))) [])) none) (ifb (what==2) (ifb (decide ((7:Int)=(7:Int))&&decide (z0.length≤(2000000000:Nat))) (ifb (z0.all decB) (ifb ((↑z3.length:Int)==(2:Int)) (ifb (inb (0:Int) z3.length) (ifb (inb (1:Int) z3.length) (ifb (decide (z3.getD (Int.toNat (0:Int)) z2≤z3.getD (Int.toNat (1:Int)) z2)) (ifb (inb (1:Int) z3.length) (some (.ret (.bool (decide (z3.getD (Int.toNat (1:Int)) z2≤(10000:Int)))) [])) none) z1) none) none) z1) z1) none) (ifb (what==3) (ifb (decB v) (some (.ret (.bool (inR (decV v) (1:Int) (6:Int))) [])) z1) (ifb (what==4) (ifb (decide (ps.length<(1000000000:Nat))) (some (.ret (.bool (Qyhl ps z0)) [])) none) (ifb (what==5) (ifb (v==#[(111:UInt8),112,101,110].toList) (some (.ret (.bool true) [])) (some (.ret (.bool (v==#[(99:UInt8),108,111,115,101,100].toList)) []))) z1))))) none:=by kernel_rfl
theorem Qi63{R:RE Ty El}{f:FuncId}(w:List Str):Sat R f (.bool (Q2es w)) [] (ifb ((decide ((7:Int)=(7:Int))&&true)) (ifb (w.all decB) (ifb ((↑(decsV w).length:Int)==(2:Int)) (ifb (inb (0:Int) (decsV w).length) (ifb (inb (1:Int) (decsV w).length) (ifb (decide ((decsV w).getD (Int.toNat (0:Int)) (CP.dflt Ty.int)≤(decsV w).getD (Int.toNat (1:Int)) (CP.dflt Ty.int))) (ifb (inb (1:Int) (decsV w).length) (some (.ret (.bool (decide ((decsV w).getD (Int.toNat (1:Int)) (CP.dflt Ty.int)≤(10000:Int)))) [])) (none)) (some (.ret (.bool false) []))) (none)) (none)) (some (.ret (.bool false) []))) (some (.ret (.bool false) []))) (none)):=by
 rw[show decide ((7:Int)=7)=true from rfl]
 simp only[Bool.and_self,Qd8q]
 cases ha:w.all decB with
 | false =>
  refine Sat.retB ?_ rfl
  match w with
  | []=>rfl
  | [a]=>rfl
  | [a,b] =>
   simp only[Q2es]
   simp only[List.all_cons,List.all_nil,Bool.and_true,decB]at ha
   by_cases h1:0≤numF a
   ·rw[decide_eq_true h1]at ha ⊢
    have h2:¬0≤numF b:=of_decide_eq_false (by simpa using ha)
    have:inR (numF b) (numF a) 10000=false:=by unfold inR;rw[decide_eq_false (by omega)];rfl
    rw[this];rfl
   ·rw[decide_eq_false h1];rfl
  | a::b::c::t=>rfl
 | true =>
  have hd:decsV w=w.map decV:=by unfold decsV;rw[if_pos ha]
  rw[hd]
  match w with
  | []=>exact Sat.retB rfl rfl
  | [a]=>exact Sat.retB rfl rfl
  | [a,b] =>
   simp only[List.all_cons,List.all_nil,Bool.and_true,qaT,decB,qdT]at ha
   have e1:decV a=numF a:=by unfold decV;omega
   have e2:decV b=numF b:=by unfold decV;omega
   show Sat R f _ _ (ifb (decide (decV a≤decV b)) (some (.ret (.bool (decide (decV b≤10000))) [])) (some (.ret (.bool false) [])))
   rw[e1,e2]
   simp only[Q2es,inR]
   rw[decide_eq_true ha.1]
   by_cases h:numF a≤numF b
   ·rw[decide_eq_true h]
    exact Sat.retB rfl rfl
   ·rw[decide_eq_false h]
    exact Sat.retB rfl rfl
  | a::b::c::t =>
   have:(((List.map decV (a::b::c::t)).length:Int)==2)=false:=by
    apply beq_eq_false_iff_ne.2
    simp;omega
   rw[this]
   exact Sat.retB rfl rfl
theorem Q602(ks:List Kind)(ps:List Point)(what:Int)(v:Str)(hg:(szV v&&(decide (ks.length<1000000000)&&decide (ps.length<1000000000)))=true):Qewq Tryz.prog CP Qvlr [.agg [.sl .kind ks,.sl .point ps],.int .i64 what,.str v] [] (.bool (fitsV ks ps what v)) []:=by
 refine Qewq.of Qpl8 (by kernel_rfl) (Ql56 ks ps what v) ?_
 conv=>zeta
 simp only[qaT,qdT]at hg
 obtain⟨hv,hks,hps⟩:=hg
 have hs:szS v=true:=hv
 have hcl:(cutS ((UInt8.toNat 32:Nat):Int) v).length≤2000000000:=by
  have:=Qtox ((UInt8.toNat 32:Nat):Int) v
  have hv':v.length≤1000000000:=of_decide_eq_true hv
  omega
 rw[hs,decide_eq_true hks,decide_eq_true hps,Qd8q]
 unfold fitsV
 by_cases h1:what=1
 ·subst h1;exact Sat.retB rfl rfl
 rw[beq_eq_false_iff_ne.2 h1,if_neg h1,Qk7y]
 by_cases h2:what=2
 ·subst h2
  rw[if_pos rfl,decide_eq_true hcl,show((2:Int)==2)=true from rfl,Qd8q]
  exact Qi63 (cutS 32 v)
 rw[beq_eq_false_iff_ne.2 h2,if_neg h2,Qk7y]
 by_cases h3:what=3
 ·subst h3
  rw[if_pos rfl,show((3:Int)==3)=true from rfl,Qd8q]
  by_cases hn:0≤numF v
  ·have e1:decB v=true:=decide_eq_true hn
   have e2:decV v=numF v:=by unfold decV;omega
   rw[e1,e2];exact Sat.retB rfl rfl
  ·have e1:decB v=false:=decide_eq_false hn
   rw[e1]
   refine Sat.retB ?_ rfl
   have:inR (numF v) 1 6=false:=by unfold inR;rw[decide_eq_false (by omega)];rfl
   rw[this]
 rw[beq_eq_false_iff_ne.2 h3,if_neg h3,Qk7y]
 by_cases h4:what=4
 ·subst h4;exact Sat.retB rfl rfl
 rw[beq_eq_false_iff_ne.2 h4,if_neg h4,Qk7y]
 by_cases h5:what=5
 ·subst h5
  rw[if_pos rfl,show((5:Int)==5)=true from rfl,Qd8q]
  have eo:(#[(111:UInt8),112,101,110].toList)=wOpen:=rfl
  have ec:(#[(99:UInt8),108,111,115,101,100].toList)=Qupw:=rfl
  rw[eo,ec]
  cases ho:(v==wOpen) with
  | true=>exact Sat.retB rfl rfl
  | false=>exact Sat.retB rfl rfl
 rw[beq_eq_false_iff_ne.2 h5,if_neg h5]
 exact Sat.retB rfl rfl
theorem Qp1l:EntOK Tryz.prog CP Qvlr Qmiz:=by
 refine⟨eob (by kernel_rfl),fun _ _ _ _ h=>?_⟩
 simp only[Qmiz]at h
 split at h
 ·obtain⟨hg,rfl,rfl⟩:=eoh h
  exact Q602 _ _ _ _ hg
 ·cases h

noncomputable def Qvjx:RE Ty El:=⟨Tryz.prog,CP,[(Q9ho,Qcc2),(Qn2h,Q0vx),(Qvlr,Qmiz)],Tryz.f93,0,[],[]⟩
theorem Qh4n:REOK Qvjx Q4bs:=⟨CP_ok,(TabOK.cons Q8k7 (TabOK.cons Qfgu (TabOK.cons Qp1l Qye1))),by kernel_rfl,by kernel_rfl⟩
theorem Q0zs(ks:List Kind)(ps:List Point)(fl:Str)(what num:Int)(v:Str):aRun Qvjx 600 false (body0 Qvjx.fn) (Q4gm Qvjx.fn [.agg [.sl .kind ks,.sl .point ps],.agg [.str fl,.int .i64 what,.int .i64 num,.str v]] []) =
 ifb (Q2rq fl) (ifb (inR num (1:Int) (1000000:Int)) (ifb (szV v&&(decide (ks.length<(1000000000:Nat))&&decide (ps.length<(1000000000:Nat)))) (some (.ret (.bool (fitsV ks ps what v)) [])) none) (some (.ret (.bool false) []))) (some (.ret (.bool false) [])):=by kernel_rfl
theorem Q381(ks:List Kind)(ps:List Point)(fl:Str)(what num:Int)(v:Str)(hg:(szV v&&(decide (ks.length<1000000000)&&decide (ps.length<1000000000)))=true):Qewq Tryz.prog CP Q4bs [.agg [.sl .kind ks,.sl .point ps],.agg [.str fl,.int .i64 what,.int .i64 num,.str v]] [] (.bool (Qh2h ks ps fl what num v)) []:=by
 refine Qewq.of Qh4n (by kernel_rfl) (Q0zs ks ps fl what num v) ?_
 rw[hg]
 unfold Qh2h
 cases Q2rq fl with
 | false=>exact Sat.retB rfl rfl
 | true =>
  cases inR num 1 1000000 with
  | false=>exact Sat.retB rfl rfl
  | true=>exact Sat.retB rfl rfl
theorem Q0ms:EntOK Tryz.prog CP Q4bs Qna9:=by
 refine⟨eob (by kernel_rfl),fun _ _ _ _ h=>?_⟩
 simp only[Qna9]at h
 split at h
 ·obtain⟨hg,rfl,rfl⟩:=eoh h
  exact Q381 _ _ _ _ _ _ hg
 ·cases h

noncomputable def Qeph:RE Ty El:=⟨Tryz.prog,CP,[(Qdaf,Qzuu),(Q4bs,Qna9)],Tryz.f48,0,[],[(4,[(1,.any),(18,.any),(19,.any),(20,.any)]),(9,[(1,.any),(4,.any),(18,.any),(19,.any),(20,.any),(46,.any),(47,.any),(48,.any)])]⟩
theorem Qfut:REOK Qeph Qaev:=⟨CP_ok,(TabOK.cons Qkfq (TabOK.cons Q0ms Qye1)),by kernel_rfl,by kernel_rfl⟩
theorem Q066(ks:List Kind)(ps:List Point)(es:List Entry):aRun Qeph 600 false (body0 Qeph.fn) (Q4gm Qeph.fn [.agg [.sl .kind ks,.sl .point ps,.sl .entry es]] []) =
 ifb (!Qib4 ks ps) (some (.ret (.bool false) [])) (ifb (decide ((↑es.length:Int)>(12:Int))) (some (.ret (.bool false) [])) (some (.go (Qu6t Qeph.fn 4) [.ptr 0 0,.sl .entry es,.int .i64 (↑es.length:Int),.int .i64 0] [.box [.sl .kind ks,.sl .point ps,.sl .entry es]]))):=by kernel_rfl
theorem Q8mz(x0:List (El .entry))(x1:Int)(x2:Int)(x3:List (El .kind))(x4:List (El .point))(x5:List (El .entry)):aRun Qeph 600 true (Qu6t Qeph.fn 4) (cutSt Qeph.fn (Q1m4 Qeph (Qu6t Qeph.fn 4)) [.ptr 0 0,.sl .entry x0,.int .i64 x1,.int .i64 x2] [.box [.sl .kind x3,.sl .point x4,.sl .entry x5]]) =
 let z3:=(Qeph.C.dflt Ty.entry);let z0:=(x0.getD x2.toNat z3);let z1:OL:=(some (.go (Qu6t Qeph.fn 9) [.ptr 0 0,.ptr 1 0,.sl .entry x0,.int .i64 x1,.int .i64 x2,.sl .fld (z0.fields),.int .i64 ((↑z0.fields.length:Int)),.int .i64 0] [.box [.sl .kind x3,.sl .point x4,.sl .entry x5],.box [.str (z0.name),.sl .fld (z0.fields)]]));let z2:=(x5.getD (IntKind.i64.wrap (x2-1)).toNat z3);ifb (decide (x2<x1)) (ifb (inb x2 x0.length) (ifb ((↑z0.fields.length:Int)==(0:Int)) (some (.ret (.bool false) [])) (ifb (decide (x2>0)) (ifb (inb (IntKind.i64.wrap (x2-1)) x5.length) (ifb (Q7zj z0.name z2.name||z0.name==z2.name) (some (.ret (.bool false) [])) z1) none) z1)) none) (some (.ret (.bool true) [])):=by kernel_rfl
theorem Qev7(x0:List (El .entry))(x1:Int)(x2:Int)(x3:List (El .fld))(x4:Int)(x5:Int)(x6:List (El .kind))(x7:List (El .point))(x8:List (El .entry))(x9:Str)(x10:List (El .fld)):aRun Qeph 600 true (Qu6t Qeph.fn 9) (cutSt Qeph.fn (Q1m4 Qeph (Qu6t Qeph.fn 9)) [.ptr 0 0,.ptr 1 0,.sl .entry x0,.int .i64 x1,.int .i64 x2,.sl .fld x3,.int .i64 x4,.int .i64 x5] [.box [.sl .kind x6,.sl .point x7,.sl .entry x8],.box [.str x9,.sl .fld x10]]) =
 let z0:OL:=(some (.go (Qu6t Qeph.fn 9) [.ptr 0 0,.ptr 1 0,.sl .entry x0,.int .i64 x1,.int .i64 x2,.sl .fld x3,.int .i64 x4,.int .i64 (IntKind.i64.wrap (x5+1))] [.box [.sl .kind x6,.sl .point x7,.sl .entry x8],.box [.str x9,.sl .fld x10]]));let z2:=(Qeph.C.dflt Ty.fld);let z1:=(x3.getD x5.toNat z2);ifb (decide (x5<x4)) (ifb (inb x5 x3.length) (ifb (szV z1.value&&(decide (x6.length<(1000000000:Nat))&&decide (x7.length<(1000000000:Nat)))) (ifb (!Qh2h x6 x7 x9 z1.what z1.number z1.value) (some (.ret (.bool false) [])) (ifb (decide (x5>0)) (ifb (inb (IntKind.i64.wrap (x5-1)) x10.length) (ifb (decide (z1.what≤(x10.getD (IntKind.i64.wrap (x5-1)).toNat z2).what)) (some (.ret (.bool false) [])) z0) none) z0)) none) none) (some (.go (Qu6t Qeph.fn 4) [.ptr 0 0,.sl .entry x0,.int .i64 x1,.int .i64 (IntKind.i64.wrap (x2+1))] [.box [.sl .kind x6,.sl .point x7,.sl .entry x8]])):=by kernel_rfl
theorem Q5ka(ks:List Kind)(ps:List Point)(es:List Entry)(hb:Qib4 ks ps=true)(n:Str)(fs:List Fld)(hfs:fs.length≤1000000000)(hsz:fs.all (fun f=>szV f.value)=true)(i:Nat)(hi:i<1000)(nx:Bool)(h4:Cut Qeph Qaev 4 [.ptr 0 0,.sl .entry es,.int .i64 (es.length:Int),.int .i64 ((i+1:Nat):Int)] [.box [.sl .kind ks,.sl .point ps,.sl .entry es]] (.bool nx) []):∀(d k:Nat),k+d=fs.length →
  Cut Qeph Qaev 9 [.ptr 0 0,.ptr 1 0,.sl .entry es,.int .i64 (es.length:Int),.int .i64 (i:Int),.sl .fld fs,.int .i64 (fs.length:Int),.int .i64 (k:Int)] [.box [.sl .kind ks,.sl .point ps,.sl .entry es],.box [.str n,.sl .fld fs]] (.bool (Qt03 ks ps n ((fs.take k).getLast?.map (·.what)) (fs.drop k)&&nx)) []:=by
 have hwi:IntKind.wrap .i64 ((i:Int)+1)=((i+1:Nat):Int):=by rw[Qbrg]<;>omega
 obtain⟨hkl,hpl⟩:=Qrzz hb
 intro d
 induction d with
 | zero =>
  intro k hk
  refine Cut.of Qfut rfl (Qev7 es es.length i fs fs.length k ks ps es n fs) ?_
  conv=>zeta
  rw[decide_eq_false (by omega),List.drop_of_length_le (by omega),hwi]
  exact Sat.cut h4
 | succ d ih =>
  intro k hk
  refine Cut.of Qfut rfl (Qev7 es es.length i fs fs.length k ks ps es n fs) ?_
  conv=>zeta
  have hlt:k<fs.length:=by omega
  have hw:IntKind.wrap .i64 ((k:Int)+1)=((k+1:Nat):Int):=by rw[Qbrg]<;>omega
  have hw1:IntKind.wrap .i64 ((k:Int)-1)=(k:Int)-1:=by rw[Qbrg]<;>omega
  have hd:fs.drop k=fs[k]::fs.drop (k+1):=qdC hlt
  have hx:fs.getD (k:Int).toNat (Qeph.C.dflt .fld)=fs[k]:=by simp[hlt]
  have hin:inb (k:Int) fs.length=true:=by simp only[inb,qaT,qdT];omega
  have hlo:decide ((k:Int)<(fs.length:Int))=true:=decide_eq_true (by omega)
  have hl:(fs.take (k+1)).getLast? = some fs[k]:=by rw[qtS hlt,qlC]
  have hv:szV fs[k].value=true:=qlA.1 hsz _ (List.getElem_mem hlt)
  have ih':=ih (k+1) (by omega)
  rw[hl,Option.map_some]at ih'
  rw[hlo,hin,hx,hv,hw,hw1,hd,Qxkm,decide_eq_true (by omega:ks.length<1000000000),decide_eq_true (by omega:ps.length<1000000000)]
  simp only[Qd8q,Bool.and_self]
  cases hc:Qh2h ks ps n fs[k].what fs[k].number fs[k].value with
  | false=>exact Sat.retB rfl rfl
  | true =>
   simp only[Bool.not_true,Qk7y,Bool.true_and]
   by_cases h0:(k:Int)>0
   ·rw[decide_eq_true h0]
    have hi1:k-1<fs.length:=by omega
    have hx1:fs.getD ((k:Int)-1).toNat (Qeph.C.dflt .fld)=fs[k-1]:=by
     rw[show((k:Int)-1).toNat=k-1 by omega];simp[hi1]
    have hl1:(fs.take k).getLast? = some fs[k-1]:=by
     have:=qtS hi1
     rw[show k-1+1=k by omega]at this
     rw[this,qlC]
    have hin1:inb ((k:Int)-1) fs.length=true:=by simp only[inb,qaT,qdT];omega
    rw[hin1,hx1,hl1]
    simp only[Qd8q,Option.map_some]
    by_cases hq:fs[k-1].what<fs[k].what
    ·rw[decide_eq_true hq,decide_eq_false (by omega)]
     exact Sat.cut ih'
    ·rw[decide_eq_false hq,decide_eq_true (by omega)]
     exact Sat.retB rfl rfl
   ·rw[decide_eq_false h0]
    have:k=0:=by omega
    subst this
    exact Sat.cut ih'
theorem Qrwz(ks:List Kind)(ps:List Point)(es:List Entry)(hb:Qib4 ks ps=true)(h12:es.length≤12)(hsz:es.all szE=true):∀(d i:Nat),i+d=es.length →
  Cut Qeph Qaev 4 [.ptr 0 0,.sl .entry es,.int .i64 (es.length:Int),.int .i64 (i:Int)] [.box [.sl .kind ks,.sl .point ps,.sl .entry es]] (.bool (Qgea ks ps ((es.take i).getLast?.map (·.name)) (es.drop i))) []:=by
 intro d
 induction d with
 | zero =>
  intro i hi
  refine Cut.of Qfut rfl (Q8mz es es.length i ks ps es) ?_
  conv=>zeta
  rw[decide_eq_false (by omega),List.drop_of_length_le (by omega)]
  exact Sat.retB rfl rfl
 | succ d ih =>
  intro i hi
  refine Cut.of Qfut rfl (Q8mz es es.length i ks ps es) ?_
  conv=>zeta
  have hlt:i<es.length:=by omega
  have hw1:IntKind.wrap .i64 ((i:Int)-1)=(i:Int)-1:=by rw[Qbrg]<;>omega
  have hd:es.drop i=es[i]::es.drop (i+1):=qdC hlt
  have hx:es.getD (i:Int).toNat (Qeph.C.dflt .entry)=es[i]:=by simp[hlt]
  have hin:inb (i:Int) es.length=true:=by simp only[inb,qaT,qdT];omega
  have hlo:decide ((i:Int)<(es.length:Int))=true:=decide_eq_true (by omega)
  have hl:(es.take (i+1)).getLast? = some es[i]:=by rw[qtS hlt,qlC]
  have hz:=qlA.1 hsz _ (List.getElem_mem hlt)
  simp only[szE,qaT,qdT]at hz
  have ih':=ih (i+1) (by omega)
  rw[hl,Option.map_some]at ih'
  have inner:=Q5ka ks ps es hb es[i].name es[i].fields hz.1 hz.2 i (by omega) _ ih' es[i].fields.length 0 (by omega)
  rw[List.drop_zero]at inner
  rw[hlo,hin,hx,hw1,hd,Qgea]
  simp only[Qd8q]
  by_cases hf0:es[i].fields.length=0
  ·have e1:((es[i].fields.length:Int)==0)=true:=by simp[hf0]
   rw[e1]
   refine Sat.retB ?_ rfl
   simp[Q7i7,hf0]
  ·have e1:((es[i].fields.length:Int)==0)=false:=by simp;intro e;exact hf0 (by rw[e];rfl)
   rw[e1,Qvuh hf0]
   simp only[Qk7y]
   by_cases h0:(i:Int)>0
   ·rw[decide_eq_true h0]
    have hi1:i-1<es.length:=by omega
    have hx1:es.getD ((i:Int)-1).toNat (Qeph.C.dflt .entry)=es[i-1]:=by
     rw[show((i:Int)-1).toNat=i-1 by omega];simp[hi1]
    have hl1:(es.take i).getLast? = some es[i-1]:=by
     have:=qtS hi1
     rw[show i-1+1=i by omega]at this
     rw[this,qlC]
    have hin1:inb ((i:Int)-1) es.length=true:=by simp only[inb,qaT,qdT];omega
    rw[hin1,hx1,hl1,le_lt]
    simp only[Qd8q,Option.map_some,Qe7t]
    cases hq:Q7zj es[i-1].name es[i].name with
    | false =>
     refine Sat.retB ?_ rfl
     simp
    | true =>
     simp only[Bool.not_true,Qk7y,Bool.true_and]
     exact Sat.cut inner
   ·rw[decide_eq_false h0]
    have:i=0:=by omega
    subst this
    exact Sat.cut inner
theorem Qgs9(ks:List Kind)(ps:List Point)(es:List Entry)(hg:szB es=true):Qewq Tryz.prog CP Qaev [.agg [.sl .kind ks,.sl .point ps,.sl .entry es]] [] (.bool (Qn0o ks ps es)) []:=by
 refine Qewq.of Qfut (by kernel_rfl) (Q066 ks ps es) ?_
 simp only[szB,qaT,qdT]at hg
 cases hb:Qib4 ks ps with
 | false =>
  refine Sat.retB ?_ rfl
  simp[Qn0o,hb]
 | true =>
  simp only[Bool.not_true,Qk7y]
  by_cases h12:es.length≤12
  ·rw[decide_eq_false (by omega)]
   have:=Qrwz ks ps es hb h12 hg.2 es.length 0 (by omega)
   rw[show Qn0o ks ps es=Qgea ks ps ((es.take 0).getLast?.map (·.name)) (es.drop 0) by simp[Qn0o,hb,h12]]
   exact Sat.cut this
  ·rw[decide_eq_true (by omega)]
   refine Sat.retB ?_ rfl
   simp[Qn0o,h12]
theorem Qwza:EntOK Tryz.prog CP Qaev Qjv4:=by
 refine⟨eob (by kernel_rfl),fun _ _ _ _ h=>?_⟩
 simp only[Qjv4,Q124]at h
 split at h
 ·obtain⟨hg,rfl,rfl⟩:=eoh h
  exact Qgs9 _ _ _ hg
 ·cases h
end Lx
namespace Lx
open Go Go.Proofs
def entIx(es:List Entry)(n:Str):Int:=idxF (fun e=>e.name==n) es
theorem Qx66{ks:List Kind}{ps:List Point}{n:Str}:∀{fs:List Fld} {prev:Option Int},Qt03 ks ps n prev fs=true→∀f∈fs,fitsV ks ps f.what f.value=true
 | [],_,_,f,hf=>by simp at hf
 | g::fs,prev,h,f,hf=>by
  rw[Qxkm]at h
  simp only[qaT,Qh2h]at h
  simp only[List.mem_cons]at hf
  rcases hf with rfl|hf
  ·exact h.1.2.2
  ·exact Qx66 h.2.2 f hf
theorem Qohw{es:List Entry}{n:Str}(h:0≤entIx es n):inb (entIx es n) es.length=true:=by
 have h2:=Q1mf (p:=fun k:Entry=>k.name==n) (l:=es)
 have h3:entIx es n=idxF (fun k:Entry=>k.name==n) es:=rfl
 simp only[inb,qaT,qdT];omega
theorem Q4rj{ks:List Kind}{ps:List Point}:∀{es:List Entry} {prev:Option Str},Qgea ks ps prev es=true→∀e∈es,Q7i7 ks ps e=true
 | [],_,_,e,he=>by simp at he
 | a::es,prev,h,e,he=>by
  rw[Qgea]at h
  simp only[qaT]at h
  simp only[List.mem_cons]at he
  rcases he with rfl|he
  ·exact h.1
  ·exact Q4rj h.2.2 e he
theorem Qg6k{ks:List Kind}{ps:List Point}{es:List Entry}(h:Qn0o ks ps es=true):Qib4 ks ps=true∧es.length≤12∧∀e∈es,Q7i7 ks ps e=true:=by
 simp only[Qn0o,qaT,qdT]at h
 exact⟨h.1,h.2.1,Q4rj h.2.2⟩
theorem Qhwx{es:List Entry}{n:Str}(h:0≤entIx es n):es.getD (entIx es n).toNat (dfltP .entry)∈es:=by
 have h2:=Q1mf (p:=fun k:Entry=>k.name==n) (l:=es)
 have h3:entIx es n=idxF (fun k:Entry=>k.name==n) es:=rfl
 have hlt:(entIx es n).toNat<es.length:=by omega
 rw[qgD,qeG hlt]
 exact List.getElem_mem hlt
theorem Qur7{α:Type}(p:α→Bool)(d:α):∀(l:List α),(idxF p l<0∧l.find? p=none)∨(0≤idxF p l∧l.find? p=some (l.getD (idxF p l).toNat d))
 | []=>.inl ⟨by show(-1:Int)<0;decide,rfl⟩
 | a::l=>by
  by_cases ha:p a=true
  ·have:idxF p (a::l)=0:=Qjgx (i:=0) rfl ha (fun k hk=>by omega)
   rw[this,List.find?_cons_of_pos ha]
   exact .inr ⟨by omega,rfl⟩
  ·rw[List.find?_cons_of_neg ha]
   have hs:idxF p (a::l)=if idxF p l<0 then -1 else idxF p l+1:=by
    have hf:p a=false:=by simpa using ha
    unfold idxF
    rw[List.findIdx?_cons,hf]
    cases l.findIdx? p with
    | none=>rfl
    | some i =>
     have:¬((i:Int)<0):=by omega
     simp[this]
   rcases Qur7 p d l with ⟨h1,h2⟩|⟨h1,h2⟩
   ·rw[hs,if_pos h1];exact .inl ⟨by decide,h2⟩
   ·rw[hs,if_neg (by omega)]
    refine .inr ⟨by omega, ?_⟩
    rw[h2]
    have:(idxF p l+1).toNat=(idxF p l).toNat+1:=by omega
    rw[this];rfl

end Lx
namespace Lx
open Go Go.Proofs
end Lx
namespace Lx
open Go
section
variable {Ty:Type} {El:Ty→Type}
def SatE(R:RE Ty El)(f:FuncId)(Q:AV Ty El→List (AObj Ty El)→Prop)(T:Option (Leaf Ty El)):Prop:=∃res H',Sat R f res H' T∧Q res H'
variable {R:RE Ty El} {f:FuncId} {Q:AV Ty El→List (AObj Ty El)→Prop}
theorem SatE.ifb{c:Bool}{A B:Option (Leaf Ty El)}(h1:c=true→SatE R f Q A)(h2:c=false→SatE R f Q B):SatE R f Q (Lx.ifb c A B):=by
 cases c with
 | true=>exact h1 rfl
 | false=>exact h2 rfl
theorem SatE.need{c:Bool}{A:Option (Leaf Ty El)}(h:c=true)(h1:SatE R f Q A):SatE R f Q (Lx.ifb c A none):=by
 subst h;exact h1
theorem SatE.ret{v:AV Ty El}{h:List (AObj Ty El)}(hq:Q v h):SatE R f Q (some (.ret v h)):=⟨v,h,Sat.ret rfl rfl,hq⟩
def CutE(R:RE Ty El)(f:FuncId)(id:Nat)(vals:List (AV Ty El))(h:List (AObj Ty El))(Q:AV Ty El→List (AObj Ty El)→Prop):Prop:=∃res H',Cut R f id vals h res H'∧Q res H'
theorem SatE.cut{id:Nat}{vals:List (AV Ty El)}{h:List (AObj Ty El)}(hg:CutE R f id vals h Q):SatE R f Q (some (.go (Qu6t R.fn id) vals h)):=by
 obtain⟨res,H',h1,h2⟩:=hg
 exact⟨res,H',Sat.cut h1,h2⟩
theorem CutE.of(hR:REOK R f){id:Nat}{vals:List (AV Ty El)}{h:List (AObj Ty El)}{live:List (Nat×Sh Ty)}{fuel:Nat}{T:Option (Leaf Ty El)}(hl:Q1m4 R (Qu6t R.fn id)=live)(ht:aRun R fuel true (Qu6t R.fn id) (cutSt R.fn live vals h)=T)(hs:SatE R f Q T):CutE R f id vals h Q:=by
 obtain⟨res,H',h1,h2⟩:=hs
 exact⟨res,H',Cut.of hR hl ht h1,h2⟩
def CallE(P:Program)(C:Cod Ty El)(g:FuncId)(args:List (AV Ty El))(H:List (AObj Ty El))(Q:AV Ty El→List (AObj Ty El)→Prop):Prop:=∃res H',Qewq P C g args H res H'∧Q res H'
theorem CallE.of(hR:REOK R f){args:List (AV Ty El)}{H:List (AObj Ty El)}{fuel:Nat}{T:Option (Leaf Ty El)}(hfit:fitsB R args H=true)(ht:aRun R fuel false (body0 R.fn) (Q4gm R.fn args H)=T)(hs:SatE R f Q T):CallE R.P R.C f args H Q:=by
 obtain⟨res,H',h1,h2⟩:=hs
 exact⟨res,H',Qewq.of hR hfit ht h1,h2⟩
theorem SatE.mono{Q':AV Ty El→List (AObj Ty El)→Prop}{T:Option (Leaf Ty El)}(h:SatE R f Q T)(hq:∀v h,Q v h→Q' v h):SatE R f Q' T:=by
 obtain⟨v,H',h1,h2⟩:=h;exact⟨v,H',h1,hq _ _ h2⟩
noncomputable def drawn{α:Type}[Inhabited α](p:α→Prop):α:=Classical.epsilon p
theorem Qk78{α:Type}[Inhabited α]{p:α→Prop}(h:∃a,p a):p (drawn p):=Classical.epsilon_spec h
end
end Lx
namespace Lx
open Go
section
variable {Ty:Type} {El:Ty→Type} {C:Cod Ty El} {P:Program}
def noNm(k:Nat):Nat→AV Ty El→Bool
 | 0,_=>false
 | n+1,v=>match v with
  | .own r _ _=>r !=k
  | .view r _ _ _ _ _=>r !=k
  | .ptr r _=>r !=k
  | .eptr r _ _ _ _ _=>r !=k
  | .mapr r=>r !=k
  | .agg cs | .tup cs | .rop cs _ | .fn _ cs=>cs.all (noNm k n)
  | _=>true
def objNm(k:Nat):AObj Ty El→Bool
 | .box cs=>cs.all (noNm k 6)
 | .mp .. | .bld _=>false
 | _=>true
theorem Qn0f{k:Nat}{c:AV Ty El}(h:Qvgi c=true):noNm k 1 c=true:=by
 cases c<;>simp[Qvgi]at h<;>rfl
theorem RepA.noNm(hC:CodOK P C){N N':Nm}{w:World}{k:Nat}(hG:∀r p v u,r≠k→N.G r p v u→N'.G r p v u)(hro:∀b,N.ro b→N'.ro b){v:Value}{x:AV Ty El}(h:RepA C N w v x):∀n,Lx.noNm k n x=true→RepA C N' w v x:=by
 have kids:∀{n:Nat} {cs:List (AV Ty El)},cs.all (Lx.noNm k n)=true→∀(j:Nat) c,cs[j]? = some c→Lx.noNm k n c=true:=fun h j c hj=>qlA.1 h c (qmG hj)
 induction h with
 | int k n=>exact fun _ _=>.int k n
 | bool b=>exact fun _ _=>.bool b
 | str s l h=>exact fun _ _=>.str s l h
 | sl0 T a cap=>exact fun _ _=>.sl0 T a cap
 | sl T xs b o n cap f hn hc hr hcell _ ih =>
  exact fun _ _=>.sl T xs b o n cap f hn hc (hro b hr) hcell (fun i j c hi hj=>ih i j c hi hj 1 (Qn0f (hC.cell _ _ c (qmG hj))))
 | nils=>exact fun _ _=>.nils
 | own r p v u h =>
  intro n hn
  cases n with
  | zero=>simp[Lx.noNm]at hn
  | succ n=>exact .own r p v u (hG _ _ _ _ (by simpa[Lx.noNm]using hn) h)
 | view r p v wd lo m n cap a h hb =>
  intro n hn
  cases n with
  | zero=>simp[Lx.noNm]at hn
  | succ n=>exact .view r p v wd lo m _ cap a (hG _ _ _ _ (by simpa[Lx.noNm]using hn) h) hb
 | ptr r b off h =>
  intro n hn
  cases n with
  | zero=>simp[Lx.noNm]at hn
  | succ n=>exact .ptr r b off (hG _ _ _ _ (by simpa[Lx.noNm]using hn) h)
 | eptr r p v wd i j b n cap h hi =>
  intro n hn
  cases n with
  | zero=>simp[Lx.noNm]at hn
  | succ n=>exact .eptr r p v wd i j b _ cap (hG _ _ _ _ (by simpa[Lx.noNm]using hn) h) hi
 | rop cs b o off f hr hcell _ ih =>
  intro n hn
  cases n with
  | zero=>simp[Lx.noNm]at hn
  | succ n=>exact .rop cs b o off f (hro b hr) hcell (fun j c hj=>ih j c hj n (kids (by simpa[Lx.noNm]using hn) j c hj))
 | nilp=>exact fun _ _=>.nilp
 | mapr r b h =>
  intro n hn
  cases n with
  | zero=>simp[Lx.noNm]at hn
  | succ n=>exact .mapr r b (hG _ _ _ _ (by simpa[Lx.noNm]using hn) h)
 | agg vs cs hl _ ih =>
  intro n hn
  cases n with
  | zero=>simp[Lx.noNm]at hn
  | succ n=>exact .agg vs cs hl (fun j v c hv hc=>ih j v c hv hc n (kids (by simpa[Lx.noNm]using hn) j c hc))
 | tup vs cs hl _ ih =>
  intro n hn
  cases n with
  | zero=>simp[Lx.noNm]at hn
  | succ n=>exact .tup vs cs hl (fun j v c hv hc=>ih j v c hv hc n (kids (by simpa[Lx.noNm]using hn) j c hc))
 | fn f vs cs hl _ ih =>
  intro n hn
  cases n with
  | zero=>simp[Lx.noNm]at hn
  | succ n=>exact .fn f vs cs hl (fun j v c hv hc=>ih j v c hv hc n (kids (by simpa[Lx.noNm]using hn) j c hc))
 | raw u h=>exact fun _ _=>.raw u h
 | lt T xs u e cells f hty ho h1 hone hr hcell _ ih =>
  exact fun _ _=>.lt T xs u e cells f hty ho h1 hone (fun b hb=>hro b (hr b hb)) hcell (fun i j c hi hc=>ih i j c hi hc 1 (Qn0f (hC.cell _ _ c (qmG hc))))
 | glob g=>exact fun _ _=>.glob g
 | dead v=>exact fun _ _=>.dead v

theorem Qf9x{H:List (AObj Ty El)}{k r:Nat}{o:AObj Ty El}(hk:k<H.length):hpOf (H.set k o) r=if r=k then o else hpOf H r:=by
 unfold hpOf
 rw[qgD,qgD,List.getElem?_set]
 by_cases h:k=r
 ·subst h;simp[hk]
 ·rw[if_neg h,if_neg (fun e=>h e.symm)]
theorem Q13r{H:List (AObj Ty El)}{r:Nat}{o:AObj Ty El}(h:hpOf H r=o)(hg:o≠.gone):o∈H:=by
 unfold hpOf at h
 rw[qgD]at h
 cases e:H[r]? with
 | none=>rw[e]at h;exact absurd h.symm hg
 | some x=>rw[e]at h;simp at h;subst h;exact qmG e

theorem Qewq.drop(hC:CodOK P C){g:FuncId}{args:List (AV Ty El)}{H:List (AObj Ty El)}{res:AV Ty El}{H':List (AObj Ty El)}(h:Qewq P C g args H res H')(k:Nat)(hk:k<H'.length)(hres:noNm k 6 res=true)(hobj:H'.all (objNm k)=true) :
  Qewq P C g args H res (H'.set k .out):=by
 intro w N vs hN hsz hrep
 refine(h w N vs hN hsz hrep).mono ?_
 rintro en w' ⟨v,N',rfl,hH,hv,hio,hroI,hroO,hfr,hF⟩
 let N2:Nm:={ ν:=N'.ν,F:=fun r b=>r≠k∧N'.F r b,G:=fun r p v u=>r≠k∧N'.G r p v u,ro:=N'.ro }
 refine⟨v,N2,rfl, ?_,hv.noNm hC (N':=N2) (fun r p v u hr hg=>⟨hr,hg⟩) (fun _ h=>h) 6 hres,fun r hr hs=>?_,hroI,hroO,hfr,fun r b hb=>hF r b hb.2⟩
 ·refine⟨fun r=>?_,fun r p v u hg=>?_,fun r=>?_,fun r p v u hg=>hH.one r p v u hg.2,fun r r' b h1 h2=>hH.dist r r' b h1.2 h2.2,fun r b h1 h2=>hH.roNot r b h1.2 h2,hH.roLt,hH.glTo hC (fun _ h=>h) (fun _ _=>rfl)⟩
  ·rw[Qf9x hk]
   by_cases hr:r=k
   ·rw[if_pos hr];exact fun b hb=>hb.1 hr
   ·rw[if_neg hr]
    have ho:=hH.obj r
    cases e:hpOf H' r with
    | box cs =>
     rw[e]at ho
     have hm:=Q13r e (by simp)
     have hn:=qlA.1 hobj _ hm
     obtain⟨b,arr,t,h1,h2,h3,h4,h5,h6⟩:=ho
     exact⟨b,arr,t,h1,h2,h3,h4,fun j v c hj hc=>(h5 j v c hj hc).noNm hC (N':=N2) (fun r p v u hr hg=>⟨hr,hg⟩) (fun _ h=>h) 6 (qlA.1 hn c (qmG hc)),fun b'=>⟨fun hb=>(h6 b').1 hb.2,fun hb=>⟨hr,(h6 b').2 hb⟩⟩⟩
    | row T xs d vr vn m =>
     rw[e]at ho
     exact⟨ho.1,(Deep.cast (N:=N') (N':=N2) hC (fun _ h=>h) (fun _ _=>rfl) _ _ _ _ _ _ ho.2 (fun _ _=>rfl)).blkEq (fun b=>⟨fun hb=>hb.2,fun hb=>⟨hr,hb⟩⟩)⟩
    | mp K V es =>
     have hm:=Q13r e (by simp)
     have hn:=qlA.1 hobj _ hm
     simp[objNm]at hn
    | bld l =>
     have hm:=Q13r e (by simp)
     have hn:=qlA.1 hobj _ hm
     simp[objNm]at hn
    | gone=>rw[e]at ho;exact fun b hb=>ho b hb.2
    | out=>rw[e]at ho;exact fun b hb=>ho b hb.2
  ·rw[Qf9x hk,if_neg hg.1];exact hH.reg r p v u hg.2
  ·rw[Qf9x hk]
   by_cases hr:r=k
   ·rw[if_pos hr];trivial
   ·rw[if_neg hr]
    have hf:=hH.full r
    cases e:hpOf H' r with
    | box cs=>rw[e]at hf;exact⟨hr,hf⟩
    | mp K V es=>rw[e]at hf;exact⟨hr,hf⟩
    | bld l=>rw[e]at hf;exact⟨hr,hf⟩
    | row T xs d vr vn m=>rw[e]at hf;exact⟨⟨hr,hf.1⟩,fun p u h1 h2 h3 h4=>⟨hr,hf.2 p u h1 h2 h3 h4⟩⟩
    | gone=>trivial
    | out=>trivial
 ·refine hio r hr ?_
  by_cases e:r=k
  ·have:hpOf (H'.set k (.out:AObj Ty El)) r=.out:=by rw[Qf9x hk,if_pos e]
   simp[stays,this]at hs
  ·have:hpOf (H'.set k (.out:AObj Ty El)) r=hpOf H' r:=by rw[Qf9x hk,if_neg e]
   simpa only[stays,this]using hs

theorem Qewq.move(hC:CodOK P C){g:FuncId}{args:List (AV Ty El)}{o0:AObj Ty El}{T:Ty}{xs:List (El T)}{d:Nat}(h:Qewq P C g args [o0] (.own 0 [] 0) [.row T xs d 0 0 .no]) :
  Qewq P C g args [o0] (.own 1 [] 0) [.out,.row T xs d 0 0 .no]:=by
 intro w N vs hN hsz hrep
 refine(h w N vs hN hsz hrep).mono ?_
 rintro en w' ⟨v,N',rfl,hH,hv,hio,hroI,hroO,hfr,hF⟩
 let N2:Nm:={ ν:=fun _=>N'.ν 0,F:=fun r b=>r=1∧N'.F 0 b,G:=fun r p v u=>r=1∧N'.G 0 p v u,ro:=N'.ro }
 have e0:∀r,hpOf ([.out,.row T xs d 0 0 .no]:List (AObj Ty El)) (r+2)=.gone:=fun r=>by simp[hpOf]
 refine⟨v,N2,rfl,⟨fun r=>?_,fun r p v u hg=>?_,fun r=>?_,fun r p v u hg=>hH.one 0 p v u hg.2,fun r r' b h1 h2=>h1.1.trans h2.1.symm,fun r b h1 h2=>hH.roNot 0 b h1.2 h2,hH.roLt,hH.glTo hC (fun _ h=>h) (fun _ _=>rfl)⟩,.own 1 [] 0 v ⟨rfl,hv.inv_own⟩,fun r hr hs=>?_,hroI,hroO,hfr,fun r b hb=>hF 0 b hb.2⟩
 ·match r with
  | 0=>exact fun b hb=>by cases hb.1
  | 1 =>
   have ho:=hH.obj 0
   exact⟨ho.1,(Deep.cast (N:=N') (N':=N2) hC (fun _ h=>h) (fun _ _=>rfl) _ _ _ _ _ _ ho.2 (fun _ _=>rfl)).blkEq (fun b=>⟨fun hb=>hb.2,fun hb=>⟨rfl,hb⟩⟩)⟩
  | r+2=>rw[e0];exact fun b hb=>by have:=hb.1;omega
 ·obtain⟨rfl,hg⟩:=hg
  exact hH.reg 0 p v u hg
 ·match r with
  | 0=>trivial
  | 1 =>
   have hf:=hH.full 0
   exact⟨⟨rfl,hf.1⟩,fun p u h1 h2 h3 h4=>⟨rfl,hf.2 p u h1 h2 h3 h4⟩⟩
  | r+2=>rw[e0];trivial
 ·match r,hr with
  | 0,_=>simp[hpOf,stays]at hs
end
end Lx
namespace Lx
open Go Go.Proofs
def Qul0:List Fld→Fld→List Fld
 | [],f=>[f]
 | g::r,f=>if g.what<f.what then g::Qul0 r f else if g.what=f.what then (if Fld.later f g=true then f::r else g::r) else f::g::r
def insE:List Entry→Str→Fld→List Entry
 | [],n,f=>[⟨n,[f]⟩]
 | e::r,n,f=>if Q7zj e.name n=true then e::insE r n f else ⟨n,[f]⟩::e::r
def putF(es:List Entry)(n:Str)(f:Fld):List Entry :=
 if 0≤entIx es n then es.set (entIx es n).toNat ⟨(es.getD (entIx es n).toNat (dfltP .entry)).name,Qul0 (es.getD (entIx es n).toNat (dfltP .entry)).fields f⟩ else insE es n f
def Qs7k(ks:List Kind)(ps:List Point)(c:Chg):Bool:=Q2rq c.flight&&(inR c.number 1 1000000&&(Qib4 ks ps&&fitsV ks ps c.what c.value))
structure BookR where
 ks:List Kind
 ps:List Point
 es:List Entry
 code:Int
 deriving Inhabited
def takeF(ks:List Kind)(ps:List Point)(es:List Entry)(c:Chg):BookR :=
 if Qn0o ks ps es=true then
  if Qs7k ks ps c=true then (if entIx es c.flight<0∧12≤es.length then ⟨ks,ps,es,3⟩ else ⟨ks,ps,putF es c.flight ⟨c.what,c.number,c.value⟩,0⟩) else ⟨ks,ps,es,2⟩
 else ⟨[],[],[],1⟩
def Qf5p:Ent Ty El:=⟨[.ro],2,fun a h=>match a,h with
 | [.agg [.sl .kind ks,.sl .point ps]],[]=>some (Qzta ks ps,.agg [.own 0 [] 0,.own 1 [] 0],[.row .kind ks 0 0 0 .no,.row .point ps 0 0 0 .no])
 | _,_=>none⟩
def Qc1o:Ent Ty El:=⟨[.ro],3,fun a h=>match a,h with
 | [.agg [.sl .kind ks,.sl .point ps,.sl .entry es]],[]=>some (Q8cx ks ps es,.agg [.own 0 [] 0,.own 1 [] 0,.own 2 [] 0],[.row .kind ks 0 0 0 .no,.row .point ps 0 0 0 .no,.row .entry es 1 0 0 .no])
 | _,_=>none⟩
def Ql3g:Ent Ty El:=⟨[.io,.ro],1,fun a h=>match a,h with
 | [.own 0 [] 0,.agg [.int .i64 w,.int .i64 n,.str v]],[.row .fld l 0 0 0 .no]=>some (Qckx l,.own 1 [] 0,[.out,.row .fld (Qul0 l ⟨w,n,v⟩) 0 0 0 .no])
 | _,_=>none⟩
theorem Q1mk{b n:Nat}(hb:b≤256)(hn:n≤500000000000):decide (n*b≤140737488355328)=true:=by
 have h:n*b≤500000000000*256:=Nat.mul_le_mul hn hb
 exact decide_eq_true (by omega)
theorem newL{l:List Fld}{i:Nat}{f:Fld}:([]++List.take ((i:Int).toNat-Int.toNat (0:Int)) (List.drop (Int.toNat (0:Int)) l)++[f]++List.take ((l.length:Int).toNat-(i:Int).toNat) (List.drop (i:Int).toNat l))=l.take i++f::l.drop i:=by
 have h:List.take (l.length-i) (List.drop i l)=List.drop i l:=List.take_of_length_le (by simp)
 simp[h]
theorem Qp68{r:List Fld}{g f:Fld}(h:g.what<f.what):Qul0 (g::r) f=g::Qul0 r f:=by rw[Qul0,if_pos h]
end Lx
namespace Lx
open Go Go.Proofs
noncomputable def Ql8d:RE Ty El:=⟨Tryz.prog,CP,[],Tryz.f213,0,[],[]⟩
theorem Qdix:REOK Ql8d Qnlm:=⟨CP_ok,Qye1,by kernel_rfl,by kernel_rfl⟩
theorem Qr5q(a b c d:Int)(s t:Str):aRun Ql8d 600 false (body0 Ql8d.fn) (Q4gm Ql8d.fn [.agg [.int .i64 a,.int .i64 b,.str s],.agg [.int .i64 c,.int .i64 d,.str t]] []) =
 ifb (b !=d) (some (.ret (.bool (decide (b>d))) [])) (some (.ret (.bool (!(Q7zj s t||s==t))) [])):=by kernel_rfl
theorem Qxzd(a b c d:Int)(s t:Str):Qewq Tryz.prog CP Qnlm [.agg [.int .i64 a,.int .i64 b,.str s],.agg [.int .i64 c,.int .i64 d,.str t]] [] (.bool (Fld.later ⟨a,b,s⟩ ⟨c,d,t⟩)) []:=by
 refine Qewq.of Qdix (by kernel_rfl) (Qr5q a b c d s t) ?_
 rw[le_lt,Bool.not_not]
 by_cases h:b=d
 ·subst h
  rw[show(b !=b)=false by simp,show Fld.later ⟨a,b,s⟩ ⟨c,b,t⟩=Q7zj t s from if_pos rfl]
  exact Sat.ret rfl rfl
 ·rw[show(b !=d)=true by simp[h],show Fld.later ⟨a,b,s⟩ ⟨c,d,t⟩=decide (b>d) from if_neg h]
  exact Sat.ret rfl rfl
theorem Qa3h:EntOK Tryz.prog CP Qnlm Q7bn:=by
 refine⟨eob (by kernel_rfl),fun _ _ _ _ h=>?_⟩
 simp only[Q7bn]at h
 split at h
 ·obtain⟨hg,rfl,rfl⟩:=eoh h
  exact Qxzd _ _ _ _ _ _
 ·cases h

noncomputable def Q9x1:RE Ty El:=⟨Tryz.prog,CP,[],Tryz.f191,0,[],[]⟩
theorem Qejk:REOK Q9x1 Q373:=⟨CP_ok,Qye1,by kernel_rfl,by kernel_rfl⟩
theorem Q4sv(ks:List Kind)(ps:List Point):aRun Q9x1 600 false (body0 Q9x1.fn) (Q4gm Q9x1.fn [.agg [.sl .kind ks,.sl .point ps]] []) =
 ifb (decide (((0:Nat)+ks.length)*Qbhn Q9x1.P (40:Nat)≤(140737488355328:Nat))) (ifb (decide (((0:Nat)+ps.length)*Qbhn Q9x1.P (160:Nat)≤(140737488355328:Nat))) (some (.ret (.agg [.own 0 [] 0,.own 1 [] 0]) [.row .kind ([]++ks) 0 0 0 .no,.row .point ([]++ps) 0 0 0 .no])) none) none:=by kernel_rfl
theorem Qxit(ks:List Kind)(ps:List Point)(hg:Qzta ks ps=true):Qewq Tryz.prog CP Q373 [.agg [.sl .kind ks,.sl .point ps]] [] (.agg [.own 0 [] 0,.own 1 [] 0]) [.row .kind ks 0 0 0 .no,.row .point ps 0 0 0 .no]:=by
 refine Qewq.of Qejk (by kernel_rfl) (Q4sv ks ps) ?_
 simp only[Qzta,Q6lz,Qjyp,qaT,qdT]at hg
 obtain⟨⟨g0,_⟩,⟨g1,_⟩,_⟩:=hg
 have hb40:Qbhn Q9x1.P 40≤256:=of_decide_eq_true (by kernel_rfl)
 have hb160:Qbhn Q9x1.P 160≤256:=of_decide_eq_true (by kernel_rfl)
 rw[Q1mk hb40 (by simp;omega),Q1mk hb160 (by simp;omega)]
 exact Sat.ret rfl rfl
theorem Qoq9:EntOK Tryz.prog CP Q373 Qf5p:=by
 refine⟨eob (by kernel_rfl),fun _ _ _ _ h=>?_⟩
 simp only[Qf5p]at h
 split at h
 ·obtain⟨hg,rfl,rfl⟩:=eoh h
  exact Qxit _ _ hg
 ·cases h

noncomputable def Qa47:RE Ty El:=⟨Tryz.prog,CP,[(Q373,Qf5p)],Tryz.f138,0,[.agg [.own .kind,.own .point,.own .entry]],[(3,[(1,.any),(2,.any),(3,.any),(4,.any)])]⟩
theorem Qg3r:REOK Qa47 Qfx9:=⟨CP_ok,(TabOK.cons Qoq9 Qye1),by kernel_rfl,by kernel_rfl⟩
theorem Qhyh(ks:List Kind)(ps:List Point)(es:List Entry):aRun Qa47 600 false (body0 Qa47.fn) (Q4gm Qa47.fn [.agg [.sl .kind ks,.sl .point ps,.sl .entry es]] []) =
 ifb (Qzta ks ps) (some (.go (Qu6t Qa47.fn 3) [.ptr 0 0,.ptr 1 0,.ptr 2 0,.int .i64 0] [.box [.sl .kind ks,.sl .point ps,.sl .entry es],.box [.nils,.nils,.nils],.box [.own 3 [] 0,.own 4 [] 0,.nils],.row .kind ks 0 0 0 .no,.row .point ps 0 0 0 .no])) none:=by kernel_rfl
theorem Qswp(x0:Int)(x1:List (El .kind))(x2:List (El .point))(x3:List (El .entry))(x4:List (El .kind))(x5:List (El .point)):aRun Qa47 600 true (Qu6t Qa47.fn 3) (cutSt Qa47.fn (Q1m4 Qa47 (Qu6t Qa47.fn 3)) [.ptr 0 0,.ptr 1 0,.ptr 2 0,.int .i64 x0] [.box [.sl .kind x1,.sl .point x2,.sl .entry x3],.box [.nils,.nils,.nils],.box [.own 3 [] 0,.own 4 [] 0,.nils],.row .kind x4 0 0 0 .no,.row .point x5 0 0 0 .no]) =
 let z0:=(x3.getD x0.toNat (Qa47.C.dflt Ty.entry));ifb (decide (x0<(↑x3.length:Int))) (ifb (inb x0 x3.length) (ifb (inb x0 x3.length) (ifb (decide (((0:Nat)+z0.fields.length)*Qbhn Qa47.P (94:Nat)≤(140737488355328:Nat))) (some (.go (Qu6t Qa47.fn 3) [.ptr 0 0,.ptr 1 0,.ptr 2 0,.int .i64 (IntKind.i64.wrap (x0+1))] [.box [.sl .kind x1,.sl .point x2,.sl .entry x3],.box [.nils,.nils,.nils],.box [.own 3 [] 0,.own 4 [] 0,.own 5 [] 0],.row .kind x4 0 0 0 .no,.row .point x5 0 0 0 .no,.row .entry ([Entry.mk z0.name ([]++z0.fields)]) 1 0 0 .no])) none) none) none) (some (.ret (.agg [.own 0 [] 0,.own 1 [] 0,.own 2 [] 0]) [.row .kind x4 0 0 0 .no,.row .point x5 0 0 0 .no,.row .entry [] 1 0 0 .no])):=by kernel_rfl
theorem Q3i1(x0:Int)(x1:List (El .kind))(x2:List (El .point))(x3:List (El .entry))(x4:List (El .kind))(x5:List (El .point))(x6:List (El .entry)):aRun Qa47 600 true (Qu6t Qa47.fn 3) (cutSt Qa47.fn (Q1m4 Qa47 (Qu6t Qa47.fn 3)) [.ptr 0 0,.ptr 1 0,.ptr 2 0,.int .i64 x0] [.box [.sl .kind x1,.sl .point x2,.sl .entry x3],.box [.nils,.nils,.nils],.box [.own 3 [] 0,.own 4 [] 0,.own 5 [] 0],.row .kind x4 0 0 0 .no,.row .point x5 0 0 0 .no,.row .entry x6 1 0 0 .no]) =
 let z0:=(x3.getD x0.toNat (Qa47.C.dflt Ty.entry));ifb (decide (x0<(↑x3.length:Int))) (ifb (inb x0 x3.length) (ifb (inb x0 x3.length) (ifb (decide (((0:Nat)+z0.fields.length)*Qbhn Qa47.P (94:Nat)≤(140737488355328:Nat))) (ifb (decide ((x6.length+[Entry.mk z0.name ([]++z0.fields)].length)*Qbhn Qa47.P (92:Nat)≤(140737488355328:Nat))) (some (.go (Qu6t Qa47.fn 3) [.ptr 0 0,.ptr 1 0,.ptr 2 0,.int .i64 (IntKind.i64.wrap (x0+1))] [.box [.sl .kind x1,.sl .point x2,.sl .entry x3],.box [.nils,.nils,.nils],.box [.own 3 [] 0,.own 4 [] 0,.own 5 [] 0],.row .kind x4 0 0 0 .no,.row .point x5 0 0 0 .no,.row .entry (x6++[Entry.mk z0.name ([]++z0.fields)]) 1 0 0 .no])) none) none) none) none) (some (.ret (.agg [.own 0 [] 0,.own 1 [] 0,.own 2 [] 0]) [.row .kind x4 0 0 0 .no,.row .point x5 0 0 0 .no,.row .entry x6 1 0 0 .no])):=by kernel_rfl
theorem Q8wy(ks:List Kind)(ps:List Point)(es:List Entry)(g0:es.length≤1000000000)(g1:es.all (fun z:Entry=>Qytc z.name z.fields)=true):∀(d i:Nat),i+d=es.length →
  Cut Qa47 Qfx9 3 [.ptr 0 0,.ptr 1 0,.ptr 2 0,.int .i64 (i:Int)] [.box [.sl .kind ks,.sl .point ps,.sl .entry es],.box [.nils,.nils,.nils],.box [.own 3 [] 0,.own 4 [] 0,.own 5 [] 0],.row .kind ks 0 0 0 .no,.row .point ps 0 0 0 .no,.row .entry (es.take i) 1 0 0 .no] (.agg [.own 0 [] 0,.own 1 [] 0,.own 2 [] 0]) [.row .kind ks 0 0 0 .no,.row .point ps 0 0 0 .no,.row .entry es 1 0 0 .no]:=by
 have hb92:Qbhn Qa47.P 92≤256:=of_decide_eq_true (by kernel_rfl)
 have hb94:Qbhn Qa47.P 94≤256:=of_decide_eq_true (by kernel_rfl)
 intro d
 induction d with
 | zero =>
  intro i hi
  refine Cut.of Qg3r rfl (Q3i1 i ks ps es ks ps _) ?_
  conv=>zeta
  rw[show decide ((i:Int)<(es.length:Int))=false from decide_eq_false (by omega),List.take_of_length_le (by omega)]
  exact Sat.ret rfl rfl
 | succ d ih =>
  intro i hi
  refine Cut.of Qg3r rfl (Q3i1 i ks ps es ks ps _) ?_
  conv=>zeta
  have hlt:i<es.length:=by omega
  have hw:IntKind.wrap .i64 ((i:Int)+1)=((i+1:Nat):Int):=by rw[Qbrg]<;>omega
  have hx:es.getD (i:Int).toNat (Qa47.C.dflt .entry)=es[i]:=by simp[hlt]
  have hin:inb (i:Int) es.length=true:=by simp only[inb,qaT,qdT];omega
  have hlo:decide ((i:Int)<(es.length:Int))=true:=decide_eq_true (by omega)
  have htk:=qtS hlt
  have hz:=qlA.1 g1 es[i] (List.getElem_mem hlt)
  simp only[Qytc,Qckx,qaT,qdT]at hz
  rw[hlo,hin,hx,hw,Q1mk hb94 (by simp;omega),Q1mk hb92 (by simp;omega)]
  simp only[Qd8q,List.nil_append]
  have nx:=ih (i+1) (by omega)
  rw[htk]at nx
  exact Sat.cut nx
theorem Qg48(ks:List Kind)(ps:List Point)(es:List Entry)(g0:es.length≤1000000000)(g1:es.all (fun z:Entry=>Qytc z.name z.fields)=true) :
  Cut Qa47 Qfx9 3 [.ptr 0 0,.ptr 1 0,.ptr 2 0,.int .i64 (0:Int)] [.box [.sl .kind ks,.sl .point ps,.sl .entry es],.box [.nils,.nils,.nils],.box [.own 3 [] 0,.own 4 [] 0,.nils],.row .kind ks 0 0 0 .no,.row .point ps 0 0 0 .no] (.agg [.own 0 [] 0,.own 1 [] 0,.own 2 [] 0]) [.row .kind ks 0 0 0 .no,.row .point ps 0 0 0 .no,.row .entry es 1 0 0 .no]:=by
 have hb92:Qbhn Qa47.P 92≤256:=of_decide_eq_true (by kernel_rfl)
 have hb94:Qbhn Qa47.P 94≤256:=of_decide_eq_true (by kernel_rfl)
 refine Cut.of Qg3r rfl (Qswp 0 ks ps es ks ps) ?_
 conv=>zeta
 cases es with
 | nil=>exact Sat.ret rfl rfl
 | cons e es =>
  have hz:=g1
  rw[List.all_cons,qaT]at hz
  replace hz:=hz.1
  simp only[Qytc,Qckx,qaT,qdT]at hz
  have hi0:inb (0:Int) (e::es).length=true:=by simp only[inb,qaT,qdT,List.length_cons];omega
  have hx0:(e::es).getD (Int.toNat 0) (Qa47.C.dflt .entry)=e:=rfl
  rw[show decide ((0:Int)<((e::es).length:Int))=true from decide_eq_true (by simp only[List.length_cons];omega),hi0,hx0,Q1mk hb94 (by simp;omega)]
  simp only[Qd8q,List.nil_append]
  exact Sat.cut (Q8wy ks ps (e::es) g0 g1 es.length 1 (by simp only[List.length_cons];omega))
theorem Ql4i(ks:List Kind)(ps:List Point)(es:List Entry)(hg:Q8cx ks ps es=true):Qewq Tryz.prog CP Qfx9 [.agg [.sl .kind ks,.sl .point ps,.sl .entry es]] [] (.agg [.own 0 [] 0,.own 1 [] 0,.own 2 [] 0]) [.row .kind ks 0 0 0 .no,.row .point ps 0 0 0 .no,.row .entry es 1 0 0 .no]:=by
 refine Qewq.of Qg3r (by kernel_rfl) (Qhyh ks ps es) ?_
 simp only[Q8cx,qaT]at hg
 obtain⟨g0,g1,g2,_⟩:=hg
 rw[show Qzta ks ps=true by simp only[Qzta,g0,g1,Bool.and_true]]
 simp only[Qnwa,qaT,qdT]at g2
 exact Sat.cut (Qg48 ks ps es g2.1 g2.2)
theorem Qaka:EntOK Tryz.prog CP Qfx9 Qc1o:=by
 refine⟨eob (by kernel_rfl),fun _ _ _ _ h=>?_⟩
 simp only[Qc1o]at h
 split at h
 ·obtain⟨hg,rfl,rfl⟩:=eoh h
  exact Ql4i _ _ _ hg
 ·cases h

noncomputable def Qfex:RE Ty El:=⟨Tryz.prog,CP,[(Qnlm,Q7bn)],Tryz.f212,1,[.own .fld],[(2,[(0,.any),(3,.any),(5,.any)])]⟩
theorem Qf5e:REOK Qfex Qfs9:=⟨CP_ok,(TabOK.cons Qa3h Qye1),by kernel_rfl,by kernel_rfl⟩
theorem Qj5p(l:List Fld)(w n:Int)(v:Str):aRun Qfex 600 false (body0 Qfex.fn) (Q4gm Qfex.fn [.own 0 [] 0,.agg [.int .i64 w,.int .i64 n,.str v]] [.row .fld l 0 0 0 .no]) =
 some (.go (Qu6t Qfex.fn 2) [.own 0 [] 0,.ptr 1 0,.int .i64 0] [.row .fld l 0 0 0 .no,.box [.int .i64 w,.int .i64 n,.str v]]):=by kernel_rfl
theorem Qdk2(x0:Int)(x1:List (El .fld))(x2:Int)(x3:Int)(x4:Str):aRun Qfex 600 true (Qu6t Qfex.fn 2) (cutSt Qfex.fn (Q1m4 Qfex (Qu6t Qfex.fn 2)) [.own 0 [] 0,.ptr 1 0,.int .i64 x0] [.row .fld x1 0 0 0 .no,.box [.int .i64 x2,.int .i64 x3,.str x4]]) =
 let z3:=(x1.getD x0.toNat (Qfex.C.dflt Ty.fld));let z4:=(↑x1.length:Int);let z5:=(List.drop (Int.toNat (0:Int)) x1);let z6:=(inb x0 x1.length);let z7:=(x0.toNat-Int.toNat (0:Int));let z1:OL:=(some (.ret (.own 1 [] 0) [.row .fld x1 0 0 0 .no,.row .fld ([]++List.take z7 z5++[Fld.mk x2 x3 x4]++List.take (z4.toNat-x0.toNat) (List.drop x0.toNat x1)) 0 0 0 .no]));let z8:OL:=(some (.ret (.own 0 [] 0) [.row .fld (x1.set x0.toNat (Fld.mk x2 x3 x4)) 0 0 0 .no]));let z9:OL:=(some (.ret (.own 0 [] 0) [.row .fld x1 0 0 0 .no]));let z11:=(140737488355328:Nat);let z0:=(decide ((([]++List.take z7 z5++[Fld.mk x2 x3 x4]).length+(List.take (z4.toNat-x0.toNat) (List.drop x0.toNat x1)).length)*Qbhn Qfex.P (94:Nat)≤z11));let z2:=(ifb (decide ((0:Int)≤(0:Int))&&(decide (0≤x0)&&decide (x0≤z4))) (ifb (decide (((0:Nat)+(List.take z7 z5).length)*Qbhn Qfex.P (94:Nat)≤z11)) (ifb (decide ((([]++List.take z7 z5).length+[Fld.mk x2 x3 x4].length)*Qbhn Qfex.P (94:Nat)≤z11)) (ifb (decide (0≤x0)&&(decide (x0≤z4)&&decide (z4≤z4))) (ifb z0 z1 none) none) none) none) none);let z10:=(ifb (decide (x0<z4)) (ifb z6 (ifb (z3.what==x2) (ifb z6 (ifb ((Fld.mk x2 x3 x4).later z3) (ifb z6 z8 none) z9) none) z2) none) z2);ifb (decide (x0<z4)) (ifb z6 (ifb (decide (z3.what<x2)) (some (.go (Qu6t Qfex.fn 2) [.own 0 [] 0,.ptr 1 0,.int .i64 (IntKind.i64.wrap (x0+1))] [.row .fld x1 0 0 0 .no,.box [.int .i64 x2,.int .i64 x3,.str x4]])) z10) none) z10:=by kernel_rfl
theorem Qnvi(l:List Fld)(w n:Int)(v:Str)(g0:l.length≤1000000000):∀(d i:Nat),i+d=l.length→Qul0 l ⟨w,n,v⟩=l.take i++Qul0 (l.drop i) ⟨w,n,v⟩ →
  CutE Qfex Qfs9 2 [.own 0 [] 0,.ptr 1 0,.int .i64 (i:Int)] [.row .fld l 0 0 0 .no,.box [.int .i64 w,.int .i64 n,.str v]] (fun v' h=>(v'=.own 0 [] 0∧h=[.row .fld (Qul0 l ⟨w,n,v⟩) 0 0 0 .no])∨(v'=.own 1 [] 0∧h=[.row .fld l 0 0 0 .no,.row .fld (Qul0 l ⟨w,n,v⟩) 0 0 0 .no])):=by
 have hb:Qbhn Qfex.P 94≤256:=of_decide_eq_true (by kernel_rfl)
 intro d
 induction d with
 | zero =>
  intro i hi hf
  refine CutE.of Qf5e rfl (Qdk2 i l w n v) ?_
  conv=>zeta
  rw[show decide ((i:Int)<(l.length:Int))=false from decide_eq_false (by omega)]
  simp only[Qk7y]
  rw[List.drop_of_length_le (by omega)]at hf
  refine SatE.need (by simp;omega) (SatE.need (Q1mk hb (by simp;omega)) (SatE.need (Q1mk hb (by simp;omega)) (SatE.need (by simp;omega) (SatE.need (Q1mk hb (by simp;omega)) (SatE.ret (.inr ⟨rfl, ?_⟩))))))
  rw[newL,hf,List.drop_of_length_le (by omega)];rfl
 | succ d ih =>
  intro i hi hf
  refine CutE.of Qf5e rfl (Qdk2 i l w n v) ?_
  conv=>zeta
  have hlt:i<l.length:=by omega
  have hw:IntKind.wrap .i64 ((i:Int)+1)=((i+1:Nat):Int):=by rw[Qbrg]<;>omega
  have hd:l.drop i=l[i]::l.drop (i+1):=qdC hlt
  have hx:l.getD (i:Int).toNat (Qfex.C.dflt .fld)=l[i]:=by simp[hlt]
  have hin:inb (i:Int) l.length=true:=by simp only[inb,qaT,qdT];omega
  have hlo:decide ((i:Int)<(l.length:Int))=true:=decide_eq_true (by omega)
  have htk:=qtS hlt
  rw[hd]at hf
  rw[hlo,hin,hx,hw]
  simp only[Qd8q]
  by_cases h1:l[i].what<w
  ·rw[show decide (l[i].what<w)=true from decide_eq_true h1]
   rw[Qp68 (r:=l.drop (i+1)) (f:=⟨w,n,v⟩) h1]at hf
   have hf':Qul0 l ⟨w,n,v⟩=l.take (i+1)++Qul0 (l.drop (i+1)) ⟨w,n,v⟩:=hf.trans ((show l.take i++l[i]::Qul0 (l.drop (i+1)) ⟨w,n,v⟩=(l.take i++[l[i]])++Qul0 (l.drop (i+1)) ⟨w,n,v⟩ by rw[List.append_assoc];rfl).trans (congrArg (fun z=>z++Qul0 (l.drop (i+1)) ⟨w,n,v⟩) htk.symm))
   exact SatE.cut (ih (i+1) (by omega) hf')
  rw[show decide (l[i].what<w)=false from decide_eq_false h1]
  simp only[Qk7y]
  rw[Qul0,if_neg h1]at hf
  by_cases h2:l[i].what=w
  ·rw[show(l[i].what==w)=true by simp[h2]]
   simp only[Qd8q]
   rw[if_pos h2]at hf
   cases h3:Fld.later ⟨w,n,v⟩ l[i] with
   | true =>
    rw[h3]at hf
    refine SatE.ret (.inl ⟨rfl, ?_⟩)
    rw[hf,if_pos rfl,Int.toNat_natCast,List.set_eq_take_append_cons_drop,if_pos hlt]
   | false =>
    rw[h3]at hf
    refine SatE.ret (.inl ⟨rfl, ?_⟩)
    rw[hf,if_neg (by simp),←hd,List.take_append_drop]
  ·rw[show(l[i].what==w)=false by simp[h2]]
   simp only[Qk7y]
   rw[if_neg h2,←hd]at hf
   refine SatE.need (by simp;omega) (SatE.need (Q1mk hb (by simp;omega)) (SatE.need (Q1mk hb (by simp;omega)) (SatE.need (by simp;omega) (SatE.need (Q1mk hb (by simp;omega)) (SatE.ret (.inr ⟨rfl, ?_⟩))))))
   rw[newL,hf]
theorem Q6qg(l:List Fld)(w n:Int)(v:Str)(hg:Qckx l=true):Qewq Tryz.prog CP Qfs9 [.own 0 [] 0,.agg [.int .i64 w,.int .i64 n,.str v]] [.row .fld l 0 0 0 .no] (.own 1 [] 0) [.out,.row .fld (Qul0 l ⟨w,n,v⟩) 0 0 0 .no]:=by
 simp only[Qckx,qaT,qdT]at hg
 have hE:CallE Qfex.P Qfex.C Qfs9 [.own 0 [] 0,.agg [.int .i64 w,.int .i64 n,.str v]] [.row .fld l 0 0 0 .no] (fun v' h=>(v'=.own 0 [] 0∧h=[.row .fld (Qul0 l ⟨w,n,v⟩) 0 0 0 .no])∨(v'=.own 1 [] 0∧h=[.row .fld l 0 0 0 .no,.row .fld (Qul0 l ⟨w,n,v⟩) 0 0 0 .no])):=CallE.of Qf5e (by kernel_rfl) (Qj5p l w n v) (SatE.cut (Qnvi l w n v hg.1 l.length 0 (by omega) rfl))
 obtain⟨res,H',h,hq⟩:=hE
 rcases hq with ⟨rfl,rfl⟩|⟨rfl,rfl⟩
 ·exact Qewq.move CP_ok h
 ·exact Qewq.drop CP_ok h 0 (by simp) rfl rfl
theorem Q0b0:EntOK Tryz.prog CP Qfs9 Ql3g:=by
 refine⟨eob (by kernel_rfl),fun _ _ _ _ h=>?_⟩
 simp only[Ql3g]at h
 split at h
 ·obtain⟨hg,rfl,rfl⟩:=eoh h
  exact Q6qg _ _ _ _ hg
 ·cases h
end Lx
namespace Lx
open Go Go.Proofs
def putOk(es:List Entry):Bool:=decide (es.length<1000000000)&&es.all (fun z=>Qytc z.name z.fields)
def Q8fw:Ent Ty El:=⟨[.io,.ro,.ro],0,fun a h=>match a,h with
 | [.agg [.own 0 [] 0,.own 1 [] 0,.own 2 [] 0],.str n,.agg [.int .i64 w,.int .i64 m,.str v]],[.row .kind ks 0 0 0 .no,.row .point ps 0 0 0 .no,.row .entry es 1 0 0 .no] =>
  some (putOk es,.agg [.own 0 [] 0,.own 1 [] 0,.sl .entry (putF es n ⟨w,m,v⟩)],[.row .kind ks 0 0 0 .no,.row .point ps 0 0 0 .no,.out])
 | _,_=>none⟩
theorem newG{α:Type}{l:List α}{i:Nat}{f:α}:([]++List.take ((i:Int).toNat-Int.toNat (0:Int)) (List.drop (Int.toNat (0:Int)) l)++[f]++List.take ((l.length:Int).toNat-(i:Int).toNat) (List.drop (i:Int).toNat l))=l.take i++f::l.drop i:=by
 have h:List.take (l.length-i) (List.drop i l)=List.drop i l:=List.take_of_length_le (by simp)
 simp[h]
theorem Q2m4{r:List Entry}{e:Entry}{n:Str}{f:Fld}(h:Q7zj e.name n=true):insE (e::r) n f=e::insE r n f:=by rw[insE,if_pos h]
theorem Qj3b{r:List Entry}{e:Entry}{n:Str}{f:Fld}(h:Q7zj e.name n=false):insE (e::r) n f=⟨n,[f]⟩::e::r:=by rw[insE,if_neg (by simp[h])]
theorem Q5v6{es:List Entry}{n:Str}{f:Fld}(h:0≤entIx es n):putF es n f=es.set (entIx es n).toNat ⟨(es.getD (entIx es n).toNat (dfltP .entry)).name,Qul0 (es.getD (entIx es n).toNat (dfltP .entry)).fields f⟩:=if_pos h
theorem Qk9v{es:List Entry}{n:Str}{f:Fld}(h:¬0≤entIx es n):putF es n f=insE es n f:=if_neg h
end Lx
namespace Lx
open Go
section
variable {Ty:Type} {El:Ty→Type} {C:Cod Ty El} {P:Program}
theorem Qewq.frz(hC:CodOK P C){g:FuncId}{args:List (AV Ty El)}{H:List (AObj Ty El)}{res:AV Ty El}{H':List (AObj Ty El)}{r d d':Nat}{T:Ty}{xs:List (El T)}(hk:r<H.length)(hr:hpOf H r=.row T xs d 0 0 .no)(hd:d'≤d)
  (h:Qewq P C g args (H.set r (.row T xs d' 0 0 .no)) res H'):Qewq P C g args H res H':=by
 intro w N vs hN hsz hrep
 have ho:=hN.obj r
 rw[hr]at ho
 obtain⟨B',h1,h2,h3⟩:=Deep.freeze hC d' d _ _ _ _ _ hd ho.2 (fun _ h=>h)
 have hs:Step C (fun k=>k=r) N (N.upd r (N.ν r) B' (rowG C w T xs (N.ν r) d' 0 0 .no) (fun b=>N.F r b∧¬B' b)) (hpOf H) (setH (hpOf H) r (.row T xs d' 0 0 .no)) w w:=by
  refine Step.row hC hN (fun _ _ _=>rfl) (Nat.le_refl _) ho.1 (fun hL=>h3 _ hL (fun b hb hn=>.inr ⟨hb,hn⟩)) (fun p v u hg=>?_) (fun b hb=>.inl (h1 b hb)) (fun b hb=>.inr hb.1) (fun b hb hn=>hn.2 hb) rfl rfl rfl
  have:=hN.reg r p v u hg
  rw[hr]at this
  cases p with
  | nil=>exact this
  | cons q p=>exact⟨this.1,fun hm e hl=>this.2 rfl e (Nat.le_trans hl hd)⟩
 have he:hpOf (H.set r (.row T xs d' 0 0 .no))=setH (hpOf H) r (.row T xs d' 0 0 .no):=by
  funext k
  rw[Qf9x hk]
  by_cases e:k=r
  ·subst e;simp[Q3el]
  ·rw[if_neg e,Que0 _ _ e]
 have hF2:∀k b,(N.upd r (N.ν r) B' (rowG C w T xs (N.ν r) d' 0 0 .no) (fun b=>N.F r b∧¬B' b)).F k b→N.F k b:=fun k b hb=>by
  by_cases e:k=r
  ·subst e;simp only[Nm.upd_F_self]at hb;exact h1 b hb
  ·simpa[Nm.upd,e]using hb
 have hν2:∀k,(N.upd r (N.ν r) B' (rowG C w T xs (N.ν r) d' 0 0 .no) (fun b=>N.F r b∧¬B' b)).ν k=N.ν k:=fun k=>by
  by_cases e:k=r
  ·subst e;simp
  ·simp[Nm.upd,e]
 refine(h w _ vs (by rw[he];exact hN.step hC hs) hsz (fun j v x hv hx=>(hrep j v x hv hx).mono (hs.le hN))).mono ?_
 rintro en w' ⟨v,N',rfl,hH,hv,hio,hroI,hroO,hfr,hF⟩
 refine⟨v,N',rfl,hH,hv,fun k hk hst=>(hio k (by simpa using hk) hst).trans (hν2 k),fun b hb=>hroI b ((hs.le hN).ro b hb),fun b hb=>?_,⟨hfr.os,hfr.tape,hfr.output,hfr.size,fun b hb hn=>hfr.block b hb (fun⟨k,hb2⟩=>hn ⟨k,hF2 k b hb2⟩)⟩,fun k b hb=>(hF k b hb).imp id (fun⟨k',hb'⟩=>⟨k',hF2 k' b hb'⟩)⟩
 rcases hroO b hb with h|h|⟨k,hb'⟩
 ·rcases h with h|h
  ·exact .inl h
  ·exact .inr (.inr ⟨r,h.1⟩)
 ·exact .inr (.inl h)
 ·exact .inr (.inr ⟨k,hF2 k b hb'⟩)
variable {R:RE Ty El} {f:FuncId}
theorem Cut.frz(hC:CodOK R.P R.C){id:Nat}{vals:List (AV Ty El)}{h:List (AObj Ty El)}{res:AV Ty El}{H':List (AObj Ty El)}{r d d':Nat}{T:Ty}{xs:List (El T)}(hk:r<h.length)(hr:hpOf h r=.row T xs d 0 0 .no)(hd:d'≤d)
  (hg:Cut R f id vals (h.set r (.row T xs d' 0 0 .no)) res H'):Cut R f id vals h res H':=by
 intro X N a w hn hm hS
 obtain⟨N',hS',_⟩:=hS.freeze hC (r:=r) (T:=T) (xs:=xs) (d:=d) (d':=d') (vr:=0) (vn:=0) (vn':=0) hr hd (Nat.le_refl _)
 refine hg X N' a w hn hm ?_
 have he:(cutSt R.fn (Q1m4 R (Qu6t R.fn id)) vals (h.set r (.row T xs d' 0 0 .no))).hpF=setH (cutSt R.fn (Q1m4 R (Qu6t R.fn id)) vals h).hpF r (.row T xs d' 0 0 .no):=by
  funext k
  have e1:hpOf (h.set r (.row T xs d' 0 0 .no)) k=if k=r then .row T xs d' 0 0 .no else hpOf h k:=Qf9x hk
  by_cases e:k=r
  ·subst e;rw[Q3el];exact e1.trans (if_pos rfl)
  ·rw[Que0 _ _ e];exact e1.trans (if_neg e)
 rw[he]
 exact hS'
theorem CutE.frz(hC:CodOK R.P R.C){id:Nat}{vals:List (AV Ty El)}{h:List (AObj Ty El)}{Q:AV Ty El→List (AObj Ty El)→Prop}{r d d':Nat}{T:Ty}{xs:List (El T)}(hk:r<h.length)(hr:hpOf h r=.row T xs d 0 0 .no)(hd:d'≤d)
  (hg:CutE R f id vals (h.set r (.row T xs d' 0 0 .no)) Q):CutE R f id vals h Q:=by
 obtain⟨res,H',h1,h2⟩:=hg
 exact⟨res,H',Cut.frz hC hk hr hd h1,h2⟩
end
end Lx
namespace Lx
open Go Go.Proofs
noncomputable def Qefd:RE Ty El:=⟨Tryz.prog,CP,[(Q4v9,Qf4o),(Qfs9,Ql3g)],Tryz.f139,3,[.agg [.own .kind,.own .point,.ro .entry]],[(6,[(1,.any),(3,.any),(5,.any),(6,.any),(8,.any)])]⟩
theorem Q71n:REOK Qefd Q7kf:=⟨CP_ok,(TabOK.cons Q9x2 (TabOK.cons Q0b0 Qye1)),by kernel_rfl,by kernel_rfl⟩
theorem Qn4o(ks:List Kind)(ps:List Point)(es:List Entry)(n:Str)(w m:Int)(v:Str):aRun Qefd 600 false (body0 Qefd.fn) (Q4gm Qefd.fn [.agg [.own 0 [] 0,.own 1 [] 0,.own 2 [] 0],.str n,.agg [.int .i64 w,.int .i64 m,.str v]] [.row .kind ks 0 0 0 .no,.row .point ps 0 0 0 .no,.row .entry es 0 0 0 .no]) =
 ifb (decide (es.length<(1000000000:Nat))) (ifb (decide (idxF (fun p=>p.name==n) es≥0)) (ifb (inb (idxF (fun p=>p.name==n) es) es.length) none none) (some (.go (Qu6t Qefd.fn 6) [.str n,.ptr 3 0,.ptr 4 0,.ptr 5 0,.int .i64 0] [.row .kind ks 0 0 0 .no,.row .point ps 0 0 0 .no,.row .entry es 0 0 0 .no,.box [.own 0 [] 0,.own 1 [] 0,.own 2 [] 0],.box [.int .i64 w,.int .i64 m,.str v],.box [.nils,.nils,.nils]]))) none:=by kernel_rfl
theorem Q4bq(x0:Str)(x1:Int)(x2:List (El .kind))(x3:List (El .point))(x4:List (El .entry))(x5:Int)(x6:Int)(x7:Str):aRun Qefd 600 true (Qu6t Qefd.fn 6) (cutSt Qefd.fn (Q1m4 Qefd (Qu6t Qefd.fn 6)) [.str x0,.ptr 3 0,.ptr 4 0,.ptr 5 0,.int .i64 x1] [.row .kind x2 0 0 0 .no,.row .point x3 0 0 0 .no,.row .entry x4 0 0 0 .no,.box [.own 0 [] 0,.own 1 [] 0,.own 2 [] 0],.box [.int .i64 x5,.int .i64 x6,.str x7],.box [.nils,.nils,.nils]]) =
 let z2:=(↑x4.length:Int);let z3:=(List.drop (Int.toNat (0:Int)) x4);let z4:=(x1.toNat-Int.toNat (0:Int));let z0:OL:=(some (.ret (.agg [.own 0 [] 0,.own 1 [] 0,.sl .entry ([]++List.take z4 z3++[Entry.mk x0 [Fld.mk x5 x6 x7]]++List.take (z2.toNat-x1.toNat) (List.drop x1.toNat x4))]) [.row .kind x2 0 0 0 .no,.row .point x3 0 0 0 .no,.row .entry x4 0 0 0 .no]));let z5:=(140737488355328:Nat);let z1:=(ifb (decide ((0:Int)≤(0:Int))&&(decide (0≤x1)&&decide (x1≤z2))) (ifb (decide (((0:Nat)+(List.take z4 z3).length)*Qbhn Qefd.P (92:Nat)≤z5)) (ifb (decide ((([]++List.take z4 z3).length+[Entry.mk x0 [Fld.mk x5 x6 x7]].length)*Qbhn Qefd.P (92:Nat)≤z5)) (ifb (decide (0≤x1)&&(decide (x1≤z2)&&decide (z2≤z2))) (ifb (decide ((([]++List.take z4 z3++[Entry.mk x0 [Fld.mk x5 x6 x7]]).length+(List.take (z2.toNat-x1.toNat) (List.drop x1.toNat x4)).length)*Qbhn Qefd.P (92:Nat)≤z5)) z0 none) none) none) none) none);ifb (decide (x1<z2)) (ifb (inb x1 x4.length) (ifb (Q7zj (x4.getD x1.toNat (Qefd.C.dflt Ty.entry)).name x0) (some (.go (Qu6t Qefd.fn 6) [.str x0,.ptr 3 0,.ptr 4 0,.ptr 5 0,.int .i64 (IntKind.i64.wrap (x1+1))] [.row .kind x2 0 0 0 .no,.row .point x3 0 0 0 .no,.row .entry x4 0 0 0 .no,.box [.own 0 [] 0,.own 1 [] 0,.own 2 [] 0],.box [.int .i64 x5,.int .i64 x6,.str x7],.box [.nils,.nils,.nils]])) z1) none) z1:=by kernel_rfl
theorem Qv43(ks:List Kind)(ps:List Point)(es:List Entry)(n:Str)(w m:Int)(v:Str)(g0:es.length<1000000000):∀(d i:Nat),i+d=es.length→insE es n ⟨w,m,v⟩=es.take i++insE (es.drop i) n ⟨w,m,v⟩ →
  Cut Qefd Q7kf 6 [.str n,.ptr 3 0,.ptr 4 0,.ptr 5 0,.int .i64 (i:Int)] [.row .kind ks 0 0 0 .no,.row .point ps 0 0 0 .no,.row .entry es 0 0 0 .no,.box [.own 0 [] 0,.own 1 [] 0,.own 2 [] 0],.box [.int .i64 w,.int .i64 m,.str v],.box [.nils,.nils,.nils]] (.agg [.own 0 [] 0,.own 1 [] 0,.sl .entry (insE es n ⟨w,m,v⟩)]) [.row .kind ks 0 0 0 .no,.row .point ps 0 0 0 .no,.row .entry es 0 0 0 .no]:=by
 have hb:Qbhn Qefd.P 92≤256:=of_decide_eq_true (by kernel_rfl)
 intro d
 induction d with
 | zero =>
  intro i hi hf
  refine Cut.of Q71n rfl (Q4bq n i ks ps es w m v) ?_
  conv=>zeta
  rw[List.drop_of_length_le (by omega)]at hf
  rw[show decide ((i:Int)<(es.length:Int))=false from decide_eq_false (by omega),Qk7y]
  rw[show(decide ((0:Int)≤(0:Int))&&(decide ((0:Int)≤(i:Int))&&decide ((i:Int)≤(es.length:Int))))=true by simp;omega,show(decide ((0:Int)≤(i:Int))&&(decide ((i:Int)≤(es.length:Int))&&decide ((es.length:Int)≤(es.length:Int))))=true by simp;omega,Q1mk hb (by simp;omega),Q1mk hb (by simp;omega),Q1mk hb (by simp;omega)]
  simp only[Qd8q]
  refine Sat.ret ?_ rfl
  rw[newG,hf,List.drop_of_length_le (by omega)];rfl
 | succ d ih =>
  intro i hi hf
  refine Cut.of Q71n rfl (Q4bq n i ks ps es w m v) ?_
  conv=>zeta
  have hlt:i<es.length:=by omega
  have hw:IntKind.wrap .i64 ((i:Int)+1)=((i+1:Nat):Int):=by rw[Qbrg]<;>omega
  have hd:es.drop i=es[i]::es.drop (i+1):=qdC hlt
  have hx:es.getD (i:Int).toNat (Qefd.C.dflt .entry)=es[i]:=by simp[hlt]
  have hin:inb (i:Int) es.length=true:=by simp only[inb,qaT,qdT];omega
  have hlo:decide ((i:Int)<(es.length:Int))=true:=decide_eq_true (by omega)
  have htk:=qtS hlt
  rw[hd]at hf
  rw[hlo,hin,hx,hw]
  simp only[Qd8q]
  cases h1:Q7zj es[i].name n with
  | true =>
   rw[Q2m4 h1]at hf
   have hf':insE es n ⟨w,m,v⟩=es.take (i+1)++insE (es.drop (i+1)) n ⟨w,m,v⟩:=hf.trans ((show es.take i++es[i]::insE (es.drop (i+1)) n ⟨w,m,v⟩=(es.take i++[es[i]])++insE (es.drop (i+1)) n ⟨w,m,v⟩ by rw[List.append_assoc];rfl).trans (congrArg (fun z=>z++insE (es.drop (i+1)) n ⟨w,m,v⟩) htk.symm))
   exact Sat.cut (ih (i+1) (by omega) hf')
  | false =>
   rw[Qj3b h1,←hd]at hf
   rw[show(decide ((0:Int)≤(0:Int))&&(decide ((0:Int)≤(i:Int))&&decide ((i:Int)≤(es.length:Int))))=true by simp;omega,show(decide ((0:Int)≤(i:Int))&&(decide ((i:Int)≤(es.length:Int))&&decide ((es.length:Int)≤(es.length:Int))))=true by simp;omega,Q1mk hb (by simp;omega),Q1mk hb (by simp;omega),Q1mk hb (by simp;omega)]
   simp only[Qd8q,Qk7y]
   refine Sat.ret ?_ rfl
   rw[newG,hf]
theorem Q99y(ks:List Kind)(ps:List Point)(es:List Entry)(n:Str)(w m:Int)(v:Str)(hg:(decide (es.length<1000000000)&&decide (entIx es n<0))=true):Qewq Tryz.prog CP Q7kf [.agg [.own 0 [] 0,.own 1 [] 0,.own 2 [] 0],.str n,.agg [.int .i64 w,.int .i64 m,.str v]] [.row .kind ks 0 0 0 .no,.row .point ps 0 0 0 .no,.row .entry es 0 0 0 .no] (.agg [.own 0 [] 0,.own 1 [] 0,.sl .entry (insE es n ⟨w,m,v⟩)]) [.row .kind ks 0 0 0 .no,.row .point ps 0 0 0 .no,.row .entry es 0 0 0 .no]:=by
 refine Qewq.of Q71n (by kernel_rfl) (Qn4o ks ps es n w m v) ?_
 simp only[qaT,qdT]at hg
 obtain⟨g0,g1⟩:=hg
 rw[show decide (es.length<1000000000)=true from decide_eq_true g0,show decide (idxF (fun p=>p.name==n) es≥(0:Int))=false from decide_eq_false (by have:idxF (fun p:Entry=>p.name==n) es<0:=g1;omega)]
 simp only[Qd8q,Qk7y]
 exact Sat.cut (Qv43 ks ps es n w m v g0 es.length 0 (by omega) rfl)

noncomputable def Qx07:RE Ty El:=⟨Tryz.prog,CP,[(Q4v9,Qf4o),(Qfs9,Ql3g)],Tryz.f139,3,[.agg [.own .kind,.own .point,.ro .entry]],[(6,[(1,.any),(3,.any),(5,.any),(6,.any),(8,.any)])]⟩
theorem Qi9q:REOK Qx07 Q7kf:=⟨CP_ok,(TabOK.cons Q9x2 (TabOK.cons Q0b0 Qye1)),by kernel_rfl,by kernel_rfl⟩
theorem Q9x4(ks:List Kind)(ps:List Point)(es:List Entry)(n:Str)(w m:Int)(v:Str):aRun Qx07 600 false (body0 Qx07.fn) (Q4gm Qx07.fn [.agg [.own 0 [] 0,.own 1 [] 0,.own 2 [] 0],.str n,.agg [.int .i64 w,.int .i64 m,.str v]] [.row .kind ks 0 0 0 .no,.row .point ps 0 0 0 .no,.row .entry es 1 0 0 .no]) =
 let z0:=(Qx07.C.dflt Ty.entry);ifb (decide (es.length<(1000000000:Nat))) (ifb (decide (idxF (fun p=>p.name==n) es≥0)) (ifb (inb (idxF (fun p=>p.name==n) es) es.length) (ifb (Qckx (es.getD (idxF (fun p=>p.name==n) es).toNat z0).fields) (ifb (inb (idxF (fun p=>p.name==n) es) (es.set (idxF (fun p=>p.name==n) es).toNat (Entry.mk (es.getD (idxF (fun p=>p.name==n) es).toNat z0).name [])).length) (ifb (decide ((idxF (fun p=>p.name==n) es).toNat=(idxF (fun p=>p.name==n) es).toNat)) (some (.ret (.agg [.own 0 [] 0,.own 1 [] 0,.sl .entry ((es.set (idxF (fun p=>p.name==n) es).toNat (Entry.mk (es.getD (idxF (fun p=>p.name==n) es).toNat z0).name [])).set (idxF (fun p=>p.name==n) es).toNat (Entry.mk ((es.set (idxF (fun p=>p.name==n) es).toNat (Entry.mk (es.getD (idxF (fun p=>p.name==n) es).toNat z0).name [])).getD (idxF (fun p=>p.name==n) es).toNat z0).name (Qul0 (es.getD (idxF (fun p=>p.name==n) es).toNat z0).fields (Fld.mk w m v))))]) [.row .kind ks 0 0 0 .no,.row .point ps 0 0 0 .no,.out])) none) none) none) none) (some (.go (Qu6t Qx07.fn 6) [.str n,.ptr 3 0,.ptr 4 0,.ptr 5 0,.int .i64 0] [.row .kind ks 0 0 0 .no,.row .point ps 0 0 0 .no,.row .entry es 1 0 0 .no,.box [.own 0 [] 0,.own 1 [] 0,.own 2 [] 0],.box [.int .i64 w,.int .i64 m,.str v],.box [.nils,.nils,.nils]]))) none:=by kernel_rfl
theorem Qdpk(x0:Str)(x1:Int)(x2:List (El .kind))(x3:List (El .point))(x4:List (El .entry))(x5:Int)(x6:Int)(x7:Str):aRun Qx07 600 true (Qu6t Qx07.fn 6) (cutSt Qx07.fn (Q1m4 Qx07 (Qu6t Qx07.fn 6)) [.str x0,.ptr 3 0,.ptr 4 0,.ptr 5 0,.int .i64 x1] [.row .kind x2 0 0 0 .no,.row .point x3 0 0 0 .no,.row .entry x4 1 0 0 .no,.box [.own 0 [] 0,.own 1 [] 0,.own 2 [] 0],.box [.int .i64 x5,.int .i64 x6,.str x7],.box [.nils,.nils,.nils]]) =
 let z1:=(↑x4.length:Int);let z2:=(List.drop (Int.toNat (0:Int)) x4);let z3:=(x1.toNat-Int.toNat (0:Int));let z4:=(140737488355328:Nat);let z0:=(ifb (decide ((0:Int)≤(0:Int))&&(decide (0≤x1)&&decide (x1≤z1))) (ifb (decide (((0:Nat)+(List.take z3 z2).length)*Qbhn Qx07.P (92:Nat)≤z4)) (ifb (decide ((([]++List.take z3 z2).length+[Entry.mk x0 [Fld.mk x5 x6 x7]].length)*Qbhn Qx07.P (92:Nat)≤z4)) (ifb (decide (0≤x1)&&(decide (x1≤z1)&&decide (z1≤z1))) (ifb (decide ((([]++List.take z3 z2++[Entry.mk x0 [Fld.mk x5 x6 x7]]).length+(List.take (z1.toNat-x1.toNat) (List.drop x1.toNat x4)).length)*Qbhn Qx07.P (92:Nat)≤z4)) none none) none) none) none) none);ifb (decide (x1<z1)) (ifb (inb x1 x4.length) (ifb (Q7zj (x4.getD x1.toNat (Qx07.C.dflt Ty.entry)).name x0) (some (.go (Qu6t Qx07.fn 6) [.str x0,.ptr 3 0,.ptr 4 0,.ptr 5 0,.int .i64 (IntKind.i64.wrap (x1+1))] [.row .kind x2 0 0 0 .no,.row .point x3 0 0 0 .no,.row .entry x4 1 0 0 .no,.box [.own 0 [] 0,.own 1 [] 0,.own 2 [] 0],.box [.int .i64 x5,.int .i64 x6,.str x7],.box [.nils,.nils,.nils]])) z0) none) z0:=by kernel_rfl
theorem c_spec_l13Put(ks:List Kind)(ps:List Point)(es:List Entry)(n:Str)(w m:Int)(v:Str)(hg:putOk es=true):Qewq Tryz.prog CP Q7kf [.agg [.own 0 [] 0,.own 1 [] 0,.own 2 [] 0],.str n,.agg [.int .i64 w,.int .i64 m,.str v]] [.row .kind ks 0 0 0 .no,.row .point ps 0 0 0 .no,.row .entry es 1 0 0 .no] (.agg [.own 0 [] 0,.own 1 [] 0,.sl .entry (putF es n ⟨w,m,v⟩)]) [.row .kind ks 0 0 0 .no,.row .point ps 0 0 0 .no,.out]:=by
 simp only[putOk,qaT,qdT]at hg
 obtain⟨g0,g1⟩:=hg
 by_cases h:0≤entIx es n
 ·refine Qewq.of Qi9q (by kernel_rfl) (Q9x4 ks ps es n w m v) ?_
  conv=>zeta
  have hm:=qlA.1 g1 _ (Qhwx h)
  simp only[Qytc,qaT,and_true]at hm
  have hi:=Qohw h
  have hi2:inb (entIx es n) (es.set (entIx es n).toNat (Entry.mk (es.getD (entIx es n).toNat (dfltP .entry)).name [])).length=true:=by rw[List.length_set];exact hi
  have hlt:(entIx es n).toNat<es.length:=by have h2:entIx es n<(es.length:Int):=Q1mf;omega
  rw[show decide (es.length<1000000000)=true from decide_eq_true g0,show decide (idxF (fun p=>p.name==n) es≥(0:Int))=true from decide_eq_true h]
  simp only[Qd8q]
  refine Sat.ifb (fun _=>Sat.ifb (fun _=>Sat.ifb (fun _=>Sat.ifb (fun _=>Sat.ret ?_ rfl) (fun e=>?_)) (fun e=>?_)) (fun e=>?_)) (fun e=>?_)
  ·rw[Q5v6 h,List.set_set]
   have hn:((es.set (entIx es n).toNat (Entry.mk (es.getD (entIx es n).toNat (dfltP .entry)).name [])).getD (entIx es n).toNat (dfltP .entry)).name=(es.getD (entIx es n).toNat (dfltP .entry)).name:=by
    rw[qgD,List.getElem?_set_self hlt];rfl
   exact congrArg (fun z=>(.agg [.own 0 [] 0,.own 1 [] 0,.sl .entry (es.set (entIx es n).toNat (Entry.mk z (Qul0 (es.getD (entIx es n).toNat (dfltP .entry)).fields ⟨w,m,v⟩)))]:AV Ty El)) hn
  ·simp at e
  ·exact absurd (hi2.symm.trans e) (by simp)
  ·exact absurd (hm.symm.trans e) (by simp)
  ·exact absurd (hi.symm.trans e) (by simp)
 ·have hc:=Q99y ks ps es n w m v (by simp only[qaT,qdT];exact⟨g0,by omega⟩)
  have hz:=Qewq.frz (r:=2) (d:=1) (d':=0) (T:=.entry) (xs:=es) CP_ok (H:=[.row .kind ks 0 0 0 .no,.row .point ps 0 0 0 .no,.row .entry es 1 0 0 .no]) (by simp) rfl (by omega) hc
  rw[Qk9v h]
  exact Qewq.drop CP_ok hz 2 (by simp) rfl rfl
theorem Qik7:EntOK Tryz.prog CP Q7kf Q8fw:=by
 refine⟨eob (by kernel_rfl),fun _ _ _ _ h=>?_⟩
 simp only[Q8fw]at h
 split at h
 ·obtain⟨hg,rfl,rfl⟩:=eoh h
  exact c_spec_l13Put _ _ _ _ _ _ _ hg
 ·cases h
end Lx
namespace Lx
open Go Go.Proofs
theorem Q3ut{ks:List Kind}{ps:List Point}{w:Int}{v:Str}(h:fitsV ks ps w v=true):1≤w∧w≤5:=by
 unfold fitsV at h
 split at h
 ·omega
 ·split at h
  ·omega
  ·split at h
   ·omega
   ·split at h
    ·omega
    ·split at h
     ·omega
     ·cases h
theorem Qd0v{ks:List Kind}{ps:List Point}{n:Str}:∀(fs:List Fld) (q:Int),Qt03 ks ps n (some q) fs=true→q≤5→(fs.length:Int)+q≤5
 | [],q,_,h=>by simpa using h
 | f::fs,q,h,hq=>by
  simp only[Qt03,Qh2h,qaT,qdT]at h
  obtain⟨⟨_,_,h1⟩,h2,h3⟩:=h
  have h4:=Q3ut h1
  have:=Qd0v fs f.what h3 h4.2
  simp only[List.length_cons];omega
theorem Q0bt{ks:List Kind}{ps:List Point}{e:Entry}(h:Q7i7 ks ps e=true):e.fields.length≤5:=by
 simp only[Q7i7,qaT]at h
 obtain⟨_,_,h⟩:=h
 cases hf:e.fields with
 | nil=>simp
 | cons f fs =>
  rw[hf]at h
  simp only[Qt03,Qh2h,qaT,qdT]at h
  obtain⟨⟨_,_,h1⟩,_,h3⟩:=h
  have h4:=Q3ut h1
  have:=Qd0v fs f.what h3 h4.2
  simp only[List.length_cons];omega
theorem Qmra{ks:List Kind}{ps:List Point}:∀(es:List Entry) (q:Option Str),Qgea ks ps q es=true→∀e∈es,Q7i7 ks ps e=true
 | [],_,_,e,he=>by cases he
 | x::es,q,h,e,he=>by
  simp only[Qgea,qaT]at h
  rcases List.mem_cons.1 he with rfl|he
  ·exact h.1
  ·exact Qmra es _ h.2.2 e he
theorem Qm34{ks:List Kind}{ps:List Point}{es:List Entry}(h:Qn0o ks ps es=true):es.length≤12∧∀e∈es,e.fields.length≤5:=by
 simp only[Qn0o,qaT,qdT]at h
 exact⟨h.2.1,fun e he=>Q0bt (Qmra es _ h.2.2 e he)⟩
theorem Qcx7(f:Fld):∀l:List Fld,(Qul0 l f).length≤l.length+1
 | []=>by simp[Qul0]
 | g::r=>by
  have:=Qcx7 f r
  unfold Qul0
  split
  ·simp only[List.length_cons];omega
  ·split
   ·split<;>simp
   ·simp
theorem Q0pd(f:Fld):∀(l:List Fld) (x:Fld),x∈Qul0 l f→x=f∨x∈l
 | [],x,h=>by simp[Qul0]at h;exact .inl h
 | g::r,x,h=>by
  have ih:=Q0pd f r x
  unfold Qul0 at h
  split at h
  ·rcases List.mem_cons.1 h with h|h
   ·exact .inr (h▸List.mem_cons_self ..)
   ·exact(ih h).imp id (List.mem_cons_of_mem _)
  ·split at h
   ·split at h
    ·rcases List.mem_cons.1 h with h|h
     ·exact .inl h
     ·exact .inr (List.mem_cons_of_mem _ h)
    ·exact .inr h
   ·rcases List.mem_cons.1 h with h|h
    ·exact .inl h
    ·exact .inr h
theorem Q7l0(n:Str)(f:Fld):∀es:List Entry,(insE es n f).length=es.length+1
 | []=>rfl
 | e::r=>by
  unfold insE
  split
  ·simp[Q7l0 n f r]
  ·simp
theorem Qwpl(n:Str)(f:Fld):∀(es:List Entry) (x:Entry),x∈insE es n f→x=⟨n,[f]⟩∨x∈es
 | [],x,h=>by simp[insE]at h;exact .inl h
 | e::r,x,h=>by
  unfold insE at h
  split at h
  ·rcases List.mem_cons.1 h with h|h
   ·exact .inr (h▸List.mem_cons_self ..)
   ·exact(Qwpl n f r x h).imp id (List.mem_cons_of_mem _)
  ·rcases List.mem_cons.1 h with h|h
   ·exact .inl h
   ·exact .inr h
def goodB(ks:List Kind)(ps:List Point)(es:List Entry):Bool:=szB es&&Q8cx ks ps es
theorem Q5pc{ks:List Kind}{ps:List Point}{es:List Entry}{n:Str}{w m:Int}{v:Str}(hb:Qn0o ks ps es=true)(hg:goodB ks ps es=true)(hv:szV v=true):putOk es=true∧goodB ks ps (putF es n ⟨w,m,v⟩)=true:=by
 obtain⟨h1,h2⟩:=Qm34 hb
 simp only[goodB,szB,Q8cx,Qnwa,qaT,qdT,and_true]at hg
 obtain⟨⟨_,hz⟩,hk,hp,_,ht⟩:=hg
 refine⟨?_, ?_⟩
 ·simp only[putOk,qaT,qdT];exact⟨by omega,ht⟩
 have hlen:(putF es n ⟨w,m,v⟩).length≤13:=by
  unfold putF
  split
  ·rw[List.length_set];omega
  ·rw[Q7l0];omega
 have hall:∀x∈putF es n ⟨w,m,v⟩,x.fields.length≤6∧∀f∈x.fields,szV f.value=true:=by
  have old:∀x∈es,x.fields.length≤6∧∀f∈x.fields,szV f.value=true:=fun x hx=>by
   have hz1:=qlA.1 hz x hx
   simp only[szE,qaT,qdT]at hz1
   exact⟨Nat.le_succ_of_le (h2 x hx),fun f hf=>qlA.1 hz1.2 f hf⟩
  intro x hx
  unfold putF at hx
  split at hx
  ·rename_i h0
   have hm:=Qhwx h0
   rcases List.mem_or_eq_of_mem_set hx with hx|rfl
   ·exact old x hx
   ·refine⟨Nat.le_trans (Qcx7 _ _) (Nat.succ_le_succ (h2 _ hm)),fun f hf=>?_⟩
    rcases Q0pd _ _ _ hf with rfl|hf
    ·exact hv
    ·exact(old _ hm).2 f hf
  ·rcases Qwpl _ _ _ _ hx with rfl|hx
   ·exact⟨by simp,fun f hf=>by simp at hf;subst hf;exact hv⟩
   ·exact old x hx
 simp only[goodB,szB,Q8cx,Qnwa,qaT,qdT,and_true]
 refine⟨⟨by omega,qlA.2 fun x hx=>?_⟩,hk,hp,by omega,qlA.2 fun x hx=>?_⟩
 ·simp only[szE,qaT,qdT]
  exact⟨by have:=(hall x hx).1;omega,qlA.2 fun f hf=>(hall x hx).2 f hf⟩
 ·simp only[Qytc,Qckx,qaT,qdT,and_true]
  have:=(hall x hx).1;omega
theorem Qk6a{ks:List Kind}{ps:List Point}{es:List Entry}{c:Chg}(hg:goodB ks ps es=true)(hv:szV c.value=true):goodB (takeF ks ps es c).ks (takeF ks ps es c).ps (takeF ks ps es c).es=true:=by
 unfold takeF
 split
 ·rename_i hb
  split
  ·split
   ·exact hg
   ·exact(Q5pc hb hg hv).2
  ·exact hg
 ·rfl
def Q8t5:Ent Ty El:=⟨[.ro,.ro],0,fun a h=>match a,h with
 | [.agg [.sl .kind ks,.sl .point ps,.sl .entry es],.agg [.str fl,.int .i64 w,.int .i64 m,.str v]],[] =>
  some (goodB ks ps es&&szV v,.tup [.agg [.sl .kind (takeF ks ps es ⟨fl,w,m,v⟩).ks,.sl .point (takeF ks ps es ⟨fl,w,m,v⟩).ps,.sl .entry (takeF ks ps es ⟨fl,w,m,v⟩).es],.int .i64 (takeF ks ps es ⟨fl,w,m,v⟩).code],[])
 | _,_=>none⟩
end Lx
namespace Lx
open Go Go.Proofs
noncomputable def Q1yo:RE Ty El:=⟨Tryz.prog,CP,[(Qdfk,Q124),(Qfx9,Qc1o),(Qvuj,Quoo),(Q4v9,Qf4o),(Q7kf,Q8fw)],Tryz.f46,0,[.agg [.ro .kind,.ro .point,.ro .entry],.any],[]⟩
theorem Q7wy:REOK Q1yo Qbeb:=⟨CP_ok,(TabOK.cons Q8cq (TabOK.cons Qaka (TabOK.cons Q336 (TabOK.cons Q9x2 (TabOK.cons Qik7 Qye1))))),by kernel_rfl,by kernel_rfl⟩
theorem Qcwp(ks:List Kind)(ps:List Point)(es:List Entry)(fl:Str)(w m:Int)(v:Str):aRun Q1yo 600 false (body0 Q1yo.fn) (Q4gm Q1yo.fn [.agg [.sl .kind ks,.sl .point ps,.sl .entry es],.agg [.str fl,.int .i64 w,.int .i64 m,.str v]] []) =
 let z0:OL:=(some (.ret (.tup [.agg [.sl .kind ks,.sl .point ps,.sl .entry (putF es fl (Fld.mk w m v))],.int .i64 0]) []));let z1:=(ifb (putOk es) (ifb (Q8cx ks ps (putF es fl (Fld.mk w m v))) z0 none) none);ifb (szB es) (ifb (!Qn0o ks ps es) (some (.ret (.tup [.agg [.sl .kind [],.sl .point [],.sl .entry []],.int .i64 1]) [])) (ifb (Q8cx ks ps es) (ifb (szV v) (ifb (!(Q2rq fl&&(inR m (1:Int) (1000000:Int)&&(Qib4 ks ps&&fitsV ks ps w v)))) (some (.ret (.tup [.agg [.sl .kind ks,.sl .point ps,.sl .entry es],.int .i64 2]) [])) (ifb (decide (es.length<(1000000000:Nat))) (ifb (decide (idxF (fun p=>p.name==fl) es<0)) (ifb (decide ((↑es.length:Int)≥(12:Int))) (some (.ret (.tup [.agg [.sl .kind ks,.sl .point ps,.sl .entry es],.int .i64 3]) [])) z1) z1) none)) none) none)) none:=by kernel_rfl
theorem Qolj(ks:List Kind)(ps:List Point)(es:List Entry)(fl:Str)(w m:Int)(v:Str)(hg:(goodB ks ps es&&szV v)=true):Qewq Tryz.prog CP Qbeb [.agg [.sl .kind ks,.sl .point ps,.sl .entry es],.agg [.str fl,.int .i64 w,.int .i64 m,.str v]] [] (.tup [.agg [.sl .kind (takeF ks ps es ⟨fl,w,m,v⟩).ks,.sl .point (takeF ks ps es ⟨fl,w,m,v⟩).ps,.sl .entry (takeF ks ps es ⟨fl,w,m,v⟩).es],.int .i64 (takeF ks ps es ⟨fl,w,m,v⟩).code]) []:=by
 refine Qewq.of Q7wy (by kernel_rfl) (Qcwp ks ps es fl w m v) ?_
 conv=>zeta
 simp only[qaT]at hg
 obtain⟨g0,g1⟩:=hg
 have g2:=g0
 simp only[goodB,qaT]at g2
 rw[g2.1,g2.2,g1]
 simp only[Qd8q]
 cases hb:Qn0o ks ps es with
 | false =>
  simp only[Bool.not_false,Qd8q]
  rw[takeF,if_neg (by simp[hb])]
  exact Sat.ret rfl rfl
 | true =>
  simp only[Bool.not_true,Qk7y]
  obtain⟨h1,_⟩:=Qm34 hb
  obtain⟨p1,p2⟩:=Q5pc (n:=fl) (w:=w) (m:=m) hb g0 g1
  simp only[goodB,qaT]at p2
  rw[takeF,if_pos hb]
  cases hc:Qs7k ks ps ⟨fl,w,m,v⟩ with
  | false =>
   rw[show(Q2rq fl&&(inR m 1 1000000&&(Qib4 ks ps&&fitsV ks ps w v)))=false from hc]
   rw[if_neg (by simp)]
   exact Sat.ret rfl rfl
  | true =>
   rw[show(Q2rq fl&&(inR m 1 1000000&&(Qib4 ks ps&&fitsV ks ps w v)))=true from hc,show decide (es.length<1000000000)=true from decide_eq_true (by omega),p1,p2.2]
   simp only[Bool.not_true,Qd8q,Qk7y,if_true]
   by_cases h2:entIx es fl<0
   ·rw[show decide (idxF (fun p=>p.name==fl) es<(0:Int))=true from decide_eq_true h2]
    by_cases h3:12≤es.length
    ·rw[show decide ((es.length:Int)≥12)=true from decide_eq_true (by omega),if_pos ⟨h2,h3⟩]
     exact Sat.ret rfl rfl
    ·rw[show decide ((es.length:Int)≥12)=false from decide_eq_false (by omega),if_neg (fun h=>h3 h.2)]
     exact Sat.ret rfl rfl
   ·rw[show decide (idxF (fun p=>p.name==fl) es<(0:Int))=false from decide_eq_false h2,if_neg (fun h=>h2 h.1)]
    exact Sat.ret rfl rfl
theorem Q2a7:EntOK Tryz.prog CP Qbeb Q8t5:=by
 refine⟨eob (by kernel_rfl),fun _ _ _ _ h=>?_⟩
 simp only[Q8t5]at h
 split at h
 ·obtain⟨hg,rfl,rfl⟩:=eoh h
  exact Qolj _ _ _ _ _ _ _ hg
 ·cases h
end Lx
namespace Lx
open Go Go.Proofs
def Qtv6(q:Option Int)(w:Int):Bool:=match q with
 | none=>true
 | some q=>decide (q<w)
theorem Qg5r{ks:List Kind}{ps:List Point}{n:Str}{q:Option Int}{f:Fld}{l:List Fld}:Qt03 ks ps n q (f::l)=(Qh2h ks ps n f.what f.number f.value&&(Qtv6 q f.what&&Qt03 ks ps n (some f.what) l)):=by
 cases q<;>rfl
theorem Qiqk{ks:List Kind}{ps:List Point}{n:Str}{f:Fld}(hf:Qh2h ks ps n f.what f.number f.value=true):∀(l:List Fld) (q:Option Int),Qt03 ks ps n q l=true→Qtv6 q f.what=true→Qt03 ks ps n q (Qul0 l f)=true
 | [],q,_,hq=>by simp only[Qul0,Qg5r,hf,hq,Bool.true_and];rfl
 | g::r,q,h,hq=>by
  have h0:=h
  simp only[Qg5r,qaT]at h
  obtain⟨h1,h2,h3⟩:=h
  unfold Qul0
  split
  ·rename_i hlt
   simp only[Qg5r,h1,h2,Bool.true_and]
   exact Qiqk hf r (some g.what) h3 (decide_eq_true hlt)
  ·split
   ·rename_i hne he
    split
    ·simp only[Qg5r,hf,hq,Bool.true_and]
     rw[←he];exact h3
    ·exact h0
   ·rename_i hlt hne
    simp only[Qg5r,hf,hq,h1,h3,Bool.true_and,Bool.and_true]
    exact decide_eq_true (by omega)
theorem Quu1{ks:List Kind}{ps:List Point}{x:Entry}(hx:Q7i7 ks ps x=true):∀(es:List Entry) (i:Nat) (q:Option Str),Qgea ks ps q es=true→(∀e,es[i]? = some e→x.name=e.name)→Qgea ks ps q (es.set i x)=true
 | [],_,_,_,_=>rfl
 | e::r,0,q,h,hn=>by
  simp only[Qgea,qaT]at h
  simp only[List.set_cons_zero,Qgea,qaT,hn e rfl]
  exact⟨hx,h.2.1,h.2.2⟩
 | e::r,i+1,q,h,hn=>by
  simp only[Qgea,qaT]at h
  simp only[List.set_cons_succ,Qgea,qaT]
  exact⟨h.1,h.2.1,Quu1 hx r i _ h.2.2 (fun e' he'=>hn e' (by simpa using he'))⟩
theorem Qe48{ks:List Kind}{ps:List Point}{n:Str}{f:Fld}(hx:Q7i7 ks ps ⟨n,[f]⟩=true):∀(es:List Entry) (q:Option Str),Qgea ks ps q es=true→Qe7t q n=true→(∀e∈es,e.name≠n)→Qgea ks ps q (insE es n f)=true
 | [],q,_,hq,_=>by simp only[insE,Qgea,hx,hq,Bool.true_and]
 | e::r,q,h,hq,hn=>by
  simp only[Qgea,qaT]at h
  unfold insE
  split
  ·rename_i hlt
   simp only[Qgea,qaT]
   exact⟨h.1,h.2.1,Qe48 hx r _ h.2.2 hlt (fun e' he'=>hn e' (List.mem_cons_of_mem _ he'))⟩
  ·rename_i hlt
   simp only[Qgea,qaT]
   refine⟨hx,hq,h.1, ?_,h.2.2⟩
   have h1:=le_lt n e.name
   have h2:Q7zj e.name n=false:=by simpa using hlt
   have h3:(n==e.name)=false:=by
    have:=hn e (List.mem_cons_self ..)
    simp only[beq_eq_false_iff_ne];exact fun e'=>this e'.symm
   rw[h2,h3,Bool.or_false]at h1
   exact h1
theorem Q853{es:List Entry}{n:Str}(h:entIx es n<0):∀e∈es,e.name≠n:=by
 intro e he hn
 unfold entIx idxF at h
 split at h
 ·omega
 ·rename_i hf
  have:=List.findIdx?_eq_none_iff.1 hf e he
  simp[hn]at this
theorem Qn0g{es:List Entry}{n:Str}(h:0≤entIx es n):∀e,es[(entIx es n).toNat]? = some e→e.name=n:=by
 intro e he
 unfold entIx idxF at h he
 split at h
 ·rename_i i hf
  rw[hf]at he
  obtain⟨hlt,hp,_⟩:=List.findIdx?_eq_some_iff_getElem.1 hf
  simp only[Int.toNat_natCast,qeG hlt,qsI]at he
  subst he
  simpa using hp
 ·omega
theorem Qz8z{ks:List Kind}{ps:List Point}{es:List Entry}{c:Chg}(hb:Qn0o ks ps es=true)(hc:Qs7k ks ps c=true)(hl:¬(entIx es c.flight<0∧12≤es.length)):Qn0o ks ps (putF es c.flight ⟨c.what,c.number,c.value⟩)=true:=by
 simp only[Qn0o,qaT,qdT]at hb
 obtain⟨hb0,hb1,hb2⟩:=hb
 simp only[Qs7k,qaT]at hc
 obtain⟨c1,c2,_,c3⟩:=hc
 have hcv:Qh2h ks ps c.flight c.what c.number c.value=true:=by simp only[Qh2h,c1,c2,c3,Bool.and_true]
 simp only[Qn0o,qaT,qdT]
 refine⟨hb0, ?_⟩
 by_cases h:0≤entIx es c.flight
 ·rw[Q5v6 h]
  refine⟨by rw[List.length_set];exact hb1, ?_⟩
  have hlt:(entIx es c.flight).toNat<es.length:=by have h2:entIx es c.flight<(es.length:Int):=Q1mf;omega
  have hat:es[(entIx es c.flight).toNat]? = some (es.getD (entIx es c.flight).toNat (dfltP .entry)):=by rw[qgD,qeG hlt];rfl
  have hm:=Qhwx h
  have hn:=Qn0g h _ hat
  have ho:=Qmra es _ hb2 _ hm
  generalize es.getD (entIx es c.flight).toNat (dfltP .entry)=e at *
  refine Quu1 ?_ es _ none hb2 (fun e' he'=>by rw[hat]at he';simp only[qsI]at he';rw[←he'])
  simp only[Q7i7,qaT]at ho ⊢
  refine⟨ho.1, ?_,Qiqk (n:=e.name) (by rw[hn];exact hcv) _ none ho.2.2 rfl⟩
  cases e.fields with
  | nil=>simp[Qul0]
  | cons g r =>
   unfold Qul0
   split
   ·simp
   ·split
    ·split<;>simp
    ·simp
 ·rw[Qk9v h]
  refine⟨?_,Qe48 ?_ es none hb2 rfl (Q853 (by omega))⟩
  ·rw[Q7l0]
   have:¬12≤es.length:=fun h12=>hl ⟨by omega,h12⟩
   omega
  ·simp only[Q7i7,Qt03,c1,hcv,Bool.true_and,Bool.and_true];rfl
theorem Qdgy{ks:List Kind}{ps:List Point}{es:List Entry}{c:Chg}(hb:Qn0o ks ps es=true):(takeF ks ps es c).ks=ks∧(takeF ks ps es c).ps=ps∧Qn0o ks ps (takeF ks ps es c).es=true:=by
 unfold takeF
 rw[if_pos hb]
 split
 ·rename_i hc
  split
  ·exact⟨rfl,rfl,hb⟩
  ·rename_i hl
   exact⟨rfl,rfl,Qz8z hb hc hl⟩
 ·exact⟨rfl,rfl,hb⟩
def goodE(ks:List Kind)(ps:List Point)(es:List Entry):Bool:=Qn0o ks ps es&&goodB ks ps es
theorem Qy7k{ks:List Kind}{ps:List Point}{es:List Entry}{c:Chg}(h:goodE ks ps es=true)(hv:szV c.value=true):(takeF ks ps es c).ks=ks∧(takeF ks ps es c).ps=ps∧goodE ks ps (takeF ks ps es c).es=true:=by
 simp only[goodE,qaT]at h ⊢
 obtain⟨h1,h2,h3⟩:=Qdgy (c:=c) h.1
 have h4:=Qk6a (c:=c) h.2 hv
 rw[h1,h2]at h4
 exact⟨h1,h2,h3,h4⟩
end Lx
namespace Lx
open Go Go.Proofs
theorem Q9yw:∀a b:Str,Lib.compareBytes a b<0↔Q7zj a b=true
 | [],[]=>by simp[Lib.compareBytes,Q7zj]
 | [],b::y=>by simp[Lib.compareBytes,Q7zj]
 | a::x,[]=>by simp[Lib.compareBytes,Q7zj]
 | a::x,b::y=>by
  have ih:=Q9yw x y
  simp only[Lib.compareBytes,Q7zj,Bool.or_eq_true,qaT,qdT,beq_iff_eq]
  by_cases h1:a<b
  ·simp[h1]
  ·rw[if_neg h1]
   by_cases h2:b<a
   ·rw[if_pos h2]
    have:a≠b:=fun e=>by subst e;exact h1 h2
    simp[h1,this]
   ·rw[if_neg h2,ih]
    have:a=b:=by
     rw[UInt8.lt_iff_toNat_lt]at h1 h2
     exact UInt8.toNat_inj.1 (by omega)
    simp[h1,this]
theorem Qqw5:∀a:Str,Q7zj a a=false
 | []=>rfl
 | a::x=>by simp[Q7zj,Qqw5 x]
theorem Qi83{a b:Str}(h:Q7zj a b=true):Q7zj b a=false:=by
 have:=le_lt a b
 rw[h,Bool.true_or]at this
 simpa using this.symm
theorem lt_trans:∀{a b c:Str},Q7zj a b=true→Q7zj b c=true→Q7zj a c=true
 | a,[],c,h1,h2=>by cases a<;>simp[Q7zj]at h1
 | a,b::y,[],h1,h2=>by simp[Q7zj]at h2
 | [],b::y,c::z,h1,h2=>rfl
 | a::x,b::y,c::z,h1,h2=>by
  simp only[Q7zj,Bool.or_eq_true,qaT,qdT,beq_iff_eq]at h1 h2 ⊢
  rcases h1 with h1|⟨rfl,h1⟩<;>rcases h2 with h2|⟨rfl,h2⟩
  ·left;rw[UInt8.lt_iff_toNat_lt]at *;omega
  ·exact .inl h1
  ·exact .inl h2
  ·exact .inr ⟨rfl,lt_trans h1 h2⟩
theorem Qj9t(a b:Str)(h1:Q7zj a b=false)(h2:Q7zj b a=false):a=b:=by
 have:=le_lt a b
 rw[h1,h2]at this
 simpa using this
theorem Qgb6{α:Type}[Inhabited α](key:α→Str):Go.Sort.SWO (fun x y:α=>Q7zj (key x) (key y)) :=
 ⟨fun x=>Qqw5 _,fun x y z=>lt_trans,fun x y z h1 h2=>by
  by_cases h3:Q7zj (key y) (key x)=true
  ·by_cases h4:Q7zj (key z) (key y)=true
   ·exact Qi83 (lt_trans h4 h3)
   ·have e:=Qj9t (key y) (key z) h2 (by simpa using h4)
    rw[←e];exact h1
  ·have e:=Qj9t (key x) (key y) h1 (by simpa using h3)
   rw[e];exact h2⟩
theorem Qy04{α:Type}[Inhabited α](key:α→Int):Go.Sort.SWO (fun x y:α=>decide (key x<key y)) :=
 ⟨fun x=>by simp,fun x y z h1 h2=>by simp only[qdT]at *;omega,fun x y z h1 h2=>by simp only[decide_eq_false_iff_not]at *;omega⟩
theorem Qrj0{α β:Type}(key:α→β):∀{l:List α},l.Pairwise (fun a b=>key a≠key b)→∀{a b:α},a∈l→b∈l→key a=key b→a=b
 | [],_,a,b,ha,_,_=>by cases ha
 | x::l,h,a,b,ha,hb,he=>by
  rw[List.pairwise_cons]at h
  rcases List.mem_cons.1 ha with h1|h1
  ·rcases List.mem_cons.1 hb with h2|h2
   ·rw[h1,h2]
   ·exact absurd (by rw[←h1];exact he) (h.1 b h2)
  ·rcases List.mem_cons.1 hb with h2|h2
   ·exact absurd (by rw[←h2];exact he.symm) (h.1 a h1)
   ·exact Qrj0 key h.2 h1 h2 he
theorem Qhss{α:Type}(key:α→Str){zs ms:List α}(hm:ms.Pairwise fun a b=>Q7zj (key a) (key b)=true)(hp:zs.Perm ms)(hz:zs.Pairwise fun a b=>¬Lib.compareBytes (key b) (key a)<0):zs=ms:=by
 have ne:ms.Pairwise fun a b=>key a≠key b:=hm.imp (fun {a b} h e=>by rw[e,Qqw5]at h;cases h)
 refine hp.eq_of_pairwise (le:=fun a b=>¬Lib.compareBytes (key b) (key a)<0) (fun a b ha hb h1 h2=>?_) hz (hm.imp fun {a b} h h2=>?_)
 ·rw[Q9yw]at h1 h2
  exact Qrj0 key ne (hp.mem_iff.1 ha) hb (Qj9t _ _ (by simpa using h2) (by simpa using h1))
 ·rw[Q9yw]at h2
  rw[Qi83 h]at h2;cases h2
theorem Qush{α:Type}(key:α→Int){zs ms:List α}(hm:ms.Pairwise fun a b=>key a<key b)(hp:zs.Perm ms)(hz:zs.Pairwise fun a b=>¬key b<key a):zs=ms:=by
 have ne:ms.Pairwise fun a b=>key a≠key b:=hm.imp (fun {a b} h e=>by omega)
 refine hp.eq_of_pairwise (le:=fun a b=>¬key b<key a) (fun a b ha hb h1 h2=>?_) hz (hm.imp fun {a b} h h2=>?_)
 ·exact Qrj0 key ne (hp.mem_iff.1 ha) hb (by omega)
 ·omega
theorem Q2xh(n:Str)(f:Fld):∀es:List Entry,(insE es n f).Perm (es++[⟨n,[f]⟩])
 | []=>.refl _
 | e::r=>by
  unfold insE
  split
  ·exact(Q2xh n f r).cons e
  ·exact(List.perm_append_comm (l₁:=[⟨n,[f]⟩]) (l₂:=e::r))
theorem Q4rf{ks:List Kind}{ps:List Point}:∀{es:List Entry} {m:Str},Qgea ks ps (some m) es=true→∀e∈es,Q7zj m e.name=true
 | [],m,_,e,he=>by cases he
 | a::r,m,h,e,he=>by
  simp only[Qgea,qaT]at h
  rcases List.mem_cons.1 he with rfl|he
  ·exact h.2.1
  ·exact lt_trans h.2.1 (Q4rf h.2.2 e he)
theorem Q90k{ks:List Kind}{ps:List Point}:∀{es:List Entry} {q:Option Str},Qgea ks ps q es=true→es.Pairwise fun a b=>Q7zj a.name b.name=true
 | [],_,_=>.nil
 | a::r,q,h=>by
  simp only[Qgea,qaT]at h
  exact List.pairwise_cons.2 ⟨Q4rf h.2.2,Q90k h.2.2⟩
theorem Qncy(n:Str)(f:Fld):∀{es:List Entry},(es.Pairwise fun a b=>Q7zj a.name b.name=true)→(∀e∈es,e.name≠n)→(insE es n f).Pairwise fun a b=>Q7zj a.name b.name=true
 | [],_,_=>by simp[insE]
 | e::r,h,hn=>by
  rw[List.pairwise_cons]at h
  unfold insE
  split
  ·rename_i hlt
   refine List.pairwise_cons.2 ⟨fun x hx=>?_,Qncy n f h.2 (fun e' he'=>hn e' (List.mem_cons_of_mem _ he'))⟩
   rcases Qwpl _ _ _ _ hx with rfl|hx
   ·exact hlt
   ·exact h.1 x hx
  ·rename_i hlt
   have h1:Q7zj n e.name=true:=by
    cases h2:Q7zj n e.name with
    | true=>rfl
    | false=>exact absurd (Qj9t _ _ (by simpa using hlt) h2) (hn e (List.mem_cons_self ..))
   refine List.pairwise_cons.2 ⟨fun x hx=>?_,List.pairwise_cons.2 h⟩
   rcases List.mem_cons.1 hx with rfl|hx
   ·exact h1
   ·exact lt_trans h1 (h.1 x hx)
theorem Qbw4{es:List Entry}{n:Str}{f:Fld}(hs:es.Pairwise fun a b=>Q7zj a.name b.name=true)(hn:∀e∈es,e.name≠n){zs:List Entry}(hp:zs.Perm (es++[⟨n,[f]⟩]))(hz:zs.Pairwise fun a b=>¬Lib.compareBytes b.name a.name<0):zs=insE es n f :=
 Qhss Entry.name (Qncy n f hs hn) (hp.trans (Q2xh n f es).symm) hz
def Qvhg(l:List Fld):Prop:=l.Pairwise fun a b=>a.what<b.what
theorem Qc5h{ks:List Kind}{ps:List Point}{n:Str}:∀{l:List Fld} {q:Int},Qt03 ks ps n (some q) l=true→∀f∈l,q<f.what
 | [],q,_,f,hf=>by cases hf
 | a::r,q,h,f,hf=>by
  simp only[Qg5r,Qtv6,qaT,qdT]at h
  rcases List.mem_cons.1 hf with rfl|hf
  ·exact h.2.1
  ·have:=Qc5h h.2.2 f hf;omega
theorem Qh2w{ks:List Kind}{ps:List Point}{n:Str}:∀{l:List Fld} {q:Option Int},Qt03 ks ps n q l=true→Qvhg l
 | [],_,_=>.nil
 | a::r,q,h=>by
  simp only[Qg5r,qaT]at h
  exact List.pairwise_cons.2 ⟨Qc5h h.2.2,Qh2w h.2.2⟩
theorem Qk3m(f:Fld):∀{l:List Fld},(∀g∈l,g.what≠f.what)→(Qul0 l f).Perm (l++[f])
 | [],_=>.refl _
 | g::r,h=>by
  unfold Qul0
  split
  ·exact(Qk3m f (fun g hg=>h g (List.mem_cons_of_mem _ hg))).cons g
  ·rw[if_neg (h g (List.mem_cons_self ..))]
   exact(List.perm_append_comm (l₁:=[f]) (l₂:=g::r))
theorem Q0fd(f:Fld):∀{l:List Fld},Qvhg l→Qvhg (Qul0 l f)
 | [],_=>by simp[Qul0,Qvhg]
 | g::r,h=>by
  have h0:=h
  unfold Qvhg at h
  rw[List.pairwise_cons]at h
  unfold Qul0
  split
  ·rename_i hlt
   refine List.pairwise_cons.2 ⟨fun x hx=>?_,Q0fd f h.2⟩
   rcases Q0pd _ _ _ hx with rfl|hx
   ·exact hlt
   ·exact h.1 x hx
  ·split
   ·rename_i he
    split
    ·exact List.pairwise_cons.2 ⟨fun x hx=>by rw[←he];exact h.1 x hx,h.2⟩
    ·exact h0
   ·refine List.pairwise_cons.2 ⟨fun x hx=>?_,h0⟩
    rcases List.mem_cons.1 hx with rfl|hx
    ·omega
    ·have:=h.1 x hx;omega
theorem Qbxf{l:List Fld}{f:Fld}(hs:Qvhg l)(hn:∀g∈l,g.what≠f.what){zs:List Fld}(hp:zs.Perm (l++[f]))(hz:zs.Pairwise fun a b=>¬b.what<a.what):zs=Qul0 l f :=
 Qush Fld.what (Q0fd f hs) (hp.trans (Qk3m f hn).symm) hz
theorem Qlnx{f:Fld}:∀{l:List Fld} {k:Nat} (hk:k<l.length),Qvhg l→l[k].what=f.what→Qul0 l f=if Fld.later f l[k]=true then l.set k f else l
 | g::r,0,hk,hs,he=>by
  simp only[List.getElem_cons_zero]at he ⊢
  rw[Qul0,if_neg (by omega),if_pos he]
  split<;>rfl
 | g::r,k+1,hk,hs,he=>by
  unfold Qvhg at hs
  rw[List.pairwise_cons]at hs
  simp only[List.getElem_cons_succ]at he ⊢
  have hk':k<r.length:=by simpa using hk
  have hlt:g.what<f.what:=by rw[←he];exact hs.1 _ (List.getElem_mem hk')
  rw[Qp68 hlt,Qlnx hk' hs.2 he]
  split<;>rfl
end Lx
namespace Lx
open Go Go.Proofs
def putS:List Entry→Str→Fld→List Entry
 | [],n,f=>[⟨n,[f]⟩]
 | e::r,n,f=>if e.name=n then ⟨e.name,Qul0 e.fields f⟩::r else if Q7zj e.name n=true then e::putS r n f else ⟨n,[f]⟩::e::r
def Qurt(es:List Entry):Prop:=es.Pairwise fun a b=>Q7zj a.name b.name=true
theorem Q6v6(e:Entry)(r:List Entry)(n:Str):entIx (e::r) n=if e.name=n then 0 else if 0≤entIx r n then entIx r n+1 else -1:=by
 unfold entIx idxF
 rw[List.findIdx?_cons]
 by_cases h:e.name=n
 ·simp[h]
 ·have h2:(e.name==n)=false:=by simpa using h
  rw[h2,if_neg h]
  cases r.findIdx? (fun e=>e.name==n)<;>simp
theorem Qsz7:∀{es:List Entry} (n:Str) (f:Fld),Qurt es→putF es n f=putS es n f
 | [],n,f,_=>rfl
 | e::r,n,f,hs=>by
  unfold Qurt at hs
  rw[List.pairwise_cons]at hs
  have ih:=Qsz7 (es:=r) n f hs.2
  unfold putS
  by_cases h:e.name=n
  ·have:entIx (e::r) n=0:=by rw[Q6v6,if_pos h]
   rw[if_pos h,Q5v6 (by omega),this];rfl
  ·rw[if_neg h]
   by_cases h0:0≤entIx r n
   ·have hix:entIx (e::r) n=entIx r n+1:=by rw[Q6v6,if_neg h,if_pos h0]
    have hm:=Qhwx h0
    have hlt:(entIx r n).toNat<r.length:=by have h2:entIx r n<(r.length:Int):=Q1mf;omega
    have hnm:=Qn0g h0 (r.getD (entIx r n).toNat (dfltP .entry)) (by rw[qgD,qeG hlt];rfl)
    have hl:=hs.1 _ hm
    rw[hnm]at hl
    rw[if_pos hl,Q5v6 (by omega),hix,←ih,Q5v6 h0,show(entIx r n+1).toNat=(entIx r n).toNat+1 by omega]
    rfl
   ·have hix:¬0≤entIx (e::r) n:=by rw[Q6v6,if_neg h,if_neg h0];omega
    rw[Qk9v hix]
    unfold insE
    rw[←ih,Qk9v h0]
def lk(es:List Entry)(n:Str)(w:Int):Option Fld:=(es.find? fun e=>e.name==n).bind fun e=>e.fields.find? fun f=>f.what==w
def mx(o:Option Fld)(f:Fld):Fld:=match o with
 | none=>f
 | some g=>if Fld.later f g=true then f else g
theorem Qqae(f:Fld)(w:Int):∀{l:List Fld},Qvhg l→(Qul0 l f).find? (fun g=>g.what==w)=if w=f.what then some (mx (l.find? fun g=>g.what==w) f) else l.find? fun g=>g.what==w
 | [],_=>by
  by_cases h:w=f.what
  ·subst h;simp[Qul0,mx]
  ·have:(f.what==w)=false:=by simp;omega
   simp[Qul0,this,h]
 | g::r,hs=>by
  have hs':=hs
  unfold Qvhg at hs'
  rw[List.pairwise_cons]at hs'
  have ih:=Qqae f w (l:=r) hs'.2
  unfold Qul0
  by_cases h1:g.what<f.what
  ·rw[if_pos h1,List.find?_cons,List.find?_cons,ih]
   by_cases h2:g.what=w
   ·have:(g.what==w)=true:=by simpa using h2
    rw[this]
    simp only
    rw[if_neg (by omega)]
   ·have:(g.what==w)=false:=by simpa using h2
    rw[this]
  ·rw[if_neg h1]
   by_cases h3:g.what=f.what
   ·rw[if_pos h3]
    by_cases h2:w=f.what
    ·subst h2
     have e1:(g.what==f.what)=true:=by simpa using h3
     rw[if_pos rfl,List.find?_cons (a:=g),e1]
     simp only[mx]
     split<;>simp[e1]
    ·have e1:(g.what==w)=false:=by simp;omega
     have e2:(f.what==w)=false:=by simp;omega
     rw[if_neg h2,List.find?_cons (a:=g),e1]
     split<;>simp[e1,e2]
   ·rw[if_neg h3]
    by_cases h2:w=f.what
    ·subst h2
     have:(g::r).find? (fun g=>g.what==f.what)=none:=by
      rw[List.find?_eq_none]
      intro x hx
      rcases List.mem_cons.1 hx with rfl|hx
      ·simpa using h3
      ·have:=hs'.1 x hx
       simp;omega
     rw[if_pos rfl,this]
     simp[mx]
    ·have e2:(f.what==w)=false:=by simp;omega
     rw[if_neg h2,List.find?_cons,e2]
def Q1re(es:List Entry):Prop:=Qurt es∧∀e∈es,Qvhg e.fields∧e.fields≠[]
theorem Qrkx(n:Str)(f:Fld):∀(es:List Entry) (x:Entry),x∈putS es n f→x.name=n∨x∈es
 | [],x,h=>by simp[putS]at h;subst h;exact .inl rfl
 | e::r,x,h=>by
  unfold putS at h
  split at h
  ·rename_i he
   rcases List.mem_cons.1 h with rfl|h
   ·exact .inl he
   ·exact .inr (List.mem_cons_of_mem _ h)
  ·split at h
   ·rcases List.mem_cons.1 h with rfl|h
    ·exact .inr (List.mem_cons_self ..)
    ·exact(Qrkx n f r x h).imp id (List.mem_cons_of_mem _)
   ·rcases List.mem_cons.1 h with rfl|h
    ·exact .inl rfl
    ·exact .inr h
theorem Qjuq(f:Fld)(l:List Fld):Qul0 l f≠[]:=by
 cases l with
 | nil=>simp[Qul0]
 | cons g r=>unfold Qul0;split<;>(try split)<;>(try split)<;>simp
theorem Qujd(n:Str)(f:Fld):∀{es:List Entry},Q1re es→Q1re (putS es n f)
 | [],_=>⟨by simp[putS,Qurt],fun e he=>by simp[putS]at he;subst he;simp[Qvhg]⟩
 | e::r,h=>by
  obtain⟨h1,h2⟩:=h
  have h1':=h1
  unfold Qurt at h1'
  rw[List.pairwise_cons]at h1'
  have ih:=Qujd n f (es:=r) ⟨h1'.2,fun x hx=>h2 x (List.mem_cons_of_mem _ hx)⟩
  have he:=h2 e (List.mem_cons_self ..)
  unfold putS
  by_cases hn:e.name=n
  ·rw[if_pos hn]
   refine⟨List.pairwise_cons.2 ⟨h1'.1,h1'.2⟩,fun x hx=>?_⟩
   rcases List.mem_cons.1 hx with rfl|hx
   ·exact⟨Q0fd f he.1,Qjuq _ _⟩
   ·exact h2 x (List.mem_cons_of_mem _ hx)
  ·rw[if_neg hn]
   by_cases hl:Q7zj e.name n=true
   ·rw[if_pos hl]
    refine⟨List.pairwise_cons.2 ⟨fun x hx=>?_,ih.1⟩,fun x hx=>?_⟩
    ·rcases Qrkx _ _ _ _ hx with hx|hx
     ·rw[hx];exact hl
     ·exact h1'.1 x hx
    ·rcases List.mem_cons.1 hx with rfl|hx
     ·exact he
     ·exact ih.2 x hx
   ·rw[if_neg hl]
    have hlt:Q7zj n e.name=true:=by
     cases h3:Q7zj n e.name with
     | true=>rfl
     | false=>exact absurd (Qj9t _ _ (by simpa using hl) h3) hn
    refine⟨List.pairwise_cons.2 ⟨fun x hx=>?_,h1⟩,fun x hx=>?_⟩
    ·rcases List.mem_cons.1 hx with rfl|hx
     ·exact hlt
     ·exact lt_trans hlt (h1'.1 x hx)
    ·rcases List.mem_cons.1 hx with rfl|hx
     ·simp[Qvhg]
     ·exact h2 x hx
theorem Q9h5(e:Entry)(r:List Entry)(n:Str)(w:Int):lk (e::r) n w=if e.name=n then e.fields.find? (fun f=>f.what==w) else lk r n w:=by
 unfold lk
 rw[List.find?_cons]
 by_cases h:e.name=n
 ·have:(e.name==n)=true:=by simpa using h
  rw[this,if_pos h];rfl
 ·have:(e.name==n)=false:=by simpa using h
  rw[this,if_neg h]
theorem Q8ex{es:List Entry}{n:Str}(h:∀e∈es,e.name≠n)(w:Int):lk es n w=none:=by
 unfold lk
 rw[List.find?_eq_none.2 (fun e he=>by simpa using h e he)];rfl
theorem Qqy6(n:Str)(f:Fld)(m:Str)(w:Int):∀{es:List Entry},Q1re es→lk (putS es n f) m w=if m=n∧w=f.what then some (mx (lk es n w) f) else lk es m w
 | [],_=>by
  rw[putS,Q9h5]
  by_cases h:n=m
  ·subst h
   by_cases hw:w=f.what
   ·subst hw;simp[lk,mx]
   ·have:(f.what==w)=false:=by simp;omega
    simp[lk,hw,this]
  ·rw[if_neg h,if_neg (fun h2=>h h2.1.symm)]
 | e::r,hb=>by
  obtain⟨h1,h2⟩:=hb
  have h1':=h1
  unfold Qurt at h1'
  rw[List.pairwise_cons]at h1'
  have ih:=Qqy6 n f m w (es:=r) ⟨h1'.2,fun x hx=>h2 x (List.mem_cons_of_mem _ hx)⟩
  have he:=h2 e (List.mem_cons_self ..)
  unfold putS
  by_cases hn:e.name=n
  ·rw[if_pos hn,Q9h5,Q9h5,Q9h5]
   simp only
   rw[Qqae f w he.1]
   by_cases hm:e.name=m
   ·rw[if_pos hm,if_pos hm,if_pos hn]
    have:m=n:=hm.symm.trans hn
    by_cases hw:w=f.what<;>simp[hw,this]
   ·rw[if_neg hm,if_neg hm,if_neg (fun h=>hm (hn.trans h.1.symm))]
  ·rw[if_neg hn]
   by_cases hl:Q7zj e.name n=true
   ·rw[if_pos hl,Q9h5,Q9h5,Q9h5,ih,if_neg hn]
    by_cases hm:e.name=m
    ·rw[if_pos hm,if_pos hm,if_neg (fun h=>hn (hm.trans h.1))]
    ·rw[if_neg hm,if_neg hm]
   ·rw[if_neg hl,Q9h5]
    simp only
    have hlt:Q7zj n e.name=true:=by
     cases h3:Q7zj n e.name with
     | true=>rfl
     | false=>exact absurd (Qj9t _ _ (by simpa using hl) h3) hn
    have no:lk (e::r) n w=none:=Q8ex (fun x hx=>by
     rcases List.mem_cons.1 hx with rfl|hx
     ·exact hn
     ·intro e2
      have:=lt_trans hlt (h1'.1 x hx)
      rw[e2,Qqw5]at this;cases this) w
    by_cases hm:n=m
    ·subst hm
     rw[if_pos rfl,no]
     by_cases hw:w=f.what
     ·subst hw;simp[mx]
     ·have:(f.what==w)=false:=by simp;omega
      simp[hw,this]
    ·rw[if_neg hm,if_neg (fun h=>hm h.1.symm)]
theorem Qw35{l:List Fld}(h:Qvhg l)(f:Fld):f∈l↔l.find? (fun g=>g.what==f.what)=some f:=by
 constructor
 ·intro hf
  induction l with
  | nil=>cases hf
  | cons g r ih =>
   unfold Qvhg at h
   rw[List.pairwise_cons]at h
   rw[List.find?_cons]
   rcases List.mem_cons.1 hf with rfl|hf
   ·simp
   ·have:=h.1 f hf
    have e:(g.what==f.what)=false:=by simp;omega
    rw[e];exact ih h.2 hf
 ·exact fun hf=>List.mem_of_find?_eq_some hf
theorem Q8nk{l m:List Fld}(hl:Qvhg l)(hm:Qvhg m)(h:∀w,l.find? (fun g=>g.what==w)=m.find? (fun g=>g.what==w)):l=m:=by
 have nd:∀{l:List Fld},Qvhg l→l.Nodup:=fun h=>h.imp (fun {a b} h e=>by subst e;omega)
 refine Qush Fld.what hm ((List.perm_ext_iff_of_nodup (nd hl) (nd hm)).2 fun f=>by rw[Qw35 hl,Qw35 hm,h]) (hl.imp fun {a b} h=>by omega)
theorem Qf8a{es:List Entry}(h:Qurt es){e:Entry}(he:e∈es):es.find? (fun x=>x.name==e.name)=some e:=by
 induction es with
 | nil=>cases he
 | cons g r ih =>
  unfold Qurt at h
  rw[List.pairwise_cons]at h
  rw[List.find?_cons]
  rcases List.mem_cons.1 he with rfl|he
  ·simp
  ·have:=h.1 e he
   have e':(g.name==e.name)=false:=by simp;intro e2;rw[e2,Qqw5]at this;cases this
   rw[e'];exact ih h.2 he
theorem Qn50{a b:List Entry}(ha:Q1re a)(hb:Q1re b)(h:∀n w,lk a n w=lk b n w):a=b:=by
 have sub:∀{a b:List Entry},Q1re a→Q1re b→(∀n w,lk a n w=lk b n w)→∀e∈a,e∈b:=fun {a b} ha hb h e he=>by
  obtain⟨hs,hne⟩:=ha.2 e he
  have la:∀w,lk a e.name w=e.fields.find? (fun f=>f.what==w):=fun w=>by rw[lk,Qf8a ha.1 he];rfl
  obtain⟨f,r,hf⟩:=List.exists_cons_of_ne_nil hne
  have h1:lk b e.name f.what≠none:=by rw[←h,la,hf];simp
  have:∃e',b.find? (fun x=>x.name==e.name)=some e':=by
   unfold lk at h1
   cases hx:b.find? (fun x=>x.name==e.name) with
   | none=>rw[hx]at h1;exact absurd rfl h1
   | some x=>exact⟨x,rfl⟩
  obtain⟨e',he'⟩:=this
  have hm:=List.mem_of_find?_eq_some he'
  have hn:e'.name=e.name:=by simpa using List.find?_some he'
  have hfe:e.fields=e'.fields:=Q8nk hs (hb.2 e' hm).1 (fun w=>by rw[←la,h,lk,he'];rfl)
  have:e=e':=by
   obtain⟨n1,f1⟩:=e
   obtain⟨n2,f2⟩:=e'
   simp only at hn hfe
   rw[hn,hfe]
  rw[this];exact hm
 have nd:∀{l:List Entry},Qurt l→l.Nodup:=fun h=>h.imp (fun {a b} h e=>by subst e;rw[Qqw5]at h;cases h)
 refine Qhss Entry.name hb.1 ((List.perm_ext_iff_of_nodup (nd ha.1) (nd hb.1)).2 fun e=>⟨sub ha hb h e,sub hb ha (fun n w=>(h n w).symm) e⟩) (ha.1.imp fun {a b} h h2=>?_)
 rw[Q9yw,Qi83 h]at h2;cases h2
theorem Qwk3{ks:List Kind}{ps:List Point}{es:List Entry}(h:Qn0o ks ps es=true):Q1re es:=by
 simp only[Qn0o,qaT]at h
 refine⟨Q90k h.2.2,fun e he=>?_⟩
 have ho:=Qmra es _ h.2.2 e he
 simp only[Q7i7,qaT,Bool.not_eq_true',decide_eq_false_iff_not]at ho
 exact⟨Qh2w ho.2.2,fun e2=>ho.2.1 (by rw[e2];rfl)⟩
theorem Qyfa(f:Fld):Fld.later f f=false:=by simp[Fld.later,Qqw5]
theorem Qv46{f g:Fld}(h:Fld.later f g=true):Fld.later g f=false:=by
 unfold Fld.later at *
 by_cases e:f.number=g.number
 ·rw[if_pos e]at h
  rw[if_pos e.symm];exact Qi83 h
 ·rw[if_neg e]at h
  rw[if_neg (fun h2=>e h2.symm)]
  simp only[qdT]at h
  exact decide_eq_false (by omega)
theorem Qj2g{f g k:Fld}(h1:Fld.later f g=true)(h2:Fld.later g k=true):Fld.later f k=true:=by
 unfold Fld.later at *
 by_cases e1:f.number=g.number<;>by_cases e2:g.number=k.number
 ·rw[if_pos e1]at h1;rw[if_pos e2]at h2;rw[if_pos (e1.trans e2)];exact lt_trans h2 h1
 ·rw[if_pos e1]at h1;rw[if_neg e2]at h2
  simp only[qdT]at h2
  rw[if_neg (by omega)];exact decide_eq_true (by omega)
 ·rw[if_neg e1]at h1;rw[if_pos e2]at h2
  simp only[qdT]at h1
  rw[if_neg (by omega)];exact decide_eq_true (by omega)
 ·rw[if_neg e1]at h1;rw[if_neg e2]at h2
  simp only[qdT]at h1 h2
  rw[if_neg (by omega)];exact decide_eq_true (by omega)
theorem Qhof{f g:Fld}(h1:Fld.later f g=false)(h2:Fld.later g f=false)(hw:f.what=g.what):f=g:=by
 have e:f.number=g.number:=by
  by_cases e:f.number=g.number
  ·exact e
  ·unfold Fld.later at h1 h2
   rw[if_neg e]at h1
   rw[if_neg (fun h=>e h.symm)]at h2
   simp only[decide_eq_false_iff_not]at h1 h2
   omega
 have ev:f.value=g.value:=by
  unfold Fld.later at h1 h2
  rw[if_pos e]at h1
  rw[if_pos e.symm]at h2
  exact Qj9t _ _ h2 h1
 obtain⟨a,b,c⟩:=f
 obtain⟨a',b',c'⟩:=g
 simp only at hw e ev
 rw[hw,e,ev]
theorem Qba1{g f:Fld}(h:Fld.later f g=true):mx (some g) f=f:=if_pos h
theorem Qqr0{g f:Fld}(h:¬Fld.later f g=true):mx (some g) f=g:=if_neg h
theorem Qpsk{es:List Entry}{n:Str}{w:Int}{f:Fld}(h:lk es n w=some f):f.what=w:=by
 unfold lk at h
 cases hx:es.find? (fun e=>e.name==n) with
 | none=>rw[hx]at h;cases h
 | some e =>
  rw[hx]at h
  simpa using List.find?_some (show e.fields.find? (fun f=>f.what==w)=some f from h)
end Lx
namespace Lx
open Go
section
variable {Ty:Type} {El:Ty→Type} {C:Cod Ty El} {P:Program}
def swC(k L:Nat):AV Ty El→AV Ty El
 | .own r p v=>.own (if r=k then L else r) p v
 | c=>c
def swOk:AV Ty El→Bool
 | .own .. | .int .. | .bool .. | .str .. | .nils=>true
 | _=>false
def swO(k L:Nat):AObj Ty El→AObj Ty El
 | .box cs=>.box (cs.map (swC k L))
 | o=>o
def swBox:AObj Ty El→Bool
 | .box cs=>cs.all swOk
 | .mp .. | .bld _=>false
 | _=>true
theorem Qwzt{H:List (AObj Ty El)}{r:Nat}(h:H.length≤r):hpOf H r=.gone:=by
 unfold hpOf;rw[qgD,List.getElem?_eq_none h];rfl
theorem Qewq.moveG(hC:CodOK P C){g:FuncId}{args:List (AV Ty El)}{H:List (AObj Ty El)}{res res':AV Ty El}{H':List (AObj Ty El)}{T:Ty}{xs:List (El T)}{d:Nat}(h:Qewq P C g args H res H')(k:Nat)(hk:k<H'.length)(hlen:H.length≤H'.length)
  (hrow:hpOf H' k=.row T xs d 0 0 .no) (hres:∀(N N2:Nm) (w:World) (v:Value),(∀v c,swOk c=true→RepA C N w v c→RepA C N2 w v (swC k H'.length c))→(∀v x,noNm k 6 x=true→RepA C N w v x→RepA C N2 w v x)→RepA C N w v res→RepA C N2 w v res') (hbox:H'.all swBox=true):Qewq P C g args H res' ((H'.map (swO k H'.length)).set k .out++[.row T xs d 0 0 .no]):=by
 intro w N vs hN hsz hrep
 refine(h w N vs hN hsz hrep).mono ?_
 rintro en w' ⟨v,N',rfl,hH,hv,hio,hroI,hroO,hfr,hF⟩
 have hL:hpOf H' H'.length=.gone:=Qwzt (Nat.le_refl _)
 have noF:∀b,¬N'.F H'.length b:=fun b hb=>by
  have:=hH.obj H'.length
  rw[hL]at this
  exact this b hb
 have noG:∀p v u,¬N'.G H'.length p v u:=fun p v u hg=>by
  have:=hH.reg H'.length p v u hg
  rw[hL]at this
  exact this
 have ob:∀r,hpOf ((H'.map (swO k H'.length)).set k .out++[.row T xs d 0 0 .no]) r=if r=k then .out else if r=H'.length then .row T xs d 0 0 .no else swO k H'.length (hpOf H' r):=fun r=>by
  unfold hpOf
  rw[qgD,qgD]
  by_cases h1:r=k
  ·subst h1
   rw[List.getElem?_append_left (by simpa using hk),List.getElem?_set,if_pos rfl,if_pos (by simpa using hk),if_pos rfl];rfl
  ·rw[if_neg h1]
   by_cases h2:r=H'.length
   ·subst h2
    rw[if_pos rfl,List.getElem?_append_right (by simp)]
    simp
   ·rw[if_neg h2]
    by_cases h3:r<H'.length
    ·rw[List.getElem?_append_left (by simpa using h3),List.getElem?_set,if_neg (fun e=>h1 e.symm),List.getElem?_map,qeG h3]
     rfl
    ·have:H'.length<r:=by omega
     rw[List.getElem?_append_right (by simp;omega),List.getElem?_eq_none (by simp;omega),List.getElem?_eq_none (by omega)]
     rfl
 let N2:Nm:={ ν:=fun r=>if r=H'.length then N'.ν k else N'.ν r,F:=fun r b=>(r≠k∧r≠H'.length∧N'.F r b)∨(r=H'.length∧N'.F k b),G:=fun r p v u=>(r≠k∧r≠H'.length∧N'.G r p v u)∨(r=H'.length∧N'.G k p v u),ro:=N'.ro }
 have nek:k≠H'.length:=by omega
 have rC:∀(v:Value) (c:AV Ty El),swOk c=true→RepA C N' w' v c→RepA C N2 w' v (swC k H'.length c):=fun v c hc hr=>by
  cases hr with
  | own r p ver _ hx =>
   simp only[swC]
   by_cases e:r=k
   ·subst e;rw[if_pos rfl];exact .own _ _ _ _ (.inr ⟨rfl,hx⟩)
   ·rw[if_neg e]
    exact .own _ _ _ _ (.inl ⟨e,fun e2=>noG p ver v (by rw[←e2];exact hx),hx⟩)
  | int k n=>exact .int k n
  | bool b=>exact .bool b
  | str s l h=>exact .str s l h
  | nils=>exact .nils
  | _=>simp[swOk]at hc
 refine⟨v,N2,rfl,⟨fun r=>?_,fun r p v u hg=>?_,fun r=>?_,fun r p v u hg=>?_,fun r r' b h1 h2=>?_,fun r b h1 h2=>?_,hH.roLt,hH.glTo hC (fun _ h=>h) (fun _ _=>rfl)⟩, ?_,fun r hr hst=>?_,hroI,hroO,hfr,fun r b hb=>?_⟩
 ·rw[ob]
  by_cases h1:r=k
  ·rw[if_pos h1]
   rintro b (hb|hb)
   ·exact hb.1 h1
   ·exact nek (h1.symm.trans hb.1)
  ·rw[if_neg h1]
   by_cases h2:r=H'.length
   ·rw[if_pos h2]
    have ho:=hH.obj k
    rw[hrow]at ho
    have eν:N2.ν r=N'.ν k:=if_pos h2
    refine⟨by rw[eν];exact ho.1, ?_⟩
    rw[eν]
    exact(Deep.cast (N:=N') (N':=N2) hC (fun _ h=>h) (fun _ _=>rfl) _ _ _ _ _ _ ho.2 (fun _ _=>rfl)).blkEq (fun b=>⟨fun hb=>hb.elim (fun hb=>absurd h2 hb.2.1) (fun hb=>hb.2),fun hb=>.inr ⟨h2,hb⟩⟩)
   ·rw[if_neg h2]
    have ho:=hH.obj r
    have eν:N2.ν r=N'.ν r:=if_neg h2
    have eF:∀b,N2.F r b↔N'.F r b:=fun b=>⟨fun hb=>hb.elim (fun hb=>hb.2.2) (fun hb=>absurd hb.1 h2),fun hb=>.inl ⟨h1,h2,hb⟩⟩
    cases e:hpOf H' r with
    | box cs =>
     rw[e]at ho
     have hm:=Q13r e (by simp)
     have hn:cs.all swOk=true:=qlA.1 hbox _ hm
     obtain⟨b,arr,t,q1,q2,q3,q4,q5,q6⟩:=ho
     refine⟨b,arr,t,eν.trans q1,q2,by rw[q3];simp,q4,fun j v c hj hc=>?_,fun b'=>(eF b').trans (q6 b')⟩
     rw[List.getElem?_map]at hc
     cases e2:cs[j]? with
     | none=>rw[e2]at hc;cases hc
     | some c0 =>
      rw[e2]at hc
      simp only[Option.map_some,qsI]at hc
      subst hc
      exact rC v c0 (qlA.1 hn c0 (qmG e2)) (q5 j v c0 hj e2)
    | row T' xs' d' vr vn m =>
     rw[e]at ho
     refine⟨by rw[eν];exact ho.1, ?_⟩
     rw[eν]
     exact(Deep.cast (N:=N') (N':=N2) hC (fun _ h=>h) (fun _ _=>rfl) _ _ _ _ _ _ ho.2 (fun _ _=>rfl)).blkEq eF
    | mp K V es =>
     have hm:=Q13r e (by simp)
     have hn:=qlA.1 hbox _ hm
     simp[swBox]at hn
    | bld l =>
     have hm:=Q13r e (by simp)
     have hn:=qlA.1 hbox _ hm
     simp[swBox]at hn
    | gone=>rw[e]at ho;exact fun b hb=>ho b ((eF b).1 hb)
    | out=>rw[e]at ho;exact fun b hb=>ho b ((eF b).1 hb)
 ·rw[ob]
  rcases hg with ⟨h1,h2,hg⟩|⟨rfl,hg⟩
  ·have eν:N2.ν r=N'.ν r:=if_neg h2
   rw[if_neg h1,if_neg h2,eν]
   have:=hH.reg r p v u hg
   cases e:hpOf H' r<;>rw[e]at this<;>exact this
  ·have eν:N2.ν H'.length=N'.ν k:=if_pos rfl
   rw[if_neg nek.symm,if_pos rfl,eν]
   have:=hH.reg k p v u hg
   rw[hrow]at this
   exact this
 ·rw[ob]
  by_cases h1:r=k
  ·rw[if_pos h1];trivial
  ·rw[if_neg h1]
   by_cases h2:r=H'.length
   ·rw[if_pos h2]
    have hf:=hH.full k
    rw[hrow]at hf
    have eν:N2.ν r=N'.ν k:=if_pos h2
    refine⟨.inr ⟨h2,by rw[eν];exact hf.1⟩,fun p u q1 q2 q3 q4=>.inr ⟨h2,hf.2 p u q1 q2 q3 (by rw[←eν];exact q4)⟩⟩
   ·rw[if_neg h2]
    have eν:N2.ν r=N'.ν r:=if_neg h2
    have hf:=hH.full r
    cases e:hpOf H' r with
    | box cs=>rw[e]at hf;exact .inl ⟨h1,h2,by rw[eν];exact hf⟩
    | mp K V es=>rw[e]at hf;exact .inl ⟨h1,h2,by rw[eν];exact hf⟩
    | bld l=>rw[e]at hf;exact .inl ⟨h1,h2,by rw[eν];exact hf⟩
    | row T' xs' d' vr vn m=>rw[e]at hf;exact⟨.inl ⟨h1,h2,by rw[eν];exact hf.1⟩,fun p u q1 q2 q3 q4=>.inl ⟨h1,h2,hf.2 p u q1 q2 q3 (by rw[←eν];exact q4)⟩⟩
    | gone=>trivial
    | out=>trivial
 ·rcases hg with ⟨_,_,hg⟩|⟨_,hg⟩
  ·exact hH.one _ _ _ _ hg
  ·exact hH.one _ _ _ _ hg
 ·rcases h1 with ⟨a1,a2,a3⟩|⟨a1,a3⟩<;>rcases h2 with ⟨b1,b2,b3⟩|⟨b1,b3⟩
  ·exact hH.dist r r' b a3 b3
  ·exact absurd (hH.dist r k b a3 b3) a1
  ·exact absurd (hH.dist r' k b b3 a3) b1
  ·exact a1.trans b1.symm
 ·rcases h1 with ⟨_,_,a3⟩|⟨_,a3⟩
  ·exact hH.roNot _ _ a3 h2
  ·exact hH.roNot _ _ a3 h2
 ·exact hres N' N2 w' v rC (fun v x hx hv=>hv.noNm hC (N':=N2) (fun r p v u hr hg=>.inl ⟨hr,fun e=>noG p v u (by rw[←e];exact hg),hg⟩) (fun _ h=>h) 6 hx) hv
 ·have hrk:r≠k:=fun e=>by
   have:hpOf ((H'.map (swO k H'.length)).set k .out++[.row T xs d 0 0 .no]) r=.out:=by rw[ob,if_pos e]
   simp[stays,this]at hst
  have hrL:r≠H'.length:=by omega
  have eν:N2.ν r=N'.ν r:=if_neg hrL
  rw[eν]
  refine hio r hr ?_
  have e1:hpOf ((H'.map (swO k H'.length)).set k .out++[.row T xs d 0 0 .no]) r=swO k H'.length (hpOf H' r):=by rw[ob,if_neg hrk,if_neg hrL]
  simp only[stays,e1]at hst ⊢
  cases e:hpOf H' r<;>rw[e]at hst<;>exact hst
 ·rcases hb with ⟨_,_,hb⟩|⟨_,hb⟩
  ·exact hF _ _ hb
  ·exact hF _ _ hb
theorem Qewq.moveAt(hC:CodOK P C){g:FuncId}{args:List (AV Ty El)}{H:List (AObj Ty El)}{res:AV Ty El}{H':List (AObj Ty El)}{T:Ty}{xs:List (El T)}{d:Nat}(h:Qewq P C g args H res H')(k:Nat)(hk:k<H'.length)(hlen:H.length≤H'.length)
  (hrow:hpOf H' k=.row T xs d 0 0 .no) (hres:noNm k 6 res=true) (hbox:H'.all swBox=true):Qewq P C g args H res ((H'.map (swO k H'.length)).set k .out++[.row T xs d 0 0 .no]) :=
 h.moveG hC k hk hlen hrow (fun N N2 w v _ h2 hv=>h2 v res hres hv) hbox
theorem Qewq.args{g:FuncId}{args args':List (AV Ty El)}{H:List (AObj Ty El)}{res:AV Ty El}{H':List (AObj Ty El)}(h:Qewq P C g args H res H')(hl:args'.length=args.length)
  (hw:∀(j:Nat) x x',args[j]? = some x→args'[j]? = some x'→∀(N:Nm) (w:World) (v:Value),RepA C N w v x'→RepA C N w v x):Qewq P C g args' H res H':=by
 intro w N vs hN hsz hrep
 refine h w N vs hN (hsz.trans hl) (fun j v x hv hx=>?_)
 have hj:j<args'.length:=by rw[hl];exact(qeS.1 hx).1
 exact hw j x _ hx (qeG hj) N w v (hrep j v _ hv (qeG hj))
theorem RepA.nilSl{N:Nm}{w:World}{v:Value}(T:Ty)(h:RepA C N w v .nils):RepA C N w v (.sl T []):=by cases h;exact .sl0 T none 0
theorem RepA.aggMono{N:Nm}{w:World}{v:Value}{cs ds:List (AV Ty El)}(hl:ds.length=cs.length)(hm:∀(j:Nat) c d,cs[j]? = some c→ds[j]? = some d→∀u,RepA C N w u c→RepA C N w u d)(h:RepA C N w v (.agg cs)):RepA C N w v (.agg ds):=by
 cases h with
 | agg vs cs hl' h =>
  refine .agg vs ds (hl'.trans hl.symm) (fun j u d hu hd=>?_)
  have hj:j<cs.length:=by rw[←hl];exact(qeS.1 hd).1
  exact hm j _ d (qeG hj) hd u (h j u _ hu (qeG hj))
end
end Lx
namespace Lx
open Go Go.Sort Go.Proofs
section
variable {Ty:Type} {El:Ty→Type} {C:Cod Ty El} {P:Program}
def shal:AV Ty El→Value→Prop
 | .int k n,u=>u=.int k n
 | .bool b,u=>u=.bool b
 | .str l,u=>∃s:ByteArray,u=.string s∧s.data.toList=l
 | .sl ..,_=>True
 | .raw ..,_=>True
 | .lt ..,_=>True
 | _,_=>False
structure SEl (C:Cod Ty El) (T:Ty) (p:El T→Bool) where
 i:Nat
 x:El T
 hp:p x=true
 vs:List Value
 len:vs.length=C.sz T
 one:∀v∈vs,v.oneCell'=true
 sh:∀(j:Nat) c u,(C.row T x)[j]? = some c→vs[j]? = some u→shal c u
def mkV:AV Ty El→Value
 | .int k n=>.int k n
 | .bool b=>.bool b
 | .str l=>.string ⟨⟨l⟩⟩
 | _=>.slice none 0 0
def SEl.dflt(hC:CodOK P C)(T:Ty){p:El T→Bool}(h:p (C.dflt T)=true):SEl C T p where
 i:=0
 x:=C.dflt T
 hp:=h
 vs:=(C.row T (C.dflt T)).map mkV
 len:=by simp[hC.len]
 one:=fun v hv=>by
  obtain⟨c,_,rfl⟩:=List.mem_map.1 hv
  cases c<;>rfl
 sh:=fun j c u hc hu=>by
  rw[List.getElem?_map,hc]at hu
  simp only[Option.map_some,qsI]at hu
  subst hu
  have:=hC.cell T _ c (qmG hc)
  cases c<;>first|rfl|trivial|exact⟨_,rfl,rfl⟩|(simp[Qvgi]at this)

theorem RowI.resort(hC:CodOK P C){w w':World}{K K':Nat→Nat→Value→AV Ty El→(Nat→Prop)→Prop}{B:Nat→Prop}{v:Value}{S:Ty}{xs:List (El S)}{p:El S→Bool}[Inhabited (SEl C S p)]{e:TypeId}{cells:List Value}{Fs:Nat→Nat→Nat→Prop}
  (h:RowI C w K B v S xs e cells Fs) {g cap:Nat} {cur:Array Value} (hv:v=.slice (some ⟨g,0,none⟩) xs.length cap) (hcap:xs.length≤cap) (hml:cap≤maxLen) (hsz:cur.size=cap*C.sz S)
  (D D':Array (SEl C S p)) (hD:D.size=xs.length) (hDi:∀i,i<xs.length→D[i]!.i=i∧D[i]!.x=xs.getD i (C.dflt S)∧D[i]!.vs=(cells.drop (i*C.sz S)).take (C.sz S)) (hp:D'.toList.Perm D.toList)
  (hg':w'.heap[g]? = some (.cells (putCells id 0 (Go.Sort.flatK SEl.vs (C.sz S) D') cur) e (0,0)))
  (hK:∀i i' j u c F,Qvgi c=true→(∀b,F b→B b∧b≠g)→K i j u c F→K' i' j u c F):RowD C w' K' B v S (D'.toList.map SEl.x):=by
 have pos:=hC.pos S
 have hs':D'.size=xs.length:=by rw[←hD];simpa using hp.length_eq
 have hcl:cells.length=xs.length*C.sz S:=h.own.1
 have el:∀(A:Array (SEl C S p)) (i:Nat) (hi:i<A.size),A[i]! = A[i]:=fun A i hi=>getElem!_pos A i hi
 have mem:∀i,i<xs.length→D'[i]!.i<xs.length∧D'[i]! = D[D'[i]!.i]!:=fun i hi=>by
  have h1:D'[i]!∈D'.toList:=by rw[el D' i (by omega)];simp
  obtain⟨k,hk,hk2⟩:=List.mem_iff_getElem.1 (hp.mem_iff.1 h1)
  have hk':k<xs.length:=by rw[←hD];simpa using hk
  have e1:D[k]! = D'[i]!:=by rw[el D k (by omega)];simpa using hk2
  have e2:=(hDi k hk').1
  rw[e1]at e2
  rw[e2];exact⟨hk',e1.symm⟩
 have lmap:D.toList.map SEl.i=List.range xs.length:=by
  apply List.ext_getElem
  ·simp[hD]
  ·intro i h1 h2
   simp only[List.length_range]at h2
   have:=(hDi i h2).1
   rw[el D i (by omega)]at this
   simpa using this
 have nd:(D'.toList.map SEl.i).Nodup:=(hp.map SEl.i).nodup_iff.2 (by rw[lmap];exact List.nodup_range)
 have gi:∀i,i<xs.length→(D'.toList.map SEl.i)[i]? = some D'[i]!.i:=fun i hi=>by
  rw[List.getElem?_map,el D' i (by omega)]
  simp[hs',hi]
 have inj:∀i i',i<xs.length→i'<xs.length→D'[i]!.i=D'[i']!.i→i=i':=fun i i' hi hi' he=>by
  refine(List.getElem?_inj (by simp[hs'];exact hi) nd).1 ?_
  rw[gi i hi,gi i' hi',he]
 have surj:∀k,k<xs.length→∃i,i<xs.length∧D'[i]!.i=k:=fun k hk=>by
  have:k∈D'.toList.map SEl.i:=(hp.map SEl.i).mem_iff.2 (by rw[lmap];simpa using hk)
  obtain⟨i,hi,hi2⟩:=List.mem_iff_getElem.1 this
  have hi':i<xs.length:=by simpa[hs']using hi
  refine⟨i,hi', ?_⟩
  have:=gi i hi'
  rw[qeG hi]at this
  simp only[qsI]at this
  rw[←this];exact hi2
 have yl:(D'.toList.map SEl.x).length=xs.length:=by simp[hs']
 have yg:∀i,i<xs.length→(D'.toList.map SEl.x).getD i (C.dflt S)=xs.getD D'[i]!.i (C.dflt S):=fun i hi=>by
  obtain⟨h1,h2⟩:=mem i hi
  rw[←(hDi _ h1).2.1,←h2,el D' i (by omega)]
  simp[hs',hi]
 have fs:(Go.Sort.flatK SEl.vs (C.sz S) D').size=xs.length*C.sz S:=by rw[Go.Sort.size_flatK,hs']
 have lt:∀i j,i<xs.length→j<C.sz S→i*C.sz S+j<xs.length*C.sz S:=fun i j hi hj=>by
  have:(i+1)*C.sz S≤xs.length*C.sz S:=Nat.mul_le_mul_right _ hi
  rw[Nat.succ_mul]at this;omega
 have fg:∀i j,i<xs.length→j<C.sz S→(Go.Sort.flatK SEl.vs (C.sz S) D')[i*C.sz S+j]! = D'[i]!.vs[j]!:=fun i j hi hj=>by
  rw[Go.Sort.get_flatK _ _ _ _ (by rw[hs'];exact lt i j hi hj)]
  have e1:(i*C.sz S+j) / C.sz S=i:=(Go.Sort.blk_iff _ _ _ pos).1 ⟨by omega,by omega⟩
  have e2:(i*C.sz S+j)%C.sz S=j:=by
   rw[Nat.add_comm,Nat.add_mul_mod_self_right];exact Nat.mod_eq_of_lt hj
  rw[e1,e2]
 have vg:∀i j,i<xs.length→j<C.sz S→cells[D'[i]!.i*C.sz S+j]? = some (D'[i]!.vs[j]!):=fun i j hi hj=>by
  obtain⟨h1,h2⟩:=mem i hi
  have h3:=(hDi _ h1).2.2
  rw[←h2]at h3
  have hlt:=lt _ j h1 hj
  rw[h3,List.getElem!_eq_getElem?_getD,List.getElem?_take_of_lt hj,List.getElem?_drop,qeG (by omega)]
  rfl
 refine⟨e,(Go.Sort.flatK SEl.vs (C.sz S) D').toList,fun i j=>Fs D'[i]!.i j,h.ty,⟨?_,.inr ⟨g,cap,_, ?_,Nat.zero_le _,hg', ?_,hml, ?_, ?_⟩⟩,fun u hu=>?_,fun b=>?_,fun i j b hi hj=>?_,fun i j i' j' b hi hj hi' hj' h1 h2=>?_,fun i j c hi hc=>?_⟩
 ·rw[yl];simpa using fs
 ·rw[yl];exact hv
 ·rw[yl];exact hcap
 ·simp only[putCells,Array.size_mapIdx];exact hsz
 ·rw[yl]
  have hle:xs.length*C.sz S≤cur.size:=by rw[hsz];exact Nat.mul_le_mul_right _ hcap
  apply List.ext_getElem
  ·simp only[putCells,List.length_take,Array.length_toList,Array.size_mapIdx,fs];omega
  ·intro t h1 h2
   simp only[Array.length_toList,fs]at h2
   simp only[putCells,List.getElem_take,Array.getElem_toList,Array.getElem_mapIdx,Nat.zero_le,Nat.zero_add,fs,h2,and_self,if_true,Nat.sub_zero,id]
   exact getElem!_pos _ _ (by rw[fs];exact h2)
 ·obtain⟨t,ht,rfl⟩:=List.mem_iff_getElem.1 hu
  simp only[Array.length_toList,fs]at ht
  have hq:t / C.sz S<xs.length:=Nat.div_lt_of_lt_mul (by rw[Nat.mul_comm];exact ht)
  have e1:(Go.Sort.flatK SEl.vs (C.sz S) D')[t]! = D'[t / C.sz S]!.vs[t%C.sz S]!:=Go.Sort.get_flatK _ _ _ _ (by rw[hs'];exact ht)
  rw[getElem!_pos _ _ (by rw[fs];exact ht)]at e1
  rw[Array.getElem_toList,e1]
  refine D'[t / C.sz S]!.one _ ?_
  have hm:t%C.sz S<D'[t / C.sz S]!.vs.length:=by rw[D'[t / C.sz S]!.len];exact Nat.mod_lt _ pos
  rw[getElem!_pos D'[t / C.sz S]!.vs (t%C.sz S) hm];exact List.getElem_mem _
 ·rw[h.blk b,yl]
  constructor
  ·rintro(hb|⟨i,j,hi,hj,hb⟩)
   ·exact .inl hb
   ·obtain⟨i',h1,h2⟩:=surj i hi
    exact .inr ⟨i',j,h1,hj,by rw[h2];exact hb⟩
  ·rintro(hb|⟨i,j,hi,hj,hb⟩)
   ·exact .inl hb
   ·exact .inr ⟨_,j,(mem i hi).1,hj,hb⟩
 ·rw[yl]at hi
  exact h.sep0 _ j b (mem i hi).1 hj
 ·rw[yl]at hi hi'
  have:=h.sep _ j _ j' b (mem i hi).1 hj (mem i' hi').1 hj' h1 h2
  exact⟨inj i i' hi hi' this.1,this.2⟩
 ·rw[yl]at hi
  rw[yg i hi]at hc
  have hj:=RowI.sz hC hc
  obtain⟨u,hu,hk⟩:=h.cell _ j c (mem i hi).1 hc
  have hu2:=vg i j hi hj
  rw[hu]at hu2
  refine⟨u, ?_,hK _ i j u c _ (hC.cell _ _ c (qmG hc)) (fun b hb=>⟨(h.blk b).2 (.inr ⟨_,j,(mem i hi).1,hj,hb⟩),fun e=>?_⟩) hk⟩
  ·have hl:=lt i j hi hj
   rw[hu2,←fg i j hi hj,getElem!_pos _ _ (by rw[fs];exact hl),←Array.getElem_toList,qeG (by rw[Array.length_toList,fs];exact hl)]
  ·subst e
   exact h.sep0 _ j b (mem i hi).1 hj hb (by rw[hv];rfl)
end
end Lx
namespace Lx
open Go Go.Sort Go.Proofs
section
variable {Ty:Type} {El:Ty→Type} {C:Cod Ty El} {P:Program}
def Qja8(P:Program)(C:Cod Ty El)(T:Ty)(p:El T→Bool)[Inhabited (SEl C T p)](cmp:El T→El T→Int)(f g:FuncId):Prop :=
 ∀(blk cap:Nat) (D:Array (SEl C T p)) (w:World),HoldsK SEl.vs (C.sz T) w blk 0 D→blk<w.heap.size→D.size<4611686018427387904 →
  Calls P f #[.slice (some ⟨blk,0,none⟩) D.size cap,.func (.func g) #[] #[]] w fun e w'=>e=.returned (.tuple #[])∧∃d' n os,PermIn 0 D.size D d'∧SortedIn (ltOf fun x y:SEl C T p=>cmp x.x y.x) 0 D.size d'∧w'=sortWorldK SEl.vs (C.sz T) w blk 0 n d' os

theorem Qjqt(hC:CodOK P C){T:Ty}{p:El T→Bool}[Inhabited (SEl C T p)]{cmp:El T→El T→Int}{f g:FuncId}(hs:Qja8 P C T p cmp f g){w:World}{K:Nat→Nat→Value→AV Ty El→(Nat→Prop)→Prop}(hKs:∀i j u c F,K i j u c F→Qvgi c=true→shal c u){B:Nat→Prop}{v:Value}{xs ys:List (El T)}
  (h:RowD C w K B v T xs) (hall:∀x∈xs,p x=true) (h0:1≤xs.length) (hbig:xs.length<4611686018427387904) (hu:∀zs:List (El T),zs.Perm xs→zs.Pairwise (fun a b=>¬cmp b a<0)→zs=ys) :
  Calls P f #[v,.func (.func g) #[] #[]] w fun en w'=>en=.returned (.tuple #[])∧(w'.os=w.os∧w'.tape=w.tape∧w'.output=w.output∧w.heap.size≤w'.heap.size)∧(∀b,b<w.heap.size→v.ownBlock≠some b→w'.heap[b]? = w.heap[b]?) ∧
   ∀K':Nat→Nat→Value→AV Ty El→(Nat→Prop)→Prop,(∀i i' j u c F,Qvgi c=true→(∀b,F b→B b∧v.ownBlock≠some b)→K i j u c F→K' i' j u c F)→RowD C w' K' B v T ys:=by
 obtain⟨e,cells,Fs,h⟩:=h
 have pos:=hC.pos T
 rcases h.own.2 with ⟨_,hn⟩|⟨blk,cap,cur,hv,_,hh,hcap,hml,hsz,htk⟩
 ·omega
 have hcl:cells.length=xs.length*C.sz T:=h.own.1
 have lt:∀i,i<xs.length→i*C.sz T+C.sz T≤xs.length*C.sz T:=fun i hi=>by
  have:(i+1)*C.sz T≤xs.length*C.sz T:=Nat.mul_le_mul_right _ hi
  rw[Nat.succ_mul]at this;omega
 have mk:∀i:Fin xs.length,∃z:SEl C T p,z.i=i.1∧z.x=xs.getD i.1 (C.dflt T)∧z.vs=(cells.drop (i.1*C.sz T)).take (C.sz T):=fun⟨i,hi⟩=>by
  have hl:=lt i hi
  refine⟨⟨i,xs.getD i (C.dflt T),hall _ (by rw[qgD,qeG hi];exact List.getElem_mem hi),(cells.drop (i*C.sz T)).take (C.sz T),by rw[List.length_take,List.length_drop,hcl];omega,fun u hu=>h.one u (List.mem_of_mem_drop (List.mem_of_mem_take hu)),fun j c u hc hju=>?_⟩,rfl,rfl,rfl⟩
  have hj:=RowI.sz hC hc
  obtain⟨u',hu',hk⟩:=h.cell i j c hi hc
  rw[List.getElem?_take_of_lt hj,List.getElem?_drop,hu']at hju
  simp only[qsI]at hju
  subst hju
  exact hKs _ _ _ _ _ hk (hC.cell _ _ c (qmG hc))
 let D:Array (SEl C T p):=Array.ofFn fun i=>(mk i).choose
 have hD:D.size=xs.length:=by simp[D]
 have hDi:∀i,i<xs.length→D[i]!.i=i∧D[i]!.x=xs.getD i (C.dflt T)∧D[i]!.vs=(cells.drop (i*C.sz T)).take (C.sz T):=fun i hi=>by
  rw[getElem!_pos D i (by rw[hD];exact hi)]
  have:=(mk ⟨i,hi⟩).choose_spec
  simp only[D,Array.getElem_ofFn]
  exact this
 have hmap:D.toList.map SEl.x=xs:=by
  apply List.ext_getElem
  ·simp[hD]
  ·intro i h1 h2
   have:=(hDi i h2).2.1
   rw[getElem!_pos D i (by rw[hD];exact h2)]at this
   simpa[h2]using this
 have hflat:Go.Sort.flatK SEl.vs (C.sz T) D=cells.toArray:=by
  refine ext_get! (by rw[Go.Sort.size_flatK,hD];simpa using hcl.symm) fun t ht=>?_
  rw[Go.Sort.size_flatK]at ht
  rw[Go.Sort.get_flatK _ _ _ _ ht]
  rw[hD]at ht
  have hq:t / C.sz T<xs.length:=Nat.div_lt_of_lt_mul (by rw[Nat.mul_comm];exact ht)
  have hm:t%C.sz T<C.sz T:=Nat.mod_lt _ pos
  have e1:t / C.sz T*C.sz T+t%C.sz T=t:=by rw[Nat.mul_comm];exact Nat.div_add_mod _ _
  rw[(hDi _ hq).2.2,List.getElem!_eq_getElem?_getD,List.getElem?_take_of_lt hm,List.getElem?_drop,e1]
  simp[hcl,ht]
 have hblk:blk<w.heap.size:=(Array.getElem?_eq_some_iff.1 hh).1
 have hH:HoldsK SEl.vs (C.sz T) w blk 0 D:=fun j hj=>by
  rw[hflat]at hj ⊢
  have hj':j<cells.length:=by simpa using hj
  have hjc:j<cur.size:=by
   rw[hsz]
   exact Nat.lt_of_lt_of_le (by rw[←hcl];exact hj') (Nat.mul_le_mul_right _ hcap)
  have ec:cells[j]? = cur.toList[j]?:=by rw[←htk,List.getElem?_take_of_lt (by rw[←hcl];exact hj')]
  constructor
  ·simp only[World.cell?,Nat.zero_add,hh,id]
   rw[getElem!_pos cells.toArray j hj]
   rw[qeG hj']at ec
   simp only[Array.getElem?_toList]at ec
   simpa using ec.symm
  ·simp[World.frozen?,hh]
 rw[show(v:Value)=.slice (some ⟨blk,0,none⟩) D.size cap by rw[hD];exact hv]
 refine(hs blk cap D w hH hblk (by rw[hD];exact hbig)).mono ?_
 rintro en w' ⟨he,D',n,os,hperm,hsort,hw⟩
 rw[hD]at hperm hsort
 have hsz':D'.size=xs.length:=by rw[hperm.1,hD]
 have ex:∀A:Array (SEl C T p),A.size=xs.length→A.extract 0 xs.length=A:=fun A hA=>by rw[←hA];simp
 have hp:D'.toList.Perm D.toList:=by
  have:=hperm.2.2
  rwa [ex D hD,ex D' hsz']at this
 have hblks:w'.heap[blk]? = some (.cells (putCells id 0 (Go.Sort.flatK SEl.vs (C.sz T) D') cur) e (0,0)):=by
  subst hw
  unfold sortWorldK grow putRowK putRow mapBlock
  simp only
  rw[Array.getElem?_append_left (by simp[Sort.ahead];exact hblk),Array.getElem?_modify]
  simp[Sort.ahead,hh,onCells]
 have hys:D'.toList.map SEl.x=ys:=by
  refine hu _ (by rw[←hmap];exact hp.map SEl.x) ?_
  rw[List.pairwise_map]
  rw[List.pairwise_iff_getElem]
  intro i j hi hj hij
  have:=hsort i j (Nat.zero_le _) hij (by rw[←hsz'];simpa using hj)
  rw[getElem!_pos D' i (by simpa using hi),getElem!_pos D' j (by simpa using hj)]at this
  simpa[ltOf]using this
 refine⟨he, ?_,fun b hb hne=>?_,fun K' hK'=>?_⟩
 ·subst hw
  refine⟨rfl,rfl,rfl, ?_⟩
  unfold sortWorldK
  rw[size_grow]
  unfold putRowK
  rw[Go.Sort.size_putRow]
  exact Nat.le_add_right _ _
 ·have hne':blk≠b:=fun e=>hne (by rw[e];rfl)
  subst hw
  unfold sortWorldK grow putRowK putRow mapBlock
  simp only
  rw[Array.getElem?_append_left (by simp[Sort.ahead];exact hb),Array.getElem?_modify,if_neg hne']
  rfl
 ·rw[←hys]
  have hv':Value.slice (some ⟨blk,0,none⟩) D.size cap=v:=by rw[hD];exact hv.symm
  rw[hv']at hK' ⊢
  refine RowI.resort hC h hv hcap hml hsz D D' hD hDi hp hblks (fun i i' j u c F hc hF hk=>hK' i i' j u c F hc (fun b hb=>⟨(hF b hb).1,fun e=>(hF b hb).2 ?_⟩) hk)
  rw[hv]at e
  simp only[Value.ownBlock,qsI]at e
  exact e.symm

theorem Qp5u{N:Nm}{w:World}{u:Value}{c:AV Ty El}(h:RepA C N w u c)(hc:Qvgi c=true):shal c u:=by
 cases h<;>first|rfl|trivial|(rename_i h;exact⟨_,rfl,h⟩)|(simp[Qvgi]at hc)

theorem Qewq.sortFunc(hC:CodOK P C){T:Ty}{p:El T→Bool}[Inhabited (SEl C T p)]{cmp:El T→El T→Int}{f g:FuncId}(hs:Qja8 P C T p cmp f g){xs ys:List (El T)}{d:Nat}
  (hall:∀x∈xs,p x=true) (h0:1≤xs.length) (hbig:xs.length<4611686018427387904) (hu:∀zs:List (El T),zs.Perm xs→zs.Pairwise (fun a b=>¬cmp b a<0)→zs=ys) :
  Qewq P C f [.own 0 [] 0,.fn (.func g) []] [.row T xs d 0 0 .no] (.tup []) [.row T ys d 0 0 .no]:=by
 intro w N vs hN hsz hrep
 have ho:=hN.obj 0
 have hh0:hpOf ([.row T xs d 0 0 .no]:List (AObj Ty El)) 0=.row T xs d 0 0 .no:=rfl
 have hh0':hpOf ([.row T ys d 0 0 .no]:List (AObj Ty El)) 0=.row T ys d 0 0 .no:=rfl
 have hhs:∀(zs:List (El T)) r,hpOf ([.row T zs d 0 0 .no]:List (AObj Ty El)) (r+1)=.gone:=fun zs r=>by simp[hpOf]
 rw[hh0]at ho
 obtain⟨hone,hdeep⟩:=ho
 have hl0:0<vs.size:=by rw[hsz];simp
 have hl1:1<vs.size:=by rw[hsz];simp
 have r0:=(hrep 0 _ _ (Array.getElem?_eq_getElem hl0) rfl).inv_own
 have r1:=hrep 1 _ _ (Array.getElem?_eq_getElem hl1) rfl
 have e0:vs[0]=N.ν 0:=by
  have:=hN.reg 0 _ _ _ r0
  rw[hh0]at this
  exact this.2 rfl
 have e1:vs[1]=.func (.func g) #[] #[]:=by
  generalize vs[1]=u at r1
  cases r1 with
  | fn f vs cs hl h =>
   have:vs=#[]:=Array.size_eq_zero_iff.1 (by simpa using hl)
   rw[this]
 have ev:vs=#[N.ν 0,.func (.func g) #[] #[]]:=arr2 (by rw[hsz];rfl) (by rw[Array.getElem?_eq_getElem hl0,e0]) (by rw[Array.getElem?_eq_getElem hl1,e1])
 rw[ev]
 have hlt:∀b,N.F 0 b→b<w.heap.size:=fun b hb=>Deep.lt hC _ _ _ _ _ _ hdeep b hb
 have main:Calls P f #[N.ν 0,.func (.func g) #[] #[]] w fun en w'=>en=.returned (.tuple #[])∧(w'.os=w.os∧w'.tape=w.tape∧w'.output=w.output∧w.heap.size≤w'.heap.size)∧(∀b,b<w.heap.size→(N.ν 0).ownBlock≠some b→w'.heap[b]? = w.heap[b]?) ∧
   ((∀b,N.ro b→w'.heap[b]? = w.heap[b]?)→∀N':Nm,(∀b,N.ro b→N'.ro b)→Deep C N' w' d mskNo (N.F 0) (N.ν 0) T ys):=by
  cases d with
  | zero =>
   refine(Qjqt hC hs (K:=fun _ _ u c F=>flatK C N w u c F) (fun i j u c F hk hc=>Qp5u hk.1 hc) hdeep hall h0 hbig hu).mono ?_
   rintro en w' ⟨h1,h2,h3,h4⟩
   refine⟨h1,h2,h3,fun hro N' hN'=>h4 (fun _ _ u c F=>flatK C N' w' u c F) (fun i i' j u c F hc hF hk=>⟨hk.1.rfm hC hN' hro 1 (Qo9s hc 0),hk.2⟩)⟩
  | succ d =>
   refine(Qjqt hC hs (K:=fun i j u c F=>deepK C N w (Deep C N w d) (mskP .no) i j u c F) (fun i j u c F hk hc=>?_) hdeep hall h0 hbig hu).mono ?_
   ·cases c<;>first|trivial|exact Qp5u hk.1 hc
   rintro en w' ⟨h1,h2,h3,h4⟩
   refine⟨h1,h2,h3,fun hro N' hN'=>h4 (fun i j u c F=>deepK C N' w' (Deep C N' w' d) mskNo i j u c F) (fun i i' j u c F hc hF hk=>?_)⟩
   cases c with
   | sl U zs =>
    rcases hk with hk|hk
    ·exact hk.1.elim
    ·refine .inr ⟨fun h=>h, ?_⟩
     exact Deep.cast hC hN' hro d _ F u U zs hk.2 (fun b hb=>h3 b (hlt b (hF b hb).1) (hF b hb).2)
   | _=>exact⟨hk.1.rfm hC hN' hro 1 (Qo9s hc 0),hk.2⟩
 refine main.mono ?_
 rintro en w' ⟨rfl,⟨hos,htp,hout,hsize⟩,hblk,hdp⟩
 have hown:∀b,(N.ν 0).ownBlock=some b→N.F 0 b:=fun b hb=>by
  cases d with
  | zero=>obtain⟨e,cells,Fs,h⟩:=hdeep;exact(h.blk b).2 (.inl hb)
  | succ d=>obtain⟨e,cells,Fs,h⟩:=hdeep;exact(h.blk b).2 (.inl hb)
 have hro:∀b,N.ro b→w'.heap[b]? = w.heap[b]?:=fun b hb=>hblk b (hN.roLt b hb) (fun e=>hN.roNot 0 b (hown b e) hb)
 let N2:Nm:={ ν:=N.ν,F:=N.F,G:=fun r p v u=>r=0∧rowG C w' T ys (N.ν 0) d 0 0 .no p v u,ro:=N.ro }
 have hd2:Deep C N2 w' d mskNo (N.F 0) (N.ν 0) T ys:=hdp hro N2 (fun _ h=>h)
 refine⟨.tuple #[],N2,rfl,⟨fun r=>?_,fun r p v u hg=>?_,fun r=>?_,fun r p v u hg=>?_,fun r r' b h1 h2=>hN.dist r r' b h1 h2,fun r b h1 h2=>hN.roNot r b h1 h2,fun b hb=>Nat.lt_of_lt_of_le (hN.roLt b hb) hsize,hN.glTo hC (fun _ h=>h) hro⟩,.tup _ _ rfl (fun j v c hv=>by simp at hv),fun r hr hst=>rfl,fun b hb=>hb,fun b hb=>.inl hb,⟨hos,htp,hout,hsize,fun b hb hn=>hblk b hb (fun e=>hn ⟨0,hown b e⟩)⟩,fun k b hb=>.inr ⟨k,hb⟩⟩
 ·match r with
  | 0=>rw[hh0'];exact⟨hone,hd2⟩
  | r+1 =>
   rw[hhs]
   have:=hN.obj (r+1)
   rw[hhs]at this
   exact this
 ·obtain⟨rfl,hg⟩:=hg
  rw[hh0']
  rcases hg with ⟨rfl,rfl,rfl⟩|⟨hp,hpd,_,rfl,hh⟩
  ·exact⟨Nat.le_refl _,fun _=>rfl⟩
  ·cases p with
   | nil=>exact absurd rfl hp
   | cons q p=>exact⟨Nat.le_refl _,fun _ _ _=>hh⟩
 ·match r with
  | 0 =>
   rw[hh0']
   exact⟨⟨rfl,.inl ⟨rfl,rfl,rfl⟩⟩,fun p u h1 h2 h3 h4=>⟨rfl,.inr ⟨h1,h2,rfl,rfl,h4⟩⟩⟩
  | r+1=>rw[hhs];trivial
 ·obtain⟨rfl,hg⟩:=hg
  rcases hg with ⟨_,_,rfl⟩|⟨hp,hpd,_,_,hh⟩
  ·exact hone
  ·exact Qgbe p d _ _ _ _ _ u hd2 (fun _ h=>h) hone hpd hh
end
end Lx
namespace Lx
open Go Go.Proofs
def sortE(l:List Entry):List Entry:=l.mergeSort fun a b=>!Q7zj b.name a.name
def sortF(l:List Fld):List Fld:=l.mergeSort fun a b=>!decide (b.what<a.what)
def srtEK(xs:List Entry):Bool:=decide (1≤xs.length)&&(decide (xs.length≤1000000)&&decide ((xs.map Entry.name).Nodup))
def srtFK(xs:List Fld):Bool:=decide (1≤xs.length)&&(decide (xs.length≤1000000)&&(decide ((xs.map Fld.what).Nodup)&&xs.all fun f=>inR f.what (-1000) 1000))
def Qlpg:Ent Ty El:=⟨[.io,.ro],0,fun a h=>match a,h with
 | [.own 0 [] 0,.fn (.func g) []],[.row .entry xs 1 0 0 .no]=>some (decide (g=Qs8v)&&srtEK xs,.tup [],[.row .entry (sortE xs) 1 0 0 .no])
 | _,_=>none⟩
def Qpic:Ent Ty El:=⟨[.io,.ro],0,fun a h=>match a,h with
 | [.own 0 [] 0,.fn (.func g) []],[.row .fld xs 0 0 0 .no]=>some (decide (g=Qy91)&&srtFK xs,.tup [],[.row .fld (sortF xs) 0 0 0 .no])
 | _,_=>none⟩
def layB(es:List Entry)(n:Str):Bool:=!(decide (entIx es n<0)&&decide (12≤es.length))
def layF(es:List Entry)(n:Str)(f:Fld):List Entry:=if layB es n=true then putF es n f else es
def layK(ks:List Kind)(ps:List Point)(es:List Entry)(w:Int):Bool:=Qn0o ks ps es&&(goodB ks ps es&&inR w (-1000) 1000)
def Q7p0:Ent Ty El:=⟨[.io,.ro,.ro],1,fun a h=>match a,h with
 | [.ptr 0 0,.str n,.agg [.int .i64 w,.int .i64 m,.str v]],[.box [.own 1 [] 0,.own 2 [] 0,.own 3 [] 0],.row .kind ks 0 0 0 .no,.row .point ps 0 0 0 .no,.row .entry es 1 0 0 .no] =>
  some (layK ks ps es w,.bool (layB es n),[.box [.own 1 [] 0,.own 2 [] 0,.own 4 [] 0],.row .kind ks 0 0 0 .no,.row .point ps 0 0 0 .no,.out,.row .entry (layF es n ⟨w,m,v⟩) 1 0 0 .no])
 | _,_=>none⟩
theorem Q2ne(l:List Entry):(sortE l).Perm l∧(sortE l).Pairwise (fun a b=>¬Lib.compareBytes b.name a.name<0):=by
 refine⟨List.mergeSort_perm _ _,(List.pairwise_mergeSort (le:=fun a b:Entry=>!Q7zj b.name a.name) (fun a b c h1 h2=>?_) (fun a b=>?_) l).imp fun {a b} h=>?_⟩
 ·simp only[Bool.not_eq_true']at *
  exact(Qgb6 Entry.name).ntrans c b a h2 h1
 ·simp only[Bool.or_eq_true,Bool.not_eq_true']
  cases h:Q7zj b.name a.name with
  | false=>exact .inl rfl
  | true=>exact .inr (Qi83 h)
 ·rw[Q9yw];simpa using h
theorem Qcsw(l:List Fld):(sortF l).Perm l∧(sortF l).Pairwise (fun a b=>¬b.what<a.what):=by
 refine⟨List.mergeSort_perm _ _,(List.pairwise_mergeSort (le:=fun a b:Fld=>!decide (b.what<a.what)) (fun a b c h1 h2=>?_) (fun a b=>?_) l).imp fun {a b} h=>?_⟩
 ·simp only[Bool.not_eq_true',decide_eq_false_iff_not]at *;omega
 ·simp only[Bool.or_eq_true,Bool.not_eq_true',decide_eq_false_iff_not];omega
 ·simpa using h
end Lx
namespace Lx
open Go Go.Proofs Go.Sort Go.RowKit
theorem Qzus(a b:ByteArray)(w:World):Calls Tryz.prog 179 #[.string a,.string b] w fun e w'=>e=.returned (.int .i64 (Lib.compareBytes a.data.toList b.data.toList))∧w'=w:=Any.strings_Compare Tryz.lays106 a b w
theorem grow2(w:World)(o o':Obj):(w.alloc o).alloc o'=grow (w.drewN 0) #[o,o']:=by
 rw[alloc_eq_grow,alloc_eq_grow,grow_grow];rfl
set_option maxRecDepth 100000 in
theorem Qgyc(a b:ByteArray)(u v:Value)(w:World)(hu:u.oneCell'=true)(hv:v.oneCell'=true) :
  Calls Tryz.prog 178 #[.agg #[.string a,u],.agg #[.string b,v]] w fun e w'=>e=.returned (.int .i64 (Lib.compareBytes a.data.toList b.data.toList))∧∃q os',w'=grow (w.drewN q) os':=by
 go_enter Tryz.func178,Tryz.ntmps178
 go_wp2_with (go_at_call 179;refine(Qzus _ _ _).mono ?_;rintro e w' ⟨rfl,rfl⟩)
 go_ret
 exact⟨rfl,0,_,grow2 _ _ _⟩
set_option maxRecDepth 100000 in
theorem Qjsb(a b c d:Int)(s t:ByteArray)(w:World)(h1:-1000≤a)(h2:a≤1000)(h3:-1000≤c)(h4:c≤1000) :
  Calls Tryz.prog 181 #[.agg #[.int .i64 a,.int .i64 b,.string s],.agg #[.int .i64 c,.int .i64 d,.string t]] w fun e w'=>e=.returned (.int .i64 (a-c))∧∃q os',w'=grow (w.drewN q) os':=by
 go_enter Tryz.func181,Tryz.ntmps181
 go_wp2
 go_ret
 exact⟨by first|rfl|(rw[Qbrg (by omega) (by omega)]),0,_,grow2 _ _ _⟩
instance:Inhabited (SEl CP .entry (fun _=>true)):=⟨SEl.dflt CP_ok .entry rfl⟩
def okW(f:Fld):Bool:=inR f.what (-1000) 1000
instance:Inhabited (SEl CP .fld okW):=⟨SEl.dflt CP_ok .fld rfl⟩
theorem list2{α:Type}{l:List α}(h:l.length=2):∃a b,l=[a,b]:=by
 match l,h with
 | [a,b],_=>exact⟨a,b,rfl⟩
theorem list3{α:Type}{l:List α}(h:l.length=3):∃a b c,l=[a,b,c]:=by
 match l,h with
 | [a,b,c],_=>exact⟨a,b,c,rfl⟩
theorem Q488{p:Entry→Bool}(x:SEl CP .entry p):∃s u,x.vs=[.string s,u]∧s.data.toList=x.x.name∧u.oneCell'=true:=by
 obtain⟨a,b,e⟩:=list2 (show x.vs.length=2 from x.len)
 obtain⟨s,rfl,hs⟩:=x.sh 0 (.str x.x.name) a rfl (by rw[e];rfl)
 exact⟨s,b,e,hs,x.one b (by rw[e];simp)⟩
theorem Qcbp{p:Fld→Bool}(x:SEl CP .fld p):∃n s,x.vs=[.int .i64 x.x.what,.int .i64 n,.string s]:=by
 obtain⟨a,b,c,e⟩:=list3 (show x.vs.length=3 from x.len)
 have h0:a=.int .i64 x.x.what:=x.sh 0 (.int .i64 x.x.what) a rfl (by rw[e];rfl)
 have h1:b=.int .i64 x.x.number:=x.sh 1 (.int .i64 x.x.number) b rfl (by rw[e];rfl)
 obtain⟨s,h2,_⟩:=x.sh 2 (.str x.x.value) c rfl (by rw[e];rfl)
 exact⟨_,s,by rw[e,h0,h1,h2]⟩
theorem Qnjx:Qja8 Tryz.prog CP .entry (fun _=>true) (fun a b:Entry=>Lib.compareBytes a.name b.name) Qq3g Qs8v:=by
 intro blk cap D w hH hblk hsz
 have hlt:(ltOf fun x y:SEl CP .entry (fun _=>true)=>Lib.compareBytes x.x.name y.x.name)=fun x y=>Q7zj x.x.name y.x.name:=by
  funext x y
  unfold ltOf
  have:=Q9yw x.x.name y.x.name
  cases h:Q7zj x.x.name y.x.name with
  | true=>exact decide_eq_true (this.2 h)
  | false=>exact decide_eq_false (fun h2=>by rw[this.1 h2]at h;cases h)
 refine AnyQ.slices_SortFunc Tryz.laysE 2 Tryz.isAgg92 Tryz.sizeOf92 SEl.vs (fun x:SEl CP .entry (fun _=>true)=>x.len) (fun x=>x.one) (fun x y=>Lib.compareBytes x.x.name y.x.name) (by rw[hlt];exact Qgb6 fun x:SEl CP .entry (fun _=>true)=>x.x.name) 178 #[] blk 0 cap D w (enters_of Tryz.func178 (by kernel_rfl) rfl) ?_ hH hblk hsz
 intro m os dk hs x y
 obtain⟨s,u,e1,e2,e3⟩:=Q488 x
 obtain⟨s',u',f1,f2,f3⟩:=Q488 y
 have hw:=Qgyc s s' u u' (sortWorldK SEl.vs 2 w blk 0 m dk os) e3 f3
 rw[e2,f2]at hw
 rw[e1,f1]
 exact hw
theorem Qmd2:Qja8 Tryz.prog CP .fld okW (fun a b:Fld=>a.what-b.what) Qbq3 Qy91:=by
 intro blk cap D w hH hblk hsz
 have hlt:(ltOf fun x y:SEl CP .fld okW=>x.x.what-y.x.what)=fun x y=>decide (x.x.what<y.x.what):=by
  funext x y
  unfold ltOf
  rw[decide_eq_decide];show x.x.what-y.x.what<0↔_;omega
 refine AnyQ.slices_SortFunc Tryz.laysF 3 Tryz.isAgg94 Tryz.sizeOf94 SEl.vs (fun x:SEl CP .fld okW=>x.len) (fun x=>x.one) (fun x y=>x.x.what-y.x.what) (by rw[hlt];exact Qy04 fun x:SEl CP .fld okW=>x.x.what) 181 #[] blk 0 cap D w (enters_of Tryz.func181 (by kernel_rfl) rfl) ?_ hH hblk hsz
 intro m os dk hs x y
 obtain⟨n,s,e⟩:=Qcbp x
 obtain⟨n',s',e'⟩:=Qcbp y
 have hx:=x.hp
 have hy:=y.hp
 simp only[okW,inR,qaT,qdT]at hx hy
 rw[e,e']
 exact Qjsb _ _ _ _ _ _ _ hx.1 hx.2 hy.1 hy.2
theorem Qudc{α β:Type}(key:α→β){l:List α}(h:(l.map key).Nodup):l.Pairwise fun a b=>key a≠key b:=List.pairwise_map.1 h
theorem Qct0(xs:List Entry)(hg:srtEK xs=true):Qewq Tryz.prog CP Qq3g [.own 0 [] 0,.fn (.func Qs8v) []] [.row .entry xs 1 0 0 .no] (.tup []) [.row .entry (sortE xs) 1 0 0 .no]:=by
 simp only[srtEK,qaT,qdT]at hg
 obtain⟨h1,h2,h3⟩:=hg
 have ne:=Qudc Entry.name h3
 refine Qewq.sortFunc CP_ok Qnjx (fun _ _=>rfl) h1 (Nat.lt_of_le_of_lt h2 (by decide)) (fun zs hp hz=>?_)
 obtain⟨hp2,hs2⟩:=Q2ne xs
 refine(hp.trans hp2.symm).eq_of_pairwise (le:=fun a b:Entry=>¬Lib.compareBytes b.name a.name<0) (fun a b ha hb q1 q2=>?_) hz hs2
 rw[Q9yw]at q1 q2
 exact Qrj0 Entry.name ne (hp.mem_iff.1 ha) (hp2.mem_iff.1 hb) (Qj9t _ _ (by simpa using q2) (by simpa using q1))
theorem Q15v(xs:List Fld)(hg:srtFK xs=true):Qewq Tryz.prog CP Qbq3 [.own 0 [] 0,.fn (.func Qy91) []] [.row .fld xs 0 0 0 .no] (.tup []) [.row .fld (sortF xs) 0 0 0 .no]:=by
 simp only[srtFK,qaT,qdT]at hg
 obtain⟨h1,h2,h3,h4⟩:=hg
 have ne:=Qudc Fld.what h3
 refine Qewq.sortFunc CP_ok Qmd2 (fun x hx=>qlA.1 h4 x hx) h1 (Nat.lt_of_le_of_lt h2 (by decide)) (fun zs hp hz=>?_)
 obtain⟨hp2,hs2⟩:=Qcsw xs
 refine(hp.trans hp2.symm).eq_of_pairwise (le:=fun a b:Fld=>¬b.what<a.what) (fun a b ha hb q1 q2=>?_) (hz.imp fun {a b} h=>by omega) hs2
 exact Qrj0 Fld.what ne (hp.mem_iff.1 ha) (hp2.mem_iff.1 hb) (by omega)
theorem Q9pe:EntOK Tryz.prog CP Qq3g Qlpg:=by
 refine⟨eob (by kernel_rfl),fun _ _ _ _ h=>?_⟩
 simp only[Qlpg]at h
 split at h
 ·simp only[qsI,qpI,qaT,qdT]at h
  obtain⟨⟨rfl,hg⟩,rfl,rfl⟩:=h
  exact Qct0 _ hg
 ·cases h
theorem Qp8x:EntOK Tryz.prog CP Qbq3 Qpic:=by
 refine⟨eob (by kernel_rfl),fun _ _ _ _ h=>?_⟩
 simp only[Qpic]at h
 split at h
 ·simp only[qsI,qpI,qaT,qdT]at h
  obtain⟨⟨rfl,hg⟩,rfl,rfl⟩:=h
  exact Q15v _ hg
 ·cases h
end Lx
namespace Lx
open Go Go.Proofs
noncomputable def Qmyl:RE Ty El:=⟨Tryz.prog,CP,[],Tryz.f148,0,[],[]⟩
theorem Qzd8:REOK Qmyl Qcg7:=⟨CP_ok,Qye1,by kernel_rfl,by kernel_rfl⟩
theorem Qizp(a b c d:Int)(s t:Str):aRun Qmyl 600 false (body0 Qmyl.fn) (Q4gm Qmyl.fn [.agg [.int .i64 a,.int .i64 b,.str s],.agg [.int .i64 c,.int .i64 d,.str t]] []) =
 ifb (decide (b>d)) (some (.ret (.bool true) [])) (ifb (b==d) (some (.ret (.bool (!(Q7zj s t||s==t))) [])) (some (.ret (.bool false) []))):=by kernel_rfl
theorem Qfh4(a b c d:Int)(s t:Str):Qewq Tryz.prog CP Qcg7 [.agg [.int .i64 a,.int .i64 b,.str s],.agg [.int .i64 c,.int .i64 d,.str t]] [] (.bool (Fld.later ⟨a,b,s⟩ ⟨c,d,t⟩)) []:=by
 refine Qewq.of Qzd8 (by kernel_rfl) (Qizp a b c d s t) ?_
 rw[le_lt,Bool.not_not]
 by_cases h:b=d
 ·subst h
  rw[show decide (b>b)=false by simp,show(b==b)=true by simp,show Fld.later ⟨a,b,s⟩ ⟨c,b,t⟩=Q7zj t s from if_pos rfl]
  exact Sat.ret rfl rfl
 ·rw[show(b==d)=false by simp[h],show Fld.later ⟨a,b,s⟩ ⟨c,d,t⟩=decide (b>d) from if_neg h]
  cases decide (b>d)<;>exact Sat.ret rfl rfl
theorem Q2xi:EntOK Tryz.prog CP Qcg7 Qdx1:=by
 refine⟨eob (by kernel_rfl),fun _ _ _ _ h=>?_⟩
 simp only[Qdx1,Q7bn]at h
 split at h
 ·obtain⟨hg,rfl,rfl⟩:=eoh h
  exact Qfh4 _ _ _ _ _ _
 ·cases h

noncomputable def Qnpa:RE Ty El:=⟨Tryz.prog,CP,[(Q659,Qb5f),(Qcg7,Qdx1),(Qq3g,Qlpg),(Qbq3,Qpic)],Tryz.f98,4,[],[(10,[(5,.any),(8,.any),(51,.any),(52,.any)])]⟩
theorem Q9op:REOK Qnpa Qg00:=⟨CP_ok,(TabOK.cons Q4vp (TabOK.cons Q2xi (TabOK.cons Q9pe (TabOK.cons Qp8x Qye1)))),by kernel_rfl,by kernel_rfl⟩
theorem Qqqo(ks:List Kind)(ps:List Point)(es:List Entry)(n:Str)(w m:Int)(v:Str):aRun Qnpa 600 false (body0 Qnpa.fn) (Q4gm Qnpa.fn [.ptr 0 0,.str n,.agg [.int .i64 w,.int .i64 m,.str v]] [.box [.own 1 [] 0,.own 2 [] 0,.own 3 [] 0],.row .kind ks 0 0 0 .no,.row .point ps 0 0 0 .no,.row .entry es 1 0 0 .no]) =
 ifb (decide (es.length<(1000000000:Nat))) (ifb (decide (idxF (fun p=>p.name==n) es<0)) (ifb (decide ((↑es.length:Int)≥(12:Int))) (some (.ret (.bool false) [.box [.own 1 [] 0,.own 2 [] 0,.own 3 [] 0],.row .kind ks 0 0 0 .no,.row .point ps 0 0 0 .no,.row .entry es 1 0 0 .no])) (ifb (decide ((es.length+[Entry.mk n [Fld.mk w m v]].length)*Qbhn Qnpa.P (92:Nat)≤(140737488355328:Nat))) (ifb (decide ((178:Nat)=Qs8v)&&srtEK (es++[Entry.mk n [Fld.mk w m v]])) (some (.ret (.bool true) [.box [.own 1 [] 0,.own 2 [] 0,.own 4 [] 0],.row .kind ks 0 0 0 .no,.row .point ps 0 0 0 .no,.out,.row .entry (sortE (es++[Entry.mk n [Fld.mk w m v]])) 1 0 0 .no])) none) none)) (ifb (inb (idxF (fun p=>p.name==n) es) es.length) (some (.go (Qu6t Qnpa.fn 10) [.ptr 4 0,.eptr 3 [] 0 2 (Int.toNat (idxF (fun p=>p.name==n) es)) 0,.int .i64 ((↑(es.getD (idxF (fun p=>p.name==n) es).toNat (Qnpa.C.dflt Ty.entry)).fields.length:Int)),.int .i64 0] [.box [.own 1 [] 0,.own 2 [] 0,.own 3 [] 0],.row .kind ks 0 0 0 .no,.row .point ps 0 0 0 .no,.row .entry es 1 0 0 .no,.box [.int .i64 w,.int .i64 m,.str v]])) none)) none:=by kernel_rfl
theorem Qv3c(x0:Nat)(x1:Int)(x2:Int)(x3:List (El .kind))(x4:List (El .point))(x5:List (El .entry))(x6:Int)(x7:Int)(x8:Str):aRun Qnpa 600 true (Qu6t Qnpa.fn 10) (cutSt Qnpa.fn (Q1m4 Qnpa (Qu6t Qnpa.fn 10)) [.ptr 4 0,.eptr 3 [] 0 2 x0 0,.int .i64 x1,.int .i64 x2] [.box [.own 1 [] 0,.own 2 [] 0,.own 3 [] 0],.row .kind x3 0 0 0 .no,.row .point x4 0 0 0 .no,.row .entry x5 1 0 0 .no,.box [.int .i64 x6,.int .i64 x7,.str x8]]) =
 let z1:=(Qnpa.C.dflt Ty.entry);let z2:=(x5.getD x0 z1);let z3:=(z2.fields.getD x2.toNat (Qnpa.C.dflt Ty.fld));let z4:=(inb x2 z2.fields.length);let z5:=(x5.set x0 (Entry.mk z2.name []));let z0:=(z5.set x0 (Entry.mk (z5.getD x0 z1).name (z2.fields++[Fld.mk x6 x7 x8])));ifb (decide (x2<x1)) (ifb z4 (ifb (z3.what==x6) (ifb z4 (ifb ((Fld.mk x6 x7 x8).later z3) (ifb z4 (some (.ret (.bool true) [.box [.own 1 [] 0,.own 2 [] 0,.own 3 [] 0],.row .kind x3 0 0 0 .no,.row .point x4 0 0 0 .no,.row .entry (x5.set x0 (Entry.mk z2.name (z2.fields.set x2.toNat (Fld.mk x6 x7 x8)))) 1 0 0 .no])) none) (some (.ret (.bool true) [.box [.own 1 [] 0,.own 2 [] 0,.own 3 [] 0],.row .kind x3 0 0 0 .no,.row .point x4 0 0 0 .no,.row .entry x5 1 0 0 .no]))) none) (some (.go (Qu6t Qnpa.fn 10) [.ptr 4 0,.eptr 3 [] 0 2 x0 0,.int .i64 x1,.int .i64 (IntKind.i64.wrap (x2+1))] [.box [.own 1 [] 0,.own 2 [] 0,.own 3 [] 0],.row .kind x3 0 0 0 .no,.row .point x4 0 0 0 .no,.row .entry x5 1 0 0 .no,.box [.int .i64 x6,.int .i64 x7,.str x8]]))) none) (ifb (decide ((z2.fields.length+[Fld.mk x6 x7 x8].length)*Qbhn Qnpa.P (94:Nat)≤(140737488355328:Nat))) (ifb (decide (x0=x0)) (ifb (decide ((181:Nat)=Qy91)&&srtFK (z0.getD x0 z1).fields) (some (.ret (.bool true) [.box [.own 1 [] 0,.own 2 [] 0,.own 3 [] 0],.row .kind x3 0 0 0 .no,.row .point x4 0 0 0 .no,.row .entry (z0.set x0 (Entry.mk (z0.getD x0 z1).name (sortF (z0.getD x0 z1).fields))) 1 0 0 .no])) none) none) none):=by kernel_rfl
theorem Qm9i(ks:List Kind)(ps:List Point)(es:List Entry)(n:Str)(w m:Int)(v:Str)(i:Nat)(hi:i<es.length)(hs:Qvhg (es.getD i (dfltP .entry)).fields)(h5:(es.getD i (dfltP .entry)).fields.length≤5)(hw1:∀g∈(es.getD i (dfltP .entry)).fields,1≤g.what∧g.what≤5)(hw:-1000≤w∧w≤1000):∀(d k:Nat),k+d=(es.getD i (dfltP .entry)).fields.length→(∀g∈(es.getD i (dfltP .entry)).fields.take k,g.what≠w) →
  Cut Qnpa Qg00 10 [.ptr 4 0,.eptr 3 [] 0 2 i 0,.int .i64 ((es.getD i (dfltP .entry)).fields.length:Int),.int .i64 (k:Int)] [.box [.own 1 [] 0,.own 2 [] 0,.own 3 [] 0],.row .kind ks 0 0 0 .no,.row .point ps 0 0 0 .no,.row .entry es 1 0 0 .no,.box [.int .i64 w,.int .i64 m,.str v]] (.bool true) [.box [.own 1 [] 0,.own 2 [] 0,.own 3 [] 0],.row .kind ks 0 0 0 .no,.row .point ps 0 0 0 .no,.row .entry (es.set i ⟨(es.getD i (dfltP .entry)).name,Qul0 (es.getD i (dfltP .entry)).fields ⟨w,m,v⟩⟩) 1 0 0 .no]:=by
 have hb92:Qbhn Qnpa.P 92≤256:=of_decide_eq_true (by kernel_rfl)
 have hb94:Qbhn Qnpa.P 94≤256:=of_decide_eq_true (by kernel_rfl)
 have hdd:Qnpa.C.dflt Ty.entry=dfltP .entry:=rfl
 intro d
 induction d with
 | zero =>
  intro k hk hno
  refine Cut.of Q9op rfl (Qv3c i _ k ks ps es w m v) ?_
  conv=>zeta
  rw[hdd]
  have g1:∀y:Entry,(es.set i y).getD i (dfltP .entry)=y:=fun y=>by rw[qgD,List.getElem?_set_self hi];rfl
  simp only[List.set_set,g1]
  generalize es.getD i (dfltP .entry)=e at *
  rw[List.take_of_length_le (by omega)]at hno
  have hK:srtFK (e.fields++[⟨w,m,v⟩])=true:=by
   simp only[srtFK,qaT,qdT]
   refine⟨by simp,by simp;omega, ?_,qlA.2 fun g hg=>?_⟩
   ·rw[List.map_append,List.nodup_append]
    refine⟨List.pairwise_map.2 (hs.imp fun {a b} h=>by omega),by simp,fun a ha b hb=>?_⟩
    obtain⟨g,hg,rfl⟩:=List.mem_map.1 ha
    simp only[List.map_cons,List.map_nil,List.mem_singleton]at hb
    subst hb
    exact hno g hg
   ·simp only[inR,qaT,qdT]
    rcases List.mem_append.1 hg with hg|hg
    ·have:=hw1 g hg;omega
    ·simp only[List.mem_singleton]at hg;subst hg;exact hw
  rw[show decide ((k:Int)<(e.fields.length:Int))=false from decide_eq_false (by omega),Q1mk hb94 (by first|omega|(simp;omega)),hK]
  simp only[Qd8q,Qk7y,decide_true,Bool.and_true]
  obtain⟨p1,p2⟩:=Qcsw (e.fields++[⟨w,m,v⟩])
  have hf:sortF (e.fields++[⟨w,m,v⟩])=Qul0 e.fields ⟨w,m,v⟩:=Qbxf hs hno p1 p2
  rw[hf]
  exact Sat.ret rfl rfl
 | succ d ih =>
  intro k hk hno
  refine Cut.of Q9op rfl (Qv3c i _ k ks ps es w m v) ?_
  conv=>zeta
  rw[hdd]
  have nx:=ih (k+1) (by omega)
  generalize he:es.getD i (dfltP .entry)=e at *
  generalize hef:e.fields=l at *
  have hlt:k<l.length:=by omega
  have hw:IntKind.wrap .i64 ((k:Int)+1)=((k+1:Nat):Int):=by rw[Qbrg]<;>omega
  have hw1:IntKind.wrap .i64 ((k:Int)-1)=(k:Int)-1:=by rw[Qbrg]<;>omega
  have hx:l.getD (k:Int).toNat (Qnpa.C.dflt .fld)=l[k]:=by simp[hlt]
  have hin:inb (k:Int) l.length=true:=by simp only[inb,qaT,qdT];omega
  have hlo:decide ((k:Int)<(l.length:Int))=true:=decide_eq_true (by omega)
  have htk:=qtS hlt
  rw[hlo,hin,hx,hw]
  simp only[Qd8q]
  by_cases h1:l[k].what=w
  ·rw[show(l[k].what==w)=true by simp[h1]]
   simp only[Qd8q]
   have hh:=Qlnx (f:=⟨w,m,v⟩) hlt hs h1
   cases h3:Fld.later ⟨w,m,v⟩ l[k] with
   | true =>
    rw[h3,if_pos rfl]at hh
    rw[hh]
    exact Sat.ret rfl rfl
   | false =>
    rw[h3,if_neg (by simp)]at hh
    rw[hh]
    refine Sat.ret rfl ?_
    have:(Entry.mk e.name l)=es.getD i (dfltP .entry):=by rw[he,←hef]
    rw[this]
    have e2:es.set i (es.getD i (dfltP .entry))=es:=by
     rw[qgD,qeG hi];exact List.set_getElem_self hi
    rw[e2]
  ·rw[show(l[k].what==w)=false by simp[h1]]
   refine Sat.cut (nx (fun g hg=>?_))
   rw[htk]at hg
   rcases List.mem_append.1 hg with hg|hg
   ·exact hno g hg
   ·simp only[List.mem_singleton]at hg;subst hg;exact h1
theorem Qafw(ks:List Kind)(ps:List Point)(es:List Entry)(n:Str)(w m:Int)(v:Str)(hg:layK ks ps es w=true):Qewq Tryz.prog CP Qg00 [.ptr 0 0,.str n,.agg [.int .i64 w,.int .i64 m,.str v]] [.box [.own 1 [] 0,.own 2 [] 0,.own 3 [] 0],.row .kind ks 0 0 0 .no,.row .point ps 0 0 0 .no,.row .entry es 1 0 0 .no] (.bool (layB es n)) [.box [.own 1 [] 0,.own 2 [] 0,.own 4 [] 0],.row .kind ks 0 0 0 .no,.row .point ps 0 0 0 .no,.out,.row .entry (layF es n ⟨w,m,v⟩) 1 0 0 .no]:=by
 simp only[layK,qaT]at hg
 obtain⟨hb,hgd,hw⟩:=hg
 simp only[inR,qaT,qdT]at hw
 have hb92:Qbhn Qnpa.P 92≤256:=of_decide_eq_true (by kernel_rfl)
 have hb94:Qbhn Qnpa.P 94≤256:=of_decide_eq_true (by kernel_rfl)
 obtain⟨h12,hf5⟩:=Qm34 hb
 obtain⟨hes,hfs⟩:=Qwk3 hb
 have mv:∀(b:Bool) (zs:List Entry),Qewq Tryz.prog CP Qg00 [.ptr 0 0,.str n,.agg [.int .i64 w,.int .i64 m,.str v]] [.box [.own 1 [] 0,.own 2 [] 0,.own 3 [] 0],.row .kind ks 0 0 0 .no,.row .point ps 0 0 0 .no,.row .entry es 1 0 0 .no] (.bool b) [.box [.own 1 [] 0,.own 2 [] 0,.own 3 [] 0],.row .kind ks 0 0 0 .no,.row .point ps 0 0 0 .no,.row .entry zs 1 0 0 .no]→Qewq Tryz.prog CP Qg00 [.ptr 0 0,.str n,.agg [.int .i64 w,.int .i64 m,.str v]] [.box [.own 1 [] 0,.own 2 [] 0,.own 3 [] 0],.row .kind ks 0 0 0 .no,.row .point ps 0 0 0 .no,.row .entry es 1 0 0 .no] (.bool b) [.box [.own 1 [] 0,.own 2 [] 0,.own 4 [] 0],.row .kind ks 0 0 0 .no,.row .point ps 0 0 0 .no,.out,.row .entry zs 1 0 0 .no]:=fun b zs h=>Qewq.moveAt CP_ok h 3 (by simp) (by simp) rfl rfl rfl
 have hlen:decide (es.length<1000000000)=true:=decide_eq_true (by omega)
 by_cases h0:entIx es n<0
 ·have hix:decide (idxF (fun p=>p.name==n) es<(0:Int))=true:=decide_eq_true h0
  by_cases h1:12≤es.length
  ·have hB:layB es n=false:=by simp only[layB,decide_eq_true h0,decide_eq_true h1];rfl
   have hF:layF es n ⟨w,m,v⟩=es:=by rw[layF,hB];rfl
   rw[hB,hF]
   refine mv false es (Qewq.of Q9op (by kernel_rfl) (Qqqo ks ps es n w m v) ?_)
   rw[hlen,hix,show decide ((es.length:Int)≥12)=true from decide_eq_true (by omega)]
   exact Sat.ret rfl rfl
  ·have hB:layB es n=true:=by simp only[layB,decide_eq_true h0,decide_eq_false h1];rfl
   have hno:=Q853 h0
   have hK:srtEK (es++[Entry.mk n [Fld.mk w m v]])=true:=by
    simp only[srtEK,qaT,qdT]
    refine⟨by simp,by simp;omega, ?_⟩
    rw[List.map_append,List.nodup_append]
    refine⟨List.pairwise_map.2 (hes.imp fun {a b} h e=>by rw[e,Qqw5]at h;cases h),by simp,fun a ha b hb=>?_⟩
    obtain⟨g,hg,rfl⟩:=List.mem_map.1 ha
    simp only[List.map_cons,List.map_nil,List.mem_singleton]at hb
    subst hb
    exact hno g hg
   obtain⟨p1,p2⟩:=Q2ne (es++[Entry.mk n [Fld.mk w m v]])
   have hS:sortE (es++[Entry.mk n [Fld.mk w m v]])=insE es n ⟨w,m,v⟩:=Qbw4 hes hno p1 p2
   have hF:layF es n ⟨w,m,v⟩=insE es n ⟨w,m,v⟩:=by rw[layF,hB,if_pos rfl,Qk9v (by omega)]
   rw[hB,hF]
   refine Qewq.of Q9op (by kernel_rfl) (Qqqo ks ps es n w m v) ?_
   rw[hlen,hix,show decide ((es.length:Int)≥12)=false from decide_eq_false (by omega),Q1mk hb92 (by first|omega|(simp;omega)),hK,hS]
   exact Sat.ret rfl rfl
 ·have h0':0≤entIx es n:=by omega
  have hB:layB es n=true:=by simp only[layB,decide_eq_false h0];rfl
  have hF:layF es n ⟨w,m,v⟩=putF es n ⟨w,m,v⟩:=by rw[layF,hB,if_pos rfl]
  rw[hB,hF,Q5v6 h0']
  refine mv true _ (Qewq.of Q9op (by kernel_rfl) (Qqqo ks ps es n w m v) ?_)
  have hi:=Qohw h0'
  have hlt:(entIx es n).toNat<es.length:=by have h2:entIx es n<(es.length:Int):=Q1mf;omega
  have hm:=Qhwx h0'
  have hok:∀g∈(es.getD (entIx es n).toNat (dfltP .entry)).fields,1≤g.what∧g.what≤5:=fun g hg=>by
   simp only[Qn0o,qaT]at hb
   have ho:=Qmra es _ hb.2.2 _ hm
   simp only[Q7i7,qaT]at ho
   exact Q3ut (Qx66 ho.2.2 g hg)
  rw[hlen,show decide (idxF (fun p=>p.name==n) es<(0:Int))=false from decide_eq_false h0]
  simp only[Qd8q,Qk7y]
  refine Sat.ifb (fun _=>?_) (fun e=>absurd (hi.symm.trans e) (by simp))
  exact Sat.cut (Qm9i ks ps es n w m v _ hlt (hfs _ hm).1 (hf5 _ hm) hok hw (es.getD (entIx es n).toNat (dfltP .entry)).fields.length 0 (by omega) (by simp))
theorem Qtc1:EntOK Tryz.prog CP Qg00 Q7p0:=by
 refine⟨eob (by kernel_rfl),fun _ _ _ _ h=>?_⟩
 simp only[Q7p0]at h
 split at h
 ·obtain⟨hg,rfl,rfl⟩:=eoh h
  exact Qafw _ _ _ _ _ _ _ hg
 ·cases h
end Lx
namespace Lx
open Go Go.Proofs
end Lx
namespace Lx
open Go Go.Proofs
end Lx
namespace Lx
open Go Go.Proofs
theorem Q4l8{es:List Entry}(hb:Q1re es){e:Entry}(he:e∈es){f:Fld}(hf:f∈e.fields):lk es e.name f.what=some f:=by
 rw[lk,Qf8a hb.1 he]
 exact(Qw35 (hb.2 e he).1 f).1 hf
theorem take_zero{ks:List Kind}{ps:List Point}{es:List Entry}{c:Chg}(h:(takeF ks ps es c).code=0):Qn0o ks ps es=true∧Qs7k ks ps c=true∧¬(entIx es c.flight<0∧12≤es.length)∧takeF ks ps es c=⟨ks,ps,putF es c.flight ⟨c.what,c.number,c.value⟩,0⟩:=by
 unfold takeF at h ⊢
 by_cases h1:Qn0o ks ps es=true
 ·rw[if_pos h1]at h ⊢
  by_cases h2:Qs7k ks ps c=true
  ·rw[if_pos h2]at h ⊢
   by_cases h3:entIx es c.flight<0∧12≤es.length
   ·rw[if_pos h3]at h;cases h
   ·rw[if_neg h3];exact⟨h1,h2,h3,rfl⟩
  ·rw[if_neg h2]at h;cases h
 ·rw[if_neg h1]at h;cases h
end Lx
namespace Lx
open Go Go.Proofs
end Lx
namespace Lx
open Go Go.Proofs
end Lx
namespace Lx
open Go Go.Proofs
end Lx
namespace Lx
open Go Go.Proofs
end Lx
namespace Lx
open Go Go.Proofs
end Lx
namespace Lx
open Go Go.Proofs
end Lx
namespace Lx
open Go Go.Proofs
end Lx
namespace Lx
open Go Go.Proofs
end Lx
namespace Lx
open Go Go.Proofs
end Lx
namespace Lx
open Go Go.Proofs
structure TaR where
 ks:List Kind
 ps:List Point
 es:List Entry
 cs:List Int
end Lx
namespace Lx
open Go Go.Proofs
def putC(es:List Entry)(c:Chg):List Entry:=putS es c.flight ⟨c.what,c.number,c.value⟩
theorem Qcth{es:List Entry}(h:Q1re es)(c:Chg):Q1re (putC es c):=Qujd _ _ h
theorem Qv4f:∀(l:List Chg) {es:List Entry},Q1re es→Q1re (l.foldl putC es)
 | [],_,h=>h
 | c::l,es,h=>Qv4f l (Qcth h c)
def nms(es:List Entry):List Str:=es.map Entry.name
theorem Q9vl(n:Str)(f:Fld)(m:Str):∀es:List Entry,m∈nms (putS es n f)↔m=n∨m∈nms es
 | []=>by simp[putS,nms]
 | e::r=>by
  have ih:=Q9vl n f m r
  unfold nms at ih ⊢
  rw[putS]
  by_cases h1:e.name=n
  ·rw[if_pos h1]
   simp only[List.map_cons,List.mem_cons,h1]
   constructor
   ·rintro(h|h)
    ·exact .inl h
    ·exact .inr (.inr h)
   ·rintro(h|h|h)
    ·exact .inl h
    ·exact .inl h
    ·exact .inr h
  ·rw[if_neg h1]
   split
   ·simp only[List.map_cons,List.mem_cons,ih]
    constructor
    ·rintro(h|h|h)
     ·exact .inr (.inl h)
     ·exact .inl h
     ·exact .inr (.inr h)
    ·rintro(h|h|h)
     ·exact .inr (.inl h)
     ·exact .inl h
     ·exact .inr (.inr h)
   ·simp only[List.map_cons,List.mem_cons]
theorem Q9gn{es:List Entry}(h:Qurt es):(nms es).Nodup:=List.pairwise_map.2 (h.imp fun {a b} h e=>by rw[e,Qqw5]at h;cases h)
theorem Qaqm:∀{l m:List Str},l.Nodup→(∀x∈l,x∈m)→l.length≤m.length
 | [],m,_,_=>Nat.zero_le _
 | a::l,m,h,hs=>by
  rw[List.nodup_cons]at h
  have ha:=hs a (List.mem_cons_self ..)
  have:=Qaqm (l:=l) (m:=m.erase a) h.2 (fun x hx=>by
   have hne:x≠a:=fun e=>h.1 (e▸hx)
   exact(List.mem_erase_of_ne hne).2 (hs x (List.mem_cons_of_mem _ hx)))
  rw[List.length_erase_of_mem ha]at this
  have hp:=List.length_pos_of_mem ha
  simp only[List.length_cons]
  omega
theorem Q5oq{ks:List Kind}{ps:List Point}{es:List Entry}{c:Chg}(hb:Qn0o ks ps es=true):(takeF ks ps es c).es=if Qs7k ks ps c=true then (if entIx es c.flight<0∧12≤es.length then es else putC es c) else es:=by
 unfold takeF
 rw[if_pos hb]
 by_cases h1:Qs7k ks ps c=true
 ·rw[if_pos h1,if_pos h1]
  by_cases h2:entIx es c.flight<0∧12≤es.length
  ·rw[if_pos h2,if_pos h2]
  ·rw[if_neg h2,if_neg h2]
   exact Qsz7 _ _ (Qwk3 hb).1
 ·rw[if_neg h1,if_neg h1]
theorem Qx6j{es:List Entry}{n:Str}(h:entIx es n<0):n∉nms es:=fun hm=>by
 obtain⟨e,he,hn⟩:=List.mem_map.1 hm
 exact Q853 h e he hn
end Lx
namespace Lx
open Go Go.Proofs
def rdK(bs:List Int)(p:Int):Bool:=Qf9o bs&&(decide (0≤p)&&decide (p≤900000))
theorem Qosd{bs:List Int}{p q:Int}(h:rdK bs p=true)(h1:p≤q)(h2:q≤p+90000):rdOk bs q=true:=by
 simp only[rdK,rdOk,posOk,qaT,qdT]at h ⊢
 exact⟨h.1,by omega,by omega⟩
theorem Q8s4{q:Int}(h1:0≤q)(h2:q<1000000):posOk q=true:=by
 simp only[posOk,qaT,qdT];exact⟨h1,h2⟩
noncomputable def dDec(k:Nat)(n:Int):Str:=drawn (fun x=>Qewq Tryz.prog CP Qstj [.int .i64 n] [] (.str x) []∧x.length≤k+1)
noncomputable def E_dec(k:Nat):Ent Ty El:=⟨[.ro],0,fun a h=>match a,h with
 | [.int .i64 n],[]=>some (decide (0≤n)&&decide (n<10 ^ (k+1)),.str (dDec k n),[])
 | _,_=>none⟩
noncomputable def Qjla:Ent Ty El:=E_dec 0
noncomputable def Qgge:Ent Ty El:=E_dec 1
noncomputable def Qggn:Ent Ty El:=E_dec 2
noncomputable def Qcmq:Ent Ty El:=E_dec 3
noncomputable def Qmce:Ent Ty El:=E_dec 4
structure BaseP where
 ks:List Kind
 ps:List Point
 p:Int
 deriving Inhabited
def Qn40(p:Int)(x:BaseP):Prop:=Qib4 x.ks x.ps=true∧1≤x.ks.length∧1≤x.ps.length∧p≤x.p∧x.p≤p+20
noncomputable def dBase(bs:List Int)(p:Int):BaseP:=drawn (fun x=>Qewq Tryz.prog CP Qwua [.ptr 0 0] [.box [.sl .u8 bs,.int .i64 p]] (.agg [.sl .kind x.ks,.sl .point x.ps]) [.box [.sl .u8 bs,.int .i64 x.p]]∧Qn40 p x)
noncomputable def Qu46:Ent Ty El:=⟨[.io],0,fun a h=>match a,h with
 | [.ptr 0 0],[.box [.sl .u8 bs,.int .i64 p]]=>some (rdK bs p,.agg [.sl .kind (dBase bs p).ks,.sl .point (dBase bs p).ps],[.box [.sl .u8 bs,.int .i64 (dBase bs p).p]])
 | _,_=>none⟩
def Qf10:List Str:=[[97,108,102,97],[98,114,97,118],[99,104,97,114],[100,45,52],[101,99,104,111],[120]]
def lastN(prev:Option Str)(ps:List Point):Option Str:=match ps.getLast? with
 | some p=>some p.name
 | none=>prev
theorem Q9y8(x:Point):∀(ps seen:List Point) (prev:Option Str),Qaym seen prev (ps++[x])=(Qaym seen prev ps&&(x.ok&&(Qe7t (lastN prev ps) x.name&&Q343 (seen++ps) x)))
 | [],seen,prev=>by simp[Qaym,lastN]
 | p::ps,seen,prev=>by
  have e:lastN prev (p::ps)=lastN (some p.name) ps:=by
   cases ps with
   | nil=>rfl
   | cons q r =>
    obtain⟨y,hy⟩:∃y,(q::r).getLast? = some y:=Option.isSome_iff_exists.1 (by simp)
    simp[lastN,List.getLast?_cons_cons,hy]
  simp only[List.cons_append,Qaym,Q9y8 x ps,e,Bool.and_assoc,List.append_assoc,List.cons_append,List.nil_append]
def PI(ps:List Point)(i:Nat):Prop:=Qaym [] none ps=true∧ps.length≤i∧∀j n,i≤j→Qf10[j]? = some n→Qe7t (lastN none ps) n=true
theorem PI.next{ps:List Point}{i:Nat}(h:PI ps i):PI ps (i+1):=⟨h.1,by have:=h.2.1;omega,fun j n hj=>h.2.2 j n (by omega)⟩
theorem Ql7z:∀i,i<6→∀j,j<6→i<j→Q7zj (Qf10.getD i []) (Qf10.getD j [])=true:=by decide
theorem Qlz1:∀i,i<6→Q2rq (Qf10.getD i [])=true:=by decide
theorem PI.add{ps:List Point}{i:Nat}{x y:Int}(h:PI ps i)(hi:i<6)(hx:0≤x∧x<16)(hy:0≤y∧y<16)(hf:Q343 ps ⟨Qf10.getD i [],x,y⟩=true):PI (ps++[⟨Qf10.getD i [],x,y⟩]) (i+1):=by
 refine⟨?_,by simp;exact h.2.1,fun j n hj hn=>?_⟩
 ·rw[Q9y8,h.1,List.nil_append,hf,h.2.2 i (Qf10.getD i []) (Nat.le_refl _) (by rw[qgD,qeG (by exact hi)];rfl)]
  simp only[Point.ok,Qlz1 i hi,inR,Bool.true_and,Bool.and_true,qaT,qdT]
  omega
 ·have hj6:j<6:=(qeS.1 hn).1
  have e:Qf10.getD j []=n:=by rw[qgD,hn];rfl
  simp only[lastN,qlC,Qe7t]
  rw[←e]
  exact Ql7z i hi j hj6 (by omega)
end Lx
namespace Lx
open Go Go.Proofs
noncomputable def Qopx:RE Ty El:=⟨Tryz.prog,CP,[],Tryz.f109,0,[],[]⟩
theorem Q58o:REOK Qopx Qstj:=⟨CP_ok,Qye1,by kernel_rfl,by kernel_rfl⟩
theorem Qwjr(n:Int):aRun Qopx 600 false (body0 Qopx.fn) (Q4gm Qopx.fn [.int .i64 n] []) =
 ifb (decide (n<10)) (some (.ret (.str (List.map (fun n=>UInt8.ofNat n.toNat) (List.map (fun n=>n) [IntKind.u8.wrap (IntKind.i64.wrap ((48:Int)+n))]))) [])) none:=by kernel_rfl
theorem Qhwu(n:Int)(hg:(decide (0≤n)&&decide (n<10 ^ (0+1)))=true):Qewq Tryz.prog CP Qstj [.int .i64 n] [] (.str (dDec 0 n)) []∧(dDec 0 n).length≤0+1:=by
 simp only[qaT,qdT]at hg
 obtain⟨g0,g1⟩:=hg
 have hE:CallE Qopx.P Qopx.C Qstj [.int .i64 n] [] (fun v h=>∃x:Str,v=.str x∧h=[]∧x.length≤0+1):=CallE.of Q58o (by kernel_rfl) (Qwjr n) (SatE.ifb (fun _=>SatE.ret ⟨_,rfl,rfl,by simp⟩) (fun e=>by
  have:=of_decide_eq_false e;omega))
 obtain⟨v,H',h,x,rfl,rfl,hx⟩:=hE
 exact Qk78 (p:=fun x=>Qewq Tryz.prog CP Qstj [.int .i64 n] [] (.str x) []∧x.length≤0+1) ⟨x,h,hx⟩
theorem Qb4o(n:Int)(hg:(decide (0≤n)&&decide (n<10 ^ (0+1)))=true):Qewq Tryz.prog CP Qstj [.int .i64 n] [] (.str (dDec 0 n)) []:=by
 exact(Qhwu n hg).1
theorem Qu02:EntOK Tryz.prog CP Qstj Qjla:=by
 refine⟨eob (by kernel_rfl),fun _ _ _ _ h=>?_⟩
 simp only[Qjla,E_dec]at h
 split at h
 ·obtain⟨hg,rfl,rfl⟩:=eoh h
  exact Qb4o _ hg
 ·cases h

noncomputable def Qq8c:RE Ty El:=⟨Tryz.prog,CP,[(Qstj,Qjla)],Tryz.f109,0,[],[]⟩
theorem Qikn:REOK Qq8c Qstj:=⟨CP_ok,(TabOK.cons Qu02 Qye1),by kernel_rfl,by kernel_rfl⟩
theorem Qjex(n:Int):aRun Qq8c 600 false (body0 Qq8c.fn) (Q4gm Qq8c.fn [.int .i64 n] []) =
 ifb (decide (n<10)) (some (.ret (.str (List.map (fun n=>UInt8.ofNat n.toNat) (List.map (fun n=>n) [IntKind.u8.wrap (IntKind.i64.wrap ((48:Int)+n))]))) [])) (ifb (decide (0≤IntKind.i64.wrap (n.tdiv (10:Int)))&&decide (IntKind.i64.wrap (n.tdiv (10:Int))<(10:Int) ^ ((0:Nat)+(1:Nat)))) (ifb (decide (List.length (dDec (0:Nat) (IntKind.i64.wrap (n.tdiv (10:Int))))+(List.map (fun n=>UInt8.ofNat n.toNat) (List.map (fun n=>n) [IntKind.u8.wrap (IntKind.i64.wrap ((48:Int)+n.tmod (10:Int)))])).length≤(9223372036854775807:Nat))) (some (.ret (.str (dDec (0:Nat) (IntKind.i64.wrap (n.tdiv (10:Int)))++List.map (fun n=>UInt8.ofNat n.toNat) (List.map (fun n=>n) [IntKind.u8.wrap (IntKind.i64.wrap ((48:Int)+n.tmod (10:Int)))]))) [])) none) none):=by kernel_rfl
theorem Qgme(n:Int)(hg:(decide (0≤n)&&decide (n<10 ^ (1+1)))=true):Qewq Tryz.prog CP Qstj [.int .i64 n] [] (.str (dDec 1 n)) []∧(dDec 1 n).length≤1+1:=by
 simp only[qaT,qdT]at hg
 obtain⟨g0,g1⟩:=hg
 have hE:CallE Qq8c.P Qq8c.C Qstj [.int .i64 n] [] (fun v h=>∃x:Str,v=.str x∧h=[]∧x.length≤1+1):=CallE.of Qikn (by kernel_rfl) (Qjex n) (SatE.ifb (fun _=>SatE.ret ⟨_,rfl,rfl,by simp⟩) (fun e=>by
  have he:=of_decide_eq_false e
  have h1:0≤n.tdiv 10:=Int.tdiv_nonneg g0 (by omega)
  have h2:n.tdiv 10<10 ^ 1:=by rw[Int.tdiv_eq_ediv_of_nonneg g0];omega
  have hw:IntKind.i64.wrap (n.tdiv 10)=n.tdiv 10:=Qbrg (by omega) (by omega)
  have hl:=(Qhwu (n.tdiv 10) (by simp only[qaT,qdT];exact⟨h1,h2⟩)).2
  rw[hw]
  exact SatE.need (by simp only[qaT,qdT];exact⟨h1,h2⟩) (SatE.need (by simp;omega) (SatE.ret ⟨_,rfl,rfl,by simp;omega⟩))))
 obtain⟨v,H',h,x,rfl,rfl,hx⟩:=hE
 exact Qk78 (p:=fun x=>Qewq Tryz.prog CP Qstj [.int .i64 n] [] (.str x) []∧x.length≤1+1) ⟨x,h,hx⟩
theorem Qvu3(n:Int)(hg:(decide (0≤n)&&decide (n<10 ^ (1+1)))=true):Qewq Tryz.prog CP Qstj [.int .i64 n] [] (.str (dDec 1 n)) []:=by
 exact(Qgme n hg).1
theorem Qq8j:EntOK Tryz.prog CP Qstj Qgge:=by
 refine⟨eob (by kernel_rfl),fun _ _ _ _ h=>?_⟩
 simp only[Qgge,E_dec]at h
 split at h
 ·obtain⟨hg,rfl,rfl⟩:=eoh h
  exact Qvu3 _ hg
 ·cases h

noncomputable def Qr71:RE Ty El:=⟨Tryz.prog,CP,[(Qstj,Qgge)],Tryz.f109,0,[],[]⟩
theorem Q1ar:REOK Qr71 Qstj:=⟨CP_ok,(TabOK.cons Qq8j Qye1),by kernel_rfl,by kernel_rfl⟩
theorem Q3yy(n:Int):aRun Qr71 600 false (body0 Qr71.fn) (Q4gm Qr71.fn [.int .i64 n] []) =
 ifb (decide (n<10)) (some (.ret (.str (List.map (fun n=>UInt8.ofNat n.toNat) (List.map (fun n=>n) [IntKind.u8.wrap (IntKind.i64.wrap ((48:Int)+n))]))) [])) (ifb (decide (0≤IntKind.i64.wrap (n.tdiv (10:Int)))&&decide (IntKind.i64.wrap (n.tdiv (10:Int))<(10:Int) ^ ((1:Nat)+(1:Nat)))) (ifb (decide (List.length (dDec (1:Nat) (IntKind.i64.wrap (n.tdiv (10:Int))))+(List.map (fun n=>UInt8.ofNat n.toNat) (List.map (fun n=>n) [IntKind.u8.wrap (IntKind.i64.wrap ((48:Int)+n.tmod (10:Int)))])).length≤(9223372036854775807:Nat))) (some (.ret (.str (dDec (1:Nat) (IntKind.i64.wrap (n.tdiv (10:Int)))++List.map (fun n=>UInt8.ofNat n.toNat) (List.map (fun n=>n) [IntKind.u8.wrap (IntKind.i64.wrap ((48:Int)+n.tmod (10:Int)))]))) [])) none) none):=by kernel_rfl
theorem Q0hm(n:Int)(hg:(decide (0≤n)&&decide (n<10 ^ (2+1)))=true):Qewq Tryz.prog CP Qstj [.int .i64 n] [] (.str (dDec 2 n)) []∧(dDec 2 n).length≤2+1:=by
 simp only[qaT,qdT]at hg
 obtain⟨g0,g1⟩:=hg
 have hE:CallE Qr71.P Qr71.C Qstj [.int .i64 n] [] (fun v h=>∃x:Str,v=.str x∧h=[]∧x.length≤2+1):=CallE.of Q1ar (by kernel_rfl) (Q3yy n) (SatE.ifb (fun _=>SatE.ret ⟨_,rfl,rfl,by simp⟩) (fun e=>by
  have he:=of_decide_eq_false e
  have h1:0≤n.tdiv 10:=Int.tdiv_nonneg g0 (by omega)
  have h2:n.tdiv 10<10 ^ 2:=by rw[Int.tdiv_eq_ediv_of_nonneg g0];omega
  have hw:IntKind.i64.wrap (n.tdiv 10)=n.tdiv 10:=Qbrg (by omega) (by omega)
  have hl:=(Qgme (n.tdiv 10) (by simp only[qaT,qdT];exact⟨h1,h2⟩)).2
  rw[hw]
  exact SatE.need (by simp only[qaT,qdT];exact⟨h1,h2⟩) (SatE.need (by simp;omega) (SatE.ret ⟨_,rfl,rfl,by simp;omega⟩))))
 obtain⟨v,H',h,x,rfl,rfl,hx⟩:=hE
 exact Qk78 (p:=fun x=>Qewq Tryz.prog CP Qstj [.int .i64 n] [] (.str x) []∧x.length≤2+1) ⟨x,h,hx⟩
theorem Qy0z(n:Int)(hg:(decide (0≤n)&&decide (n<10 ^ (2+1)))=true):Qewq Tryz.prog CP Qstj [.int .i64 n] [] (.str (dDec 2 n)) []:=by
 exact(Q0hm n hg).1
theorem Qfjp:EntOK Tryz.prog CP Qstj Qggn:=by
 refine⟨eob (by kernel_rfl),fun _ _ _ _ h=>?_⟩
 simp only[Qggn,E_dec]at h
 split at h
 ·obtain⟨hg,rfl,rfl⟩:=eoh h
  exact Qy0z _ hg
 ·cases h

noncomputable def Qhz0:RE Ty El:=⟨Tryz.prog,CP,[(Qstj,Qggn)],Tryz.f109,0,[],[]⟩
theorem Q0st:REOK Qhz0 Qstj:=⟨CP_ok,(TabOK.cons Qfjp Qye1),by kernel_rfl,by kernel_rfl⟩
theorem Qfhh(n:Int):aRun Qhz0 600 false (body0 Qhz0.fn) (Q4gm Qhz0.fn [.int .i64 n] []) =
 ifb (decide (n<10)) (some (.ret (.str (List.map (fun n=>UInt8.ofNat n.toNat) (List.map (fun n=>n) [IntKind.u8.wrap (IntKind.i64.wrap ((48:Int)+n))]))) [])) (ifb (decide (0≤IntKind.i64.wrap (n.tdiv (10:Int)))&&decide (IntKind.i64.wrap (n.tdiv (10:Int))<(10:Int) ^ ((2:Nat)+(1:Nat)))) (ifb (decide (List.length (dDec (2:Nat) (IntKind.i64.wrap (n.tdiv (10:Int))))+(List.map (fun n=>UInt8.ofNat n.toNat) (List.map (fun n=>n) [IntKind.u8.wrap (IntKind.i64.wrap ((48:Int)+n.tmod (10:Int)))])).length≤(9223372036854775807:Nat))) (some (.ret (.str (dDec (2:Nat) (IntKind.i64.wrap (n.tdiv (10:Int)))++List.map (fun n=>UInt8.ofNat n.toNat) (List.map (fun n=>n) [IntKind.u8.wrap (IntKind.i64.wrap ((48:Int)+n.tmod (10:Int)))]))) [])) none) none):=by kernel_rfl
theorem Qn6d(n:Int)(hg:(decide (0≤n)&&decide (n<10 ^ (3+1)))=true):Qewq Tryz.prog CP Qstj [.int .i64 n] [] (.str (dDec 3 n)) []∧(dDec 3 n).length≤3+1:=by
 simp only[qaT,qdT]at hg
 obtain⟨g0,g1⟩:=hg
 have hE:CallE Qhz0.P Qhz0.C Qstj [.int .i64 n] [] (fun v h=>∃x:Str,v=.str x∧h=[]∧x.length≤3+1):=CallE.of Q0st (by kernel_rfl) (Qfhh n) (SatE.ifb (fun _=>SatE.ret ⟨_,rfl,rfl,by simp⟩) (fun e=>by
  have he:=of_decide_eq_false e
  have h1:0≤n.tdiv 10:=Int.tdiv_nonneg g0 (by omega)
  have h2:n.tdiv 10<10 ^ 3:=by rw[Int.tdiv_eq_ediv_of_nonneg g0];omega
  have hw:IntKind.i64.wrap (n.tdiv 10)=n.tdiv 10:=Qbrg (by omega) (by omega)
  have hl:=(Q0hm (n.tdiv 10) (by simp only[qaT,qdT];exact⟨h1,h2⟩)).2
  rw[hw]
  exact SatE.need (by simp only[qaT,qdT];exact⟨h1,h2⟩) (SatE.need (by simp;omega) (SatE.ret ⟨_,rfl,rfl,by simp;omega⟩))))
 obtain⟨v,H',h,x,rfl,rfl,hx⟩:=hE
 exact Qk78 (p:=fun x=>Qewq Tryz.prog CP Qstj [.int .i64 n] [] (.str x) []∧x.length≤3+1) ⟨x,h,hx⟩
theorem Qero(n:Int)(hg:(decide (0≤n)&&decide (n<10 ^ (3+1)))=true):Qewq Tryz.prog CP Qstj [.int .i64 n] [] (.str (dDec 3 n)) []:=by
 exact(Qn6d n hg).1
theorem Q0nj:EntOK Tryz.prog CP Qstj Qcmq:=by
 refine⟨eob (by kernel_rfl),fun _ _ _ _ h=>?_⟩
 simp only[Qcmq,E_dec]at h
 split at h
 ·obtain⟨hg,rfl,rfl⟩:=eoh h
  exact Qero _ hg
 ·cases h

noncomputable def Qrxb:RE Ty El:=⟨Tryz.prog,CP,[(Qstj,Qcmq)],Tryz.f109,0,[],[]⟩
theorem Qe66:REOK Qrxb Qstj:=⟨CP_ok,(TabOK.cons Q0nj Qye1),by kernel_rfl,by kernel_rfl⟩
theorem Qsny(n:Int):aRun Qrxb 600 false (body0 Qrxb.fn) (Q4gm Qrxb.fn [.int .i64 n] []) =
 ifb (decide (n<10)) (some (.ret (.str (List.map (fun n=>UInt8.ofNat n.toNat) (List.map (fun n=>n) [IntKind.u8.wrap (IntKind.i64.wrap ((48:Int)+n))]))) [])) (ifb (decide (0≤IntKind.i64.wrap (n.tdiv (10:Int)))&&decide (IntKind.i64.wrap (n.tdiv (10:Int))<(10:Int) ^ ((3:Nat)+(1:Nat)))) (ifb (decide (List.length (dDec (3:Nat) (IntKind.i64.wrap (n.tdiv (10:Int))))+(List.map (fun n=>UInt8.ofNat n.toNat) (List.map (fun n=>n) [IntKind.u8.wrap (IntKind.i64.wrap ((48:Int)+n.tmod (10:Int)))])).length≤(9223372036854775807:Nat))) (some (.ret (.str (dDec (3:Nat) (IntKind.i64.wrap (n.tdiv (10:Int)))++List.map (fun n=>UInt8.ofNat n.toNat) (List.map (fun n=>n) [IntKind.u8.wrap (IntKind.i64.wrap ((48:Int)+n.tmod (10:Int)))]))) [])) none) none):=by kernel_rfl
theorem Qbt7(n:Int)(hg:(decide (0≤n)&&decide (n<10 ^ (4+1)))=true):Qewq Tryz.prog CP Qstj [.int .i64 n] [] (.str (dDec 4 n)) []∧(dDec 4 n).length≤4+1:=by
 simp only[qaT,qdT]at hg
 obtain⟨g0,g1⟩:=hg
 have hE:CallE Qrxb.P Qrxb.C Qstj [.int .i64 n] [] (fun v h=>∃x:Str,v=.str x∧h=[]∧x.length≤4+1):=CallE.of Qe66 (by kernel_rfl) (Qsny n) (SatE.ifb (fun _=>SatE.ret ⟨_,rfl,rfl,by simp⟩) (fun e=>by
  have he:=of_decide_eq_false e
  have h1:0≤n.tdiv 10:=Int.tdiv_nonneg g0 (by omega)
  have h2:n.tdiv 10<10 ^ 4:=by rw[Int.tdiv_eq_ediv_of_nonneg g0];omega
  have hw:IntKind.i64.wrap (n.tdiv 10)=n.tdiv 10:=Qbrg (by omega) (by omega)
  have hl:=(Qn6d (n.tdiv 10) (by simp only[qaT,qdT];exact⟨h1,h2⟩)).2
  rw[hw]
  exact SatE.need (by simp only[qaT,qdT];exact⟨h1,h2⟩) (SatE.need (by simp;omega) (SatE.ret ⟨_,rfl,rfl,by simp;omega⟩))))
 obtain⟨v,H',h,x,rfl,rfl,hx⟩:=hE
 exact Qk78 (p:=fun x=>Qewq Tryz.prog CP Qstj [.int .i64 n] [] (.str x) []∧x.length≤4+1) ⟨x,h,hx⟩
theorem Qxm3(n:Int)(hg:(decide (0≤n)&&decide (n<10 ^ (4+1)))=true):Qewq Tryz.prog CP Qstj [.int .i64 n] [] (.str (dDec 4 n)) []:=by
 exact(Qbt7 n hg).1
theorem Qqii:EntOK Tryz.prog CP Qstj Qmce:=by
 refine⟨eob (by kernel_rfl),fun _ _ _ _ h=>?_⟩
 simp only[Qmce,E_dec]at h
 split at h
 ·obtain⟨hg,rfl,rfl⟩:=eoh h
  exact Qxm3 _ hg
 ·cases h

end Lx
namespace Lx
open Go Go.Proofs
noncomputable def Qw6i:RE Ty El:=⟨Tryz.prog,CP,[(Qpxs,Q7v2)],Tryz.f89,1,[.agg [.ro .kind,.ro .point]],[(7,[(0,.any),(2,.any),(3,.any),(4,.any),(5,.any),(6,.any)]),(12,[(0,.any),(2,.any),(3,.any),(4,.any),(5,.any),(6,.any),(7,.any),(8,.any),(9,.any)])]⟩
theorem Qo8w:REOK Qw6i Qwua:=⟨CP_ok,(TabOK.cons Q0e7 Qye1),by kernel_rfl,by kernel_rfl⟩
theorem Qaoa(bs:List Int)(p:Int):aRun Qw6i 600 false (body0 Qw6i.fn) (Q4gm Qw6i.fn [.ptr 0 0] [.box [.sl .u8 bs,.int .i64 p]]) =
 let z0:=(IntKind.i64.wrap ((2:Int)+pickV bs (p+1) (2:Int)));let z1:=(IntKind.i64.wrap ((1:Int)+pickV bs p (3:Int)));let z2:=(p+1+1+1+1);let z3:=(p+1+1+1);let z4:=(6:Int);let z5:=(Qw6i.C.dflt Ty.int);ifb (posOk p) (ifb (posOk (p+1)) (ifb (posOk (p+1+1)) (ifb (pickV bs (p+1+1) (4:Int)==(0:Int)) (ifb (posOk z3) (ifb (posOk z2) (ifb (inb (pickV bs z2 (3:Int)) [z4,z4,(16:Int)].length) (some (.go (Qu6t Qw6i.fn 7) [.ptr 0 0,.ptr 1 0,.ptr 2 0,.sl .str [#[(97:UInt8),108,102,97].toList, #[(98:UInt8),114,97,118].toList, #[(99:UInt8),104,97,114].toList, #[(100:UInt8),45,52].toList, #[(101:UInt8),99,104,111].toList, #[(120:UInt8)].toList],.int .i64 ([z4,z4,(16:Int)].getD (pickV bs z2 (3:Int)).toNat z5),.int .i64 0] [.box [.sl .u8 bs,.int .i64 (p+1+1+1+1+1)],.box [.nils,.nils],.box [.own 3 [] 0,.nils],.row .kind ([Kind.mk #[(97:UInt8),49].toList (1:Int) z1,Kind.mk #[(104:UInt8),101,97,118,121].toList z0 (5:Int)]++[Kind.mk #[(115:UInt8),108,111,119].toList (IntKind.i64.wrap ((1:Int)+pickV bs z3 (50:Int))) (50:Int)]) 0 0 0 .no])) none) none) none) (ifb (posOk z3) (ifb (inb (pickV bs z3 (3:Int)) [z4,z4,(16:Int)].length) (some (.go (Qu6t Qw6i.fn 7) [.ptr 0 0,.ptr 1 0,.ptr 2 0,.sl .str [#[(97:UInt8),108,102,97].toList, #[(98:UInt8),114,97,118].toList, #[(99:UInt8),104,97,114].toList, #[(100:UInt8),45,52].toList, #[(101:UInt8),99,104,111].toList, #[(120:UInt8)].toList],.int .i64 ([z4,z4,(16:Int)].getD (pickV bs z3 (3:Int)).toNat z5),.int .i64 0] [.box [.sl .u8 bs,.int .i64 z2],.box [.nils,.nils],.box [.own 3 [] 0,.nils],.row .kind [Kind.mk #[(97:UInt8),49].toList (1:Int) z1,Kind.mk #[(104:UInt8),101,97,118,121].toList z0 (5:Int)] 0 0 0 .no])) none) none)) none) none) none:=by kernel_rfl
theorem Qmss(x0:List (El .str))(x1:Int)(x2:Int)(x3:List (El .u8))(x4:Int)(x5:List (El .kind)):aRun Qw6i 600 true (Qu6t Qw6i.fn 7) (cutSt Qw6i.fn (Q1m4 Qw6i (Qu6t Qw6i.fn 7)) [.ptr 0 0,.ptr 1 0,.ptr 2 0,.sl .str x0,.int .i64 x1,.int .i64 x2] [.box [.sl .u8 x3,.int .i64 x4],.box [.nils,.nils],.box [.own 3 [] 0,.nils],.row .kind x5 0 0 0 .no]) =
 ifb (decide (x2<(↑x0.length:Int))) (ifb (inb x2 x0.length) (ifb (posOk x4) (ifb (posOk (x4+1)) (some (.go (Qu6t Qw6i.fn 12) [.ptr 0 0,.ptr 1 0,.ptr 2 0,.sl .str x0,.int .i64 x1,.int .i64 x2,.ptr 4 0,.bool true,.int .i64 0] [.box [.sl .u8 x3,.int .i64 (x4+1+1)],.box [.nils,.nils],.box [.own 3 [] 0,.nils],.row .kind x5 0 0 0 .no,.box [.str (x0.getD x2.toNat (Qw6i.C.dflt Ty.str)),.int .i64 (pickV x3 x4 x1),.int .i64 (pickV x3 (x4+1) x1)]])) none) none) none) (some (.ret (.agg [.sl .kind x5,.sl .point []]) [.box [.sl .u8 x3,.int .i64 x4]])):=by kernel_rfl
theorem Qu0y(x0:List (El .str))(x1:Int)(x2:Int)(x3:Bool)(x4:Int)(x5:List (El .u8))(x6:Int)(x7:List (El .kind))(x8:Str)(x9:Int)(x10:Int):aRun Qw6i 600 true (Qu6t Qw6i.fn 12) (cutSt Qw6i.fn (Q1m4 Qw6i (Qu6t Qw6i.fn 12)) [.ptr 0 0,.ptr 1 0,.ptr 2 0,.sl .str x0,.int .i64 x1,.int .i64 x2,.ptr 4 0,.bool x3,.int .i64 x4] [.box [.sl .u8 x5,.int .i64 x6],.box [.nils,.nils],.box [.own 3 [] 0,.nils],.row .kind x7 0 0 0 .no,.box [.str x8,.int .i64 x9,.int .i64 x10]]) =
 ifb (decide (x4<0)) (ifb x3 none (some (.go (Qu6t Qw6i.fn 12) [.ptr 0 0,.ptr 1 0,.ptr 2 0,.sl .str x0,.int .i64 x1,.int .i64 x2,.ptr 4 0,.bool false,.int .i64 (IntKind.i64.wrap (x4+1))] [.box [.sl .u8 x5,.int .i64 x6],.box [.nils,.nils],.box [.own 3 [] 0,.nils],.row .kind x7 0 0 0 .no,.box [.str x8,.int .i64 x9,.int .i64 x10]]))) (ifb x3 (some (.go (Qu6t Qw6i.fn 7) [.ptr 0 0,.ptr 1 0,.ptr 2 0,.sl .str x0,.int .i64 x1,.int .i64 (IntKind.i64.wrap (x2+1))] [.box [.sl .u8 x5,.int .i64 x6],.box [.nils,.nils],.box [.own 3 [] 0,.own 4 [] 0],.row .kind x7 0 0 0 .no,.row .point [Point.mk x8 x9 x10] 0 0 0 .no])) (some (.go (Qu6t Qw6i.fn 7) [.ptr 0 0,.ptr 1 0,.ptr 2 0,.sl .str x0,.int .i64 x1,.int .i64 (IntKind.i64.wrap (x2+1))] [.box [.sl .u8 x5,.int .i64 x6],.box [.nils,.nils],.box [.own 3 [] 0,.nils],.row .kind x7 0 0 0 .no]))):=by kernel_rfl
theorem Qtpe(x0:List (El .str))(x1:Int)(x2:Int)(x3:List (El .u8))(x4:Int)(x5:List (El .kind))(x6:List (El .point)):aRun Qw6i 600 true (Qu6t Qw6i.fn 7) (cutSt Qw6i.fn (Q1m4 Qw6i (Qu6t Qw6i.fn 7)) [.ptr 0 0,.ptr 1 0,.ptr 2 0,.sl .str x0,.int .i64 x1,.int .i64 x2] [.box [.sl .u8 x3,.int .i64 x4],.box [.nils,.nils],.box [.own 3 [] 0,.own 4 [] 0],.row .kind x5 0 0 0 .no,.row .point x6 0 0 0 .no]) =
 ifb (decide (x2<(↑x0.length:Int))) (ifb (inb x2 x0.length) (ifb (posOk x4) (ifb (posOk (x4+1)) (some (.go (Qu6t Qw6i.fn 12) [.ptr 0 0,.ptr 1 0,.ptr 2 0,.sl .str x0,.int .i64 x1,.int .i64 x2,.ptr 5 0,.bool true,.int .i64 0] [.box [.sl .u8 x3,.int .i64 (x4+1+1)],.box [.nils,.nils],.box [.own 3 [] 0,.own 4 [] 0],.row .kind x5 0 0 0 .no,.row .point x6 0 0 0 .no,.box [.str (x0.getD x2.toNat (Qw6i.C.dflt Ty.str)),.int .i64 (pickV x3 x4 x1),.int .i64 (pickV x3 (x4+1) x1)]])) none) none) none) (some (.ret (.agg [.sl .kind x5,.sl .point x6]) [.box [.sl .u8 x3,.int .i64 x4]])):=by kernel_rfl
theorem Qod9(x0:List (El .str))(x1:Int)(x2:Int)(x3:Bool)(x4:Int)(x5:List (El .u8))(x6:Int)(x7:List (El .kind))(x8:List (El .point))(x9:Str)(x10:Int)(x11:Int):aRun Qw6i 600 true (Qu6t Qw6i.fn 12) (cutSt Qw6i.fn (Q1m4 Qw6i (Qu6t Qw6i.fn 12)) [.ptr 0 0,.ptr 1 0,.ptr 2 0,.sl .str x0,.int .i64 x1,.int .i64 x2,.ptr 5 0,.bool x3,.int .i64 x4] [.box [.sl .u8 x5,.int .i64 x6],.box [.nils,.nils],.box [.own 3 [] 0,.own 4 [] 0],.row .kind x7 0 0 0 .no,.row .point x8 0 0 0 .no,.box [.str x9,.int .i64 x10,.int .i64 x11]]) =
 let z0:HL:=[.box [.sl .u8 x5,.int .i64 x6],.box [.nils,.nils],.box [.own 3 [] 0,.own 4 [] 0],.row .kind x7 0 0 0 .no,.row .point x8 0 0 0 .no,.box [.str x9,.int .i64 x10,.int .i64 x11]];let z1:=(Qu6t Qw6i.fn 12);let z2:=(x8.getD x4.toNat (Qw6i.C.dflt Ty.point));let z3:=(IntKind.i64.wrap (x4+1));ifb (decide (x4<(↑x8.length:Int))) (ifb x3 (ifb (inb x4 x8.length) (ifb (z2.x !=x10) (some (.go z1 [.ptr 0 0,.ptr 1 0,.ptr 2 0,.sl .str x0,.int .i64 x1,.int .i64 x2,.ptr 5 0,.bool true,.int .i64 z3] z0)) (ifb (inb x4 x8.length) (some (.go z1 [.ptr 0 0,.ptr 1 0,.ptr 2 0,.sl .str x0,.int .i64 x1,.int .i64 x2,.ptr 5 0,.bool (z2.y !=x11),.int .i64 z3] z0)) none)) none) (some (.go z1 [.ptr 0 0,.ptr 1 0,.ptr 2 0,.sl .str x0,.int .i64 x1,.int .i64 x2,.ptr 5 0,.bool false,.int .i64 z3] z0))) (ifb x3 (ifb (decide ((x8.length+[Point.mk x9 x10 x11].length)*Qbhn Qw6i.P (160:Nat)≤(140737488355328:Nat))) (some (.go (Qu6t Qw6i.fn 7) [.ptr 0 0,.ptr 1 0,.ptr 2 0,.sl .str x0,.int .i64 x1,.int .i64 (IntKind.i64.wrap (x2+1))] [.box [.sl .u8 x5,.int .i64 x6],.box [.nils,.nils],.box [.own 3 [] 0,.own 4 [] 0],.row .kind x7 0 0 0 .no,.row .point (x8++[Point.mk x9 x10 x11]) 0 0 0 .no])) none) (some (.go (Qu6t Qw6i.fn 7) [.ptr 0 0,.ptr 1 0,.ptr 2 0,.sl .str x0,.int .i64 x1,.int .i64 (IntKind.i64.wrap (x2+1))] [.box [.sl .u8 x5,.int .i64 x6],.box [.nils,.nils],.box [.own 3 [] 0,.own 4 [] 0],.row .kind x7 0 0 0 .no,.row .point x8 0 0 0 .no]))):=by kernel_rfl
theorem Q1qw(bs:List Int)(ks:List Kind)(ps:List Point)(side X Y q q0:Int)(i:Nat)(hi:i<6)(hl:ps.length≤6)
  (K0:CutE Qw6i Qwua 7 [.ptr 0 0,.ptr 1 0,.ptr 2 0,.sl .str Qf10,.int .i64 side,.int .i64 ((i+1:Nat):Int)] [.box [.sl .u8 bs,.int .i64 q],.box [.nils,.nils],.box [.own 3 [] 0,.own 4 [] 0],.row .kind ks 0 0 0 .no,.row .point ps 0 0 0 .no] (fun v h=>∃(z:List Point) (r:Int),v=.agg [.sl .kind ks,.sl .point z]∧h=[.box [.sl .u8 bs,.int .i64 r]]∧PI z 6∧1≤z.length∧q0≤r∧r≤q0+12))
  (K1:Q343 ps ⟨Qf10.getD i [],X,Y⟩=true→CutE Qw6i Qwua 7 [.ptr 0 0,.ptr 1 0,.ptr 2 0,.sl .str Qf10,.int .i64 side,.int .i64 ((i+1:Nat):Int)] [.box [.sl .u8 bs,.int .i64 q],.box [.nils,.nils],.box [.own 3 [] 0,.own 4 [] 0],.row .kind ks 0 0 0 .no,.row .point (ps++[⟨Qf10.getD i [],X,Y⟩]) 0 0 0 .no] (fun v h=>∃(z:List Point) (r:Int),v=.agg [.sl .kind ks,.sl .point z]∧h=[.box [.sl .u8 bs,.int .i64 r]]∧PI z 6∧1≤z.length∧q0≤r∧r≤q0+12)) :
  ∀(d k:Nat),k+d=ps.length→CutE Qw6i Qwua 12 [.ptr 0 0,.ptr 1 0,.ptr 2 0,.sl .str Qf10,.int .i64 side,.int .i64 (i:Int),.ptr 5 0,.bool (Q343 (ps.take k) ⟨Qf10.getD i [],X,Y⟩),.int .i64 (k:Int)] ([.box [.sl .u8 bs,.int .i64 q],.box [.nils,.nils],.box [.own 3 [] 0,.own 4 [] 0],.row .kind ks 0 0 0 .no,.row .point ps 0 0 0 .no,.box [.str (Qf10.getD i []),.int .i64 X,.int .i64 Y]]) (fun v h=>∃(z:List Point) (r:Int),v=.agg [.sl .kind ks,.sl .point z]∧h=[.box [.sl .u8 bs,.int .i64 r]]∧PI z 6∧1≤z.length∧q0≤r∧r≤q0+12):=by
 have hb:Qbhn Qw6i.P 160≤256:=of_decide_eq_true (by kernel_rfl)
 have hwi:IntKind.wrap .i64 ((i:Int)+1)=((i+1:Nat):Int):=by rw[Qbrg]<;>omega
 intro d
 induction d with
 | zero =>
  intro k hk
  refine CutE.of Qo8w rfl (Qod9 Qf10 side i _ k bs q ks ps _ X Y) ?_
  conv=>zeta
  rw[show decide ((k:Int)<(ps.length:Int))=false from decide_eq_false (by omega),List.take_of_length_le (by omega),hwi]
  simp only[Qk7y]
  cases hf:Q343 ps ⟨Qf10.getD i [],X,Y⟩ with
  | true=>exact SatE.need (Q1mk hb (by simp;omega)) (SatE.cut (K1 hf))
  | false=>exact SatE.cut K0
 | succ d ih =>
  intro k hk
  refine CutE.of Qo8w rfl (Qod9 Qf10 side i _ k bs q ks ps _ X Y) ?_
  conv=>zeta
  have hlt:k<ps.length:=by omega
  have hw:IntKind.wrap .i64 ((k:Int)+1)=((k+1:Nat):Int):=by rw[Qbrg]<;>omega
  have hx:ps.getD (k:Int).toNat (Qw6i.C.dflt .point)=ps[k]:=by simp[hlt]
  have hin:inb (k:Int) ps.length=true:=by simp only[inb,qaT,qdT];omega
  have hlo:decide ((k:Int)<(ps.length:Int))=true:=decide_eq_true (by omega)
  have htk:=qtS hlt
  have hl:(ps.take (k+1)).getLast? = some ps[k]:=by rw[qtS hlt,qlC]
  have hn:=ih (k+1) (by omega)
  rw[htk]at hn
  have ha:Q343 (ps.take k++[ps[k]]) ⟨Qf10.getD i [],X,Y⟩=(Q343 (ps.take k) ⟨Qf10.getD i [],X,Y⟩&&(ps[k].x !=X||ps[k].y !=Y)):=by
   simp only[Q343,List.all_append,List.all_cons,List.all_nil,Bool.and_true]
   congr 1
   cases h1:ps[k].x==X<;>cases h2:ps[k].y==Y<;>simp[bne,h1,h2]
  rw[ha]at hn
  rw[hlo,hin,hx,hw]
  simp only[Qd8q]
  cases hf:Q343 (ps.take k) ⟨Qf10.getD i [],X,Y⟩ with
  | false =>
   rw[hf,Bool.false_and]at hn
   exact SatE.cut hn
  | true =>
   rw[hf,Bool.true_and]at hn
   simp only[Qd8q]
   cases h1:ps[k].x !=X with
   | true =>
    rw[h1,Bool.true_or]at hn
    exact SatE.cut hn
   | false =>
    rw[h1,Bool.false_or]at hn
    exact SatE.cut hn
theorem Qvv4(bs:List Int)(ks:List Kind)(side q0:Int)(hbs:Qf9o bs=true)(hs:1≤side∧side≤16)(h0:0≤q0)(h1:q0≤950000):∀(d i:Nat) (ps:List Point) (q:Int),i+d=6→PI ps i→1≤ps.length→q0≤q→q+2*d≤q0+12 →
  CutE Qw6i Qwua 7 [.ptr 0 0,.ptr 1 0,.ptr 2 0,.sl .str Qf10,.int .i64 side,.int .i64 (i:Int)] [.box [.sl .u8 bs,.int .i64 q],.box [.nils,.nils],.box [.own 3 [] 0,.own 4 [] 0],.row .kind ks 0 0 0 .no,.row .point ps 0 0 0 .no] (fun v h=>∃(z:List Point) (r:Int),v=.agg [.sl .kind ks,.sl .point z]∧h=[.box [.sl .u8 bs,.int .i64 r]]∧PI z 6∧1≤z.length∧q0≤r∧r≤q0+12):=by
 intro d
 induction d with
 | zero =>
  intro i ps q hi hp hps hq hq2
  refine CutE.of Qo8w rfl (Qtpe Qf10 side i bs q ks ps) ?_
  have:i=6:=by omega
  subst this
  exact SatE.ret ⟨ps,q,rfl,rfl,hp,hps,hq,by omega⟩
 | succ d ih =>
  intro i ps q hi hp hps hq hq2
  refine CutE.of Qo8w rfl (Qtpe Qf10 side i bs q ks ps) ?_
  have hn6:Qf10.length=6:=rfl
  have hlt:i<Qf10.length:=by omega
  have hx:Qf10.getD (i:Int).toNat (Qw6i.C.dflt .str)=Qf10[i]:=by simp[hlt]
  have hin:inb (i:Int) Qf10.length=true:=by simp only[inb,qaT,qdT];omega
  have hlo:decide ((i:Int)<(Qf10.length:Int))=true:=decide_eq_true (by omega)
  have hg:Qf10.getD i []=Qf10[i]:=by simp[hlt]
  obtain⟨x1,x2⟩:=Q5va (n:=side) hbs (Q8s4 (q:=q) (by omega) (by omega)) hs.1
  obtain⟨y1,y2⟩:=Q5va (n:=side) hbs (Q8s4 (q:=q+1) (by omega) (by omega)) hs.1
  rw[hlo,hin,hx]
  simp only[Qd8q]
  have hl6:ps.length≤6:=by have:=hp.2.1;omega
  have hin:=Q1qw bs ks ps side (pickV bs q side) (pickV bs (q+1) side) (q+1+1) q0 i (by omega) hl6 (ih (i+1) ps (q+1+1) (by omega) hp.next hps (by omega) (by omega))
   (fun hf=>ih (i+1) _ (q+1+1) (by omega) (hp.add (by omega) ⟨x1,by omega⟩ ⟨y1,by omega⟩ hf) (by simp) (by omega) (by omega)) ps.length 0 (by omega)
  rw[hg]at hin
  exact SatE.need (Q8s4 (by omega) (by omega)) (SatE.need (Q8s4 (by omega) (by omega)) (SatE.cut hin))
theorem Qo3a(bs:List Int)(ks:List Kind)(side q0:Int)(hbs:Qf9o bs=true)(hs:1≤side∧side≤16)(h0:0≤q0)(h1:q0≤950000) :
  CutE Qw6i Qwua 7 [.ptr 0 0,.ptr 1 0,.ptr 2 0,.sl .str Qf10,.int .i64 side,.int .i64 0] [.box [.sl .u8 bs,.int .i64 q0],.box [.nils,.nils],.box [.own 3 [] 0,.nils],.row .kind ks 0 0 0 .no] (fun v h=>∃(z:List Point) (r:Int),v=.agg [.sl .kind ks,.sl .point z]∧h=[.box [.sl .u8 bs,.int .i64 r]]∧PI z 6∧1≤z.length∧q0≤r∧r≤q0+12):=by
 obtain⟨x1,x2⟩:=Q5va (n:=side) hbs (Q8s4 (q:=q0) (by omega) (by omega)) hs.1
 obtain⟨y1,y2⟩:=Q5va (n:=side) hbs (Q8s4 (q:=q0+1) (by omega) (by omega)) hs.1
 have hp0:PI [] 0:=⟨rfl,Nat.le_refl _,fun _ _ _ _=>rfl⟩
 have hk:=Qvv4 bs ks side q0 hbs hs h0 h1 5 1 [⟨Qf10.getD 0 [],pickV bs q0 side,pickV bs (q0+1) side⟩] (q0+1+1) (by omega) (hp0.add (by omega) ⟨x1,by omega⟩ ⟨y1,by omega⟩ rfl) (by simp) (by omega) (by omega)
 refine CutE.of Qo8w rfl (Qmss Qf10 side 0 bs q0 ks) ?_
 rw[show decide ((0:Int)<(Qf10.length:Int))=true from rfl,show inb (0:Int) Qf10.length=true from rfl,Q8s4 (q:=q0) (by omega) (by omega),Q8s4 (q:=q0+1) (by omega) (by omega)]
 simp only[Qd8q]
 refine SatE.cut ?_
 exact CutE.of Qo8w rfl (Qu0y Qf10 side 0 true 0 bs (q0+1+1) ks (Qf10.getD 0 []) _ _) (SatE.cut hk)
theorem Qf5l{n:Int}(h:0≤n∧n<3):inb n [(6:Int),6,16].length=true∧1≤[(6:Int),6,16].getD n.toNat 0∧[(6:Int),6,16].getD n.toNat 0≤16:=by
 have:n=0∨n=1∨n=2:=by omega
 rcases this with rfl|rfl|rfl<;>decide
theorem Qis8{a b:Int}(ha:0≤a∧a<3)(hb:0≤b∧b<2):Qh9e none [⟨[97,49],1,IntKind.i64.wrap (1+a)⟩,⟨[104,101,97,118,121],IntKind.i64.wrap (2+b),5⟩]=true:=by
 rw[Qbrg (by omega) (by omega),Qbrg (by omega) (by omega)]
 simp only[Qh9e,Kind.ok,qaT,qdT,Qe7t]
 refine⟨⟨by decide,by omega,by omega,by omega⟩,trivial,⟨by decide,by omega,by omega,by omega⟩,by decide,trivial⟩
theorem Qodo{a b c:Int}(ha:0≤a∧a<3)(hb:0≤b∧b<2)(hc:0≤c∧c<50):Qh9e none [⟨[97,49],1,IntKind.i64.wrap (1+a)⟩,⟨[104,101,97,118,121],IntKind.i64.wrap (2+b),5⟩,⟨[115,108,111,119],IntKind.i64.wrap (1+c),50⟩]=true:=by
 rw[Qbrg (by omega) (by omega),Qbrg (by omega) (by omega),Qbrg (by omega) (by omega)]
 simp only[Qh9e,Kind.ok,qaT,qdT,Qe7t]
 refine⟨⟨by decide,by omega,by omega,by omega⟩,trivial,⟨by decide,by omega,by omega,by omega⟩,by decide,⟨by decide,by omega,by omega,by omega⟩,by decide,trivial⟩
theorem Q46n(bs:List Int)(p:Int)(hg:rdK bs p=true):Qewq Tryz.prog CP Qwua [.ptr 0 0] [.box [.sl .u8 bs,.int .i64 p]] (.agg [.sl .kind (dBase bs p).ks,.sl .point (dBase bs p).ps]) [.box [.sl .u8 bs,.int .i64 (dBase bs p).p]]∧Qn40 p (dBase bs p):=by
 have hg0:=hg
 simp only[rdK,qaT,qdT]at hg
 obtain⟨hbs,h0,h1⟩:=hg
 have pk:∀(q n:Int),p≤q→q≤p+10→1≤n→0≤pickV bs q n∧pickV bs q n<n:=fun q n h2 h3 h4=>Q5va hbs (Q8s4 (by omega) (by omega)) h4
 have fin:∀(ks:List Kind) (q:Int) (n:Int),Qh9e none ks=true→1≤ks.length→ks.length≤6→p≤q→q≤p+8→0≤n∧n<3→SatE Qw6i Qwua (fun v h=>∃x:BaseP,v=.agg [.sl .kind x.ks,.sl .point x.ps]∧h=[.box [.sl .u8 bs,.int .i64 x.p]]∧Qn40 p x)
   (some (.go (Qu6t Qw6i.fn 7) [.ptr 0 0,.ptr 1 0,.ptr 2 0,.sl .str Qf10,.int .i64 ([(6:Int),6,16].getD n.toNat 0),.int .i64 0] [.box [.sl .u8 bs,.int .i64 q],.box [.nils,.nils],.box [.own 3 [] 0,.nils],.row .kind ks 0 0 0 .no])):=fun ks q n hk hk1 hk2 hq1 hq2 hn=>by
  refine SatE.mono (SatE.cut (Qo3a bs ks _ q hbs (Qf5l hn).2 (by omega) (by omega))) ?_
  rintro v h ⟨z,r,rfl,rfl,hz,hz1,hr1,hr2⟩
  refine⟨⟨ks,z,r⟩,rfl,rfl, ?_,hk1,hz1, ?_, ?_⟩
  ·simp only[Qib4,hk,hz.1,Bool.and_true,qaT,qdT]
   exact⟨hk2,by have:=hz.2.1;omega⟩
  ·show p≤r;omega
  ·show r≤p+20;omega
 have hE:CallE Qw6i.P Qw6i.C Qwua [.ptr 0 0] [.box [.sl .u8 bs,.int .i64 p]] (fun v h=>∃x:BaseP,v=.agg [.sl .kind x.ks,.sl .point x.ps]∧h=[.box [.sl .u8 bs,.int .i64 x.p]]∧Qn40 p x):=by
  refine CallE.of Qo8w (by kernel_rfl) (Qaoa bs p) ?_
  conv=>zeta
  refine SatE.need (Q8s4 (by omega) (by omega)) (SatE.need (Q8s4 (by omega) (by omega)) (SatE.need (Q8s4 (by omega) (by omega)) (SatE.ifb (fun _=>?_) (fun _=>?_))))
  ·have hn:=pk (p+1+1+1+1) 3 (by omega) (by omega) (by omega)
   refine SatE.need (Q8s4 (by omega) (by omega)) (SatE.need (Q8s4 (by omega) (by omega)) (SatE.need (Qf5l hn).1 ?_))
   exact fin _ _ _ (Qodo (pk p 3 (by omega) (by omega) (by omega)) (pk (p+1) 2 (by omega) (by omega) (by omega)) (pk (p+1+1+1) 50 (by omega) (by omega) (by omega))) (by simp) (by simp) (by omega) (by omega) hn
  ·have hn:=pk (p+1+1+1) 3 (by omega) (by omega) (by omega)
   refine SatE.need (Q8s4 (by omega) (by omega)) (SatE.need (Qf5l hn).1 ?_)
   exact fin _ _ _ (Qis8 (pk p 3 (by omega) (by omega) (by omega)) (pk (p+1) 2 (by omega) (by omega) (by omega))) (by simp) (by simp) (by omega) (by omega) hn
 obtain⟨v,H',h,x,rfl,rfl,hx⟩:=hE
 exact Qk78 (p:=fun x:BaseP=>Qewq Tryz.prog CP Qwua [.ptr 0 0] [.box [.sl .u8 bs,.int .i64 p]] (.agg [.sl .kind x.ks,.sl .point x.ps]) [.box [.sl .u8 bs,.int .i64 x.p]]∧Qn40 p x) ⟨x,h,hx⟩
theorem Qupo(bs:List Int)(p:Int)(hg:rdK bs p=true):Qewq Tryz.prog CP Qwua [.ptr 0 0] [.box [.sl .u8 bs,.int .i64 p]] (.agg [.sl .kind (dBase bs p).ks,.sl .point (dBase bs p).ps]) [.box [.sl .u8 bs,.int .i64 (dBase bs p).p]]:=by
 exact(Q46n bs p hg).1
theorem Ql5k:EntOK Tryz.prog CP Qwua Qu46:=by
 refine⟨eob (by kernel_rfl),fun _ _ _ _ h=>?_⟩
 simp only[Qu46]at h
 split at h
 ·obtain⟨hg,rfl,rfl⟩:=eoh h
  exact Qupo _ _ hg
 ·cases h
end Lx
namespace Lx
open Go Go.Proofs
theorem Q315:∀{ks:List Kind} {prev:Option Str},Qh9e prev ks=true→∀k∈ks,k.ok=true
 | [],_,_,k,hk=>by simp at hk
 | a::ks,prev,h,k,hk=>by
  rw[Qh9e]at h
  simp only[qaT]at h
  simp only[List.mem_cons]at hk
  rcases hk with rfl|hk
  ·exact h.1
  ·exact Q315 h.2.2 k hk
end Lx
namespace Lx
open Go Go.Proofs
end Lx
namespace Lx
open Go Go.Proofs
end Lx
namespace Lx
open Go Go.Proofs
end Lx
namespace Lx
open Go Go.Proofs
end Lx
namespace Lx
open Go Go.Proofs
end Lx
namespace Lx
open Go Go.Proofs
end Lx
namespace Lx
open Go Go.Proofs
theorem Q1nj:∀{ps seen:List Point} {prev:Option Str},Qaym seen prev ps=true→∀p∈ps,p.ok=true
 | [],_,_,_,p,hp=>by simp at hp
 | a::ps,seen,prev,h,p,hp=>by
  rw[Qaym]at h
  simp only[qaT]at h
  simp only[List.mem_cons]at hp
  rcases hp with rfl|hp
  ·exact h.1
  ·exact Q1nj h.2.2.2 p hp
end Lx
namespace Lx
open Go Go.Proofs
structure TxP where
 s:Str
 p:Int
 deriving Inhabited
def Qr3b(p:Int)(x:TxP):Prop:=x.s.length≤200∧p≤x.p∧x.p≤p+20
noncomputable def dVal(bs:List Int)(p:Int)(ks:List Kind)(ps:List Point)(w:Int):TxP:=drawn (fun x=>Qewq Tryz.prog CP Qwqy [.ptr 0 0,.agg [.sl .kind ks,.sl .point ps],.int .i64 w] [.box [.sl .u8 bs,.int .i64 p]] (.str x.s) [.box [.sl .u8 bs,.int .i64 x.p]]∧Qr3b p x)
def Qeqt(ps:List Point):Bool:=ps.all fun z=>decide (z.name.length≤8)
def valK(bs:List Int)(p:Int)(ks:List Kind)(ps:List Point):Bool:=rdK bs p&&(decide (ps.length≤100)&&(Qeqt ps&&decide (1≤ps.length)))
noncomputable def Q0t5:Ent Ty El:=⟨[.io,.ro,.ro],0,fun a h=>match a,h with
 | [.ptr 0 0,.agg [.sl .kind ks,.sl .point ps],.int .i64 w],[.box [.sl .u8 bs,.int .i64 p]]=>some (valK bs p ks ps,.str (dVal bs p ks ps w).s,[.box [.sl .u8 bs,.int .i64 (dVal bs p ks ps w).p]])
 | _,_=>none⟩
theorem Qgo3{bs:List Int}{p:Int}{l:List Str}{M:Nat}(h:l.all (fun s=>decide (s.length≤M))=true):(ofV bs p l).length≤M:=by
 unfold ofV
 rw[qgD]
 cases hi:l[(pickV bs p (l.length:Int)).toNat]? with
 | none=>simp
 | some s=>simpa using qlA.1 h s (qmG hi)
theorem decs{n:Int}(h:0≤n)(h1:n≤99999):(decide (0≤n)&&decide (n<10 ^ (4+1)))=true∧(dDec 4 n).length≤5:=by
 have hg:(decide (0≤n)&&decide (n<10 ^ (4+1)))=true:=by simp only[qaT,qdT];omega
 exact⟨hg,(Qbt7 n hg).2⟩
theorem Q5k5{ks:List Kind}{ps:List Point}(h:Qib4 ks ps=true):ps.length≤16∧∀z∈ps,z.name.length≤8:=by
 simp only[Qib4,qaT,qdT]at h
 refine⟨h.2.1,fun z hz=>?_⟩
 have:=Q1nj h.2.2.2 z hz
 simp only[Point.ok,Q2rq,qaT,qdT]at this
 exact this.1.2.1
theorem Qd1y{ks:List Kind}{ps:List Point}(h:Qib4 ks ps=true):ps.length≤100∧Qeqt ps=true:=by
 obtain⟨h1,h2⟩:=Q5k5 h
 exact⟨by omega,qlA.2 fun z hz=>decide_eq_true (h2 z hz)⟩
theorem named{ps:List Point}(h:Qeqt ps=true):∀z∈ps,z.name.length≤8:=fun z hz=>of_decide_eq_true (qlA.1 h z hz)
end Lx
namespace Lx
open Go Go.Proofs
noncomputable def Qttc:RE Ty El:=⟨Tryz.prog,CP,[(Qpxs,Q7v2),(Qchm,Q2vb),(Qstj,Qmce)],Tryz.f118,1,[],[(20,[(0,.any),(4,.any),(9,.any),(10,.any),(11,.any)])]⟩
theorem Qyl0:REOK Qttc Qwqy:=⟨CP_ok,(TabOK.cons Q0e7 (TabOK.cons Qyvd (TabOK.cons Qqii Qye1))),by kernel_rfl,by kernel_rfl⟩
theorem Q12p(bs:List Int)(p:Int)(ks:List Kind)(ps:List Point)(w:Int):aRun Qttc 600 false (body0 Qttc.fn) (Q4gm Qttc.fn [.ptr 0 0,.agg [.sl .kind ks,.sl .point ps],.int .i64 w] [.box [.sl .u8 bs,.int .i64 p]]) =
 let z4:=(9223372036854775807:Nat);let z5:=(4:Nat);let z7:=(pickV bs p (200:Int));let z10:=(32:UInt8);let z13:HL:=[.box [.sl .u8 bs,.int .i64 (p+1)]];let z14:=(decide (List.length (dDec z5 z7)+#[z10].toList.length≤z4));let z15:=((1:Int)+pickV bs p (6:Int));let z16:=(10000:Int);let z17:=(z5+(1:Nat));let z6:=(decide (0≤pickV bs p (200:Int))&&decide (pickV bs p (200:Int)<(10:Int) ^ z17));let z18:=(p+1+1+1);let z11:HL:=[.box [.sl .u8 bs,.int .i64 z18],.box [.sl .kind ks,.sl .point ps]];let z19:HL:=[.box [.sl .u8 bs,.int .i64 (p+1+1+1+1)]];let z20:=(p+1+1);let z0:=(z16-pickV bs z20 (80:Int));let z2:=(IntKind.i64.wrap z0+pickV bs z18 (20:Int));let z3:=(pickV bs p (200:Int)+pickV bs z20 (20:Int));let z8:=(decide (0≤IntKind.i64.wrap z0)&&decide (IntKind.i64.wrap z0<(10:Int) ^ z17));let z12:=(IntKind.i64.wrap z0);let z9:=(decide (List.length (dDec z5 z12)+#[z10].toList.length≤z4));let z21:=(pickV bs p (↑ps.length:Int));let z1:=((ps.getD z21.toNat (Qttc.C.dflt Ty.point)).name);let z22:=(104:UInt8);let z23:HL:=[.box [.sl .u8 bs,.int .i64 z18]];let z24:=(dDec z5 z12++#[z10].toList);let z25:=(Qu6t Qttc.fn 20);ifb (w==1) (ifb (rdOk bs p&&decide ((0:Nat)<[#[(97:UInt8),49].toList, #[z22,101,97,118,121].toList, #[(97:UInt8),49].toList, #[z22,101,97,118,121].toList, #[(115:UInt8),108,111,119].toList].length)) (some (.ret (.str (ofV bs p [#[(97:UInt8),49].toList, #[z22,101,97,118,121].toList, #[(97:UInt8),49].toList, #[z22,101,97,118,121].toList, #[(115:UInt8),108,111,119].toList])) z13)) none) (ifb (w==2) (ifb (posOk p) (ifb (posOk (p+1)) (ifb (pickV bs (p+1) (16:Int)==(0:Int)) (ifb (posOk z20) (ifb (posOk z18) (ifb (decide (IntKind.i64.wrap z2>z16)) (ifb z8 (ifb z9 (ifb (decide (z24.length+List.length (dDec z5 z16)≤z4)) (some (.ret (.str (dDec z5 z12++#[z10].toList++dDec z5 z16)) z19)) none) none) none) (ifb z8 (ifb z9 (ifb (decide (0≤IntKind.i64.wrap z2)&&decide (IntKind.i64.wrap z2<(10:Int) ^ z17)) (ifb (decide (z24.length+List.length (dDec z5 (IntKind.i64.wrap z2))≤z4)) (some (.ret (.str (dDec z5 z12++#[z10].toList++dDec z5 (IntKind.i64.wrap z2))) z19)) none) none) none) none)) none) none) (ifb (posOk z20) (ifb (decide (IntKind.i64.wrap z3>z16)) (ifb z6 (ifb z14 (ifb (decide ((dDec z5 z7++#[z10].toList).length+List.length (dDec z5 z16)≤z4)) (some (.ret (.str (dDec z5 z7++#[z10].toList++dDec z5 z16)) z23)) none) none) none) (ifb z6 (ifb z14 (ifb (decide (0≤IntKind.i64.wrap z3)&&decide (IntKind.i64.wrap z3<(10:Int) ^ z17)) (ifb (decide ((dDec z5 z7++#[z10].toList).length+List.length (dDec z5 (IntKind.i64.wrap z3))≤z4)) (some (.ret (.str (dDec z5 z7++#[z10].toList++dDec z5 (IntKind.i64.wrap z3))) z23)) none) none) none) none)) none)) none) none) (ifb (w==3) (ifb (posOk p) (ifb (decide (0≤IntKind.i64.wrap z15)&&decide (IntKind.i64.wrap z15<(10:Int) ^ z17)) (some (.ret (.str (dDec z5 (IntKind.i64.wrap z15))) z13)) none) none) (ifb (w==4) (ifb (posOk p) (ifb (inb z21 ps.length) (ifb (posOk (p+1)) (ifb (posOk z20) (ifb (pickV bs z20 (8:Int)==(0:Int)) (some (.go z25 [.ptr 0 0,.ptr 1 0,.str z1,.str z1,.int .i64 7] z11)) (some (.go z25 [.ptr 0 0,.ptr 1 0,.str z1,.str z1,.int .i64 (IntKind.i64.wrap ((1:Int)+pickV bs (p+1) (4:Int)))] z11))) none) none) none) none) (ifb (rdOk bs p&&decide ((0:Nat)<[#[(111:UInt8),112,101,110].toList, #[(99:UInt8),108,111,115,101,100].toList].length)) (some (.ret (.str (ofV bs p [#[(111:UInt8),112,101,110].toList, #[(99:UInt8),108,111,115,101,100].toList])) z13)) none)))):=by kernel_rfl
theorem Q0ny(x0:Str)(x1:Str)(x2:Int)(x3:List (El .u8))(x4:Int)(x5:List (El .kind))(x6:List (El .point)):aRun Qttc 600 true (Qu6t Qttc.fn 20) (cutSt Qttc.fn (Q1m4 Qttc (Qu6t Qttc.fn 20)) [.ptr 0 0,.ptr 1 0,.str x0,.str x1,.int .i64 x2] [.box [.sl .u8 x3,.int .i64 x4],.box [.sl .kind x5,.sl .point x6]]) =
 let z1:HL:=[.box [.sl .u8 x3,.int .i64 (x4+1)],.box [.sl .kind x5,.sl .point x6]];let z2:=(pickV x3 x4 (↑x6.length:Int));let z0:=(x6.getD z2.toNat (Qttc.C.dflt Ty.point));let z3:=(Qu6t Qttc.fn 20);ifb (decide (x2>0)) (ifb (posOk x4) (ifb (inb z2 x6.length) (ifb (!z0.name==x1) (ifb (decide (List.length x0+#[(32:UInt8)].toList.length≤(9223372036854775807:Nat))) (ifb (decide ((x0++#[(32:UInt8)].toList).length+List.length z0.name≤(9223372036854775807:Nat))) (some (.go z3 [.ptr 0 0,.ptr 1 0,.str (x0++#[(32:UInt8)].toList++z0.name),.str (z0.name),.int .i64 (IntKind.i64.wrap (x2-1))] z1)) none) none) (some (.go z3 [.ptr 0 0,.ptr 1 0,.str x0,.str x1,.int .i64 (IntKind.i64.wrap (x2-1))] z1))) none) none) (some (.ret (.str x0) [.box [.sl .u8 x3,.int .i64 x4]])):=by kernel_rfl
theorem Qb5x{bs:List Int}{p q:Int}{s:Str}(h1:s.length≤200)(h2:p≤q)(h3:q≤p+20):∃x:TxP,(AV.str s:AV Ty El)=.str x.s∧([.box [.sl .u8 bs,.int .i64 q]]:List (AObj Ty El))=[.box [.sl .u8 bs,.int .i64 x.p]]∧Qr3b p x:=⟨⟨s,q⟩,rfl,rfl,h1,h2,h3⟩
theorem Q3yw(bs:List Int)(ks:List Kind)(ps:List Point)(hbs:Qf9o bs=true)(hps:∀z∈ps,z.name.length≤8)(h1:1≤ps.length)(h16:ps.length≤100):∀(d:Nat) (x0 x1:Str) (q:Int),0≤q→q+d≤950000→d≤10→x0.length+9*d≤1000 →
  CutE Qttc Qwqy 20 [.ptr 0 0,.ptr 1 0,.str x0,.str x1,.int .i64 (d:Int)] [.box [.sl .u8 bs,.int .i64 q],.box [.sl .kind ks,.sl .point ps]] (fun v h=>∃x:TxP,v=.str x.s∧h=[.box [.sl .u8 bs,.int .i64 x.p]]∧x.s.length≤x0.length+9*d∧q≤x.p∧x.p≤q+d):=by
 intro d
 induction d with
 | zero =>
  intro x0 x1 q h0 hq hd hx
  refine CutE.of Qyl0 rfl (Q0ny x0 x1 (0:Nat) bs q ks ps) ?_
  conv=>zeta
  exact SatE.ret ⟨⟨x0,q⟩,rfl,rfl,by simp,by simp,by simp⟩
 | succ d ih =>
  intro x0 x1 q h0 hq hd hx
  refine CutE.of Qyl0 rfl (Q0ny x0 x1 ((d+1:Nat):Int) bs q ks ps) ?_
  conv=>zeta
  obtain⟨a1,a2⟩:=Q5va (p:=q) (n:=(ps.length:Int)) hbs (Q8s4 (by omega) (by omega)) (by omega)
  have hi:inb (pickV bs q (ps.length:Int)) ps.length=true:=by simp only[inb,qaT,qdT];exact⟨a1,a2⟩
  have hw:IntKind.i64.wrap (((d+1:Nat):Int)-1)=(d:Int):=by rw[Qbrg]<;>omega
  have hn:(ps.getD (pickV bs q (ps.length:Int)).toNat (Qttc.C.dflt Ty.point)).name.length≤8:=by
   rw[qgD,qeG (by omega)]
   exact hps _ (List.getElem_mem _)
  rw[show decide (((d+1:Nat):Int)>0)=true from decide_eq_true (by omega),Q8s4 (q:=q) (by omega) (by omega),hi,hw]
  simp only[Qd8q]
  generalize (ps.getD (pickV bs q (ps.length:Int)).toNat (Qttc.C.dflt Ty.point)).name=nm at hn ⊢
  refine SatE.ifb (fun _=>?_) (fun _=>?_)
  ·refine SatE.need (decide_eq_true (by simp;omega)) (SatE.need (decide_eq_true (by simp;omega)) (SatE.mono (SatE.cut (ih _ _ (q+1) (by omega) (by omega) (by omega) (by simp;omega))) ?_))
   rintro v h ⟨x,rfl,rfl,b1,b2,b3⟩
   exact⟨x,rfl,rfl,by simp at b1;omega,by omega,by omega⟩
  ·refine SatE.mono (SatE.cut (ih _ _ (q+1) (by omega) (by omega) (by omega) (by omega))) ?_
   rintro v h ⟨x,rfl,rfl,b1,b2,b3⟩
   exact⟨x,rfl,rfl,by omega,by omega,by omega⟩
theorem Qpyo(bs:List Int)(p:Int)(ks:List Kind)(ps:List Point)(w:Int)(hg:valK bs p ks ps=true):Qewq Tryz.prog CP Qwqy [.ptr 0 0,.agg [.sl .kind ks,.sl .point ps],.int .i64 w] [.box [.sl .u8 bs,.int .i64 p]] (.str (dVal bs p ks ps w).s) [.box [.sl .u8 bs,.int .i64 (dVal bs p ks ps w).p]]∧Qr3b p (dVal bs p ks ps w):=by
 simp only[valK,qaT,qdT]at hg
 obtain⟨hr,h16,hn,h1⟩:=hg
 have hps:=named hn
 have hrd:=Qosd (q:=p) hr (by omega) (by omega)
 simp only[rdK,qaT,qdT]at hr
 obtain⟨hbs,h0,h9⟩:=hr
 have ps0:∀(q:Int),p≤q→q≤p+10→posOk q=true:=fun q h2 h3=>Q8s4 (by omega) (by omega)
 have pk:∀(q n:Int),p≤q→q≤p+10→1≤n→0≤pickV bs q n∧pickV bs q n<n:=fun q n h2 h3 h4=>Q5va hbs (ps0 q h2 h3) h4
 have rt:∀(q:Int) (x0 x1:Str) (m:Int),p≤q→q≤p+10→0≤m→m≤7→x0.length≤8→SatE Qttc Qwqy (fun v h=>∃x:TxP,v=.str x.s∧h=[.box [.sl .u8 bs,.int .i64 x.p]]∧Qr3b p x) (some (.go (Qu6t Qttc.fn 20) [.ptr 0 0,.ptr 1 0,.str x0,.str x1,.int .i64 m] [.box [.sl .u8 bs,.int .i64 q],.box [.sl .kind ks,.sl .point ps]])):=fun q x0 x1 m h2 h3 h4 h5 h6=>by
  obtain⟨d,rfl⟩:=Int.eq_ofNat_of_zero_le h4
  refine SatE.mono (SatE.cut (Q3yw bs ks ps hbs hps h1 h16 d x0 x1 q (by omega) (by omega) (by omega) (by omega))) ?_
  rintro v h ⟨x,rfl,rfl,b1,b2,b3⟩
  exact⟨x,rfl,rfl,by omega,by omega,by omega⟩
 have hE:CallE Qttc.P Qttc.C Qwqy [.ptr 0 0,.agg [.sl .kind ks,.sl .point ps],.int .i64 w] [.box [.sl .u8 bs,.int .i64 p]] (fun v h=>∃x:TxP,v=.str x.s∧h=[.box [.sl .u8 bs,.int .i64 x.p]]∧Qr3b p x):=by
  refine CallE.of Qyl0 (by kernel_rfl) (Q12p bs p ks ps w) ?_
  conv=>zeta
  refine SatE.ifb (fun _=>SatE.need (by rw[hrd];rfl) (SatE.ret (Qb5x (Nat.le_trans (Qgo3 (M:=5) (by rfl)) (by omega)) (by omega) (by omega)))) (fun _=>SatE.ifb (fun _=>?_) (fun _=>SatE.ifb (fun _=>?_) (fun _=>SatE.ifb (fun _=>?_) (fun _=>SatE.need (by rw[hrd];rfl) (SatE.ret (Qb5x (Nat.le_trans (Qgo3 (M:=6) (by rfl)) (by omega)) (by omega) (by omega)))))))
  ·obtain⟨a1,a2⟩:=pk p 200 (by omega) (by omega) (by omega)
   obtain⟨c1,c2⟩:=pk (p+1+1) 80 (by omega) (by omega) (by omega)
   obtain⟨e1,e2⟩:=pk (p+1+1+1) 20 (by omega) (by omega) (by omega)
   obtain⟨f1,f2⟩:=pk (p+1+1) 20 (by omega) (by omega) (by omega)
   have w1:IntKind.i64.wrap (10000-pickV bs (p+1+1) 80)=10000-pickV bs (p+1+1) 80:=Qbrg (by omega) (by omega)
   have w2:IntKind.i64.wrap (10000-pickV bs (p+1+1) 80+pickV bs (p+1+1+1) 20)=10000-pickV bs (p+1+1) 80+pickV bs (p+1+1+1) 20:=Qbrg (by omega) (by omega)
   have w3:IntKind.i64.wrap (pickV bs p 200+pickV bs (p+1+1) 20)=pickV bs p 200+pickV bs (p+1+1) 20:=Qbrg (by omega) (by omega)
   rw[w1,w2,w3]
   obtain⟨g1,l1⟩:=decs (n:=10000) (by omega) (by omega)
   obtain⟨g2,l2⟩:=decs (n:=10000-pickV bs (p+1+1) 80) (by omega) (by omega)
   obtain⟨g3,l3⟩:=decs (n:=10000-pickV bs (p+1+1) 80+pickV bs (p+1+1+1) 20) (by omega) (by omega)
   obtain⟨g4,l4⟩:=decs (n:=pickV bs p 200) (by omega) (by omega)
   obtain⟨g5,l5⟩:=decs (n:=pickV bs p 200+pickV bs (p+1+1) 20) (by omega) (by omega)
   refine SatE.need (ps0 _ (by omega) (by omega)) (SatE.need (ps0 _ (by omega) (by omega)) (SatE.ifb (fun _=>?_) (fun _=>?_)))
   ·refine SatE.need (ps0 _ (by omega) (by omega)) (SatE.need (ps0 _ (by omega) (by omega)) (SatE.ifb (fun _=>?_) (fun _=>?_)))
    ·exact SatE.need g2 (SatE.need (decide_eq_true (by simp;omega)) (SatE.need (decide_eq_true (by simp;omega)) (SatE.ret (Qb5x (by simp;omega) (by omega) (by omega)))))
    ·exact SatE.need g2 (SatE.need (decide_eq_true (by simp;omega)) (SatE.need g3 (SatE.need (decide_eq_true (by simp;omega)) (SatE.ret (Qb5x (by simp;omega) (by omega) (by omega))))))
   ·refine SatE.need (ps0 _ (by omega) (by omega)) (SatE.ifb (fun _=>?_) (fun _=>?_))
    ·exact SatE.need g4 (SatE.need (decide_eq_true (by simp;omega)) (SatE.need (decide_eq_true (by simp;omega)) (SatE.ret (Qb5x (by simp;omega) (by omega) (by omega)))))
    ·exact SatE.need g4 (SatE.need (decide_eq_true (by simp;omega)) (SatE.need g5 (SatE.need (decide_eq_true (by simp;omega)) (SatE.ret (Qb5x (by simp;omega) (by omega) (by omega))))))
  ·obtain⟨a1,a2⟩:=pk p 6 (by omega) (by omega) (by omega)
   have w1:IntKind.i64.wrap (1+pickV bs p 6)=1+pickV bs p 6:=Qbrg (by omega) (by omega)
   rw[w1]
   obtain⟨g1,l1⟩:=decs (n:=1+pickV bs p 6) (by omega) (by omega)
   exact SatE.need (ps0 _ (by omega) (by omega)) (SatE.need g1 (SatE.ret (Qb5x (by omega) (by omega) (by omega))))
  ·obtain⟨a1,a2⟩:=pk p (ps.length:Int) (by omega) (by omega) (by omega)
   obtain⟨b1,b2⟩:=pk (p+1) 4 (by omega) (by omega) (by omega)
   have hi:inb (pickV bs p (ps.length:Int)) ps.length=true:=by simp only[inb,qaT,qdT];exact⟨a1,a2⟩
   have w1:IntKind.i64.wrap (1+pickV bs (p+1) 4)=1+pickV bs (p+1) 4:=Qbrg (by omega) (by omega)
   rw[w1]
   have hn:(ps.getD (pickV bs p (ps.length:Int)).toNat (Qttc.C.dflt Ty.point)).name.length≤8:=by
    rw[qgD,qeG (by omega)]
    exact hps _ (List.getElem_mem _)
   refine SatE.need (ps0 _ (by omega) (by omega)) (SatE.need hi (SatE.need (ps0 _ (by omega) (by omega)) (SatE.need (ps0 _ (by omega) (by omega)) (SatE.ifb (fun _=>?_) (fun _=>?_)))))
   ·exact rt _ _ _ _ (by omega) (by omega) (by omega) (by omega) hn
   ·exact rt _ _ _ _ (by omega) (by omega) (by omega) (by omega) hn
 obtain⟨v,H',h,x,rfl,rfl,hx⟩:=hE
 exact Qk78 (p:=fun x:TxP=>Qewq Tryz.prog CP Qwqy [.ptr 0 0,.agg [.sl .kind ks,.sl .point ps],.int .i64 w] [.box [.sl .u8 bs,.int .i64 p]] (.str x.s) [.box [.sl .u8 bs,.int .i64 x.p]]∧Qr3b p x) ⟨x,h,hx⟩
theorem Q95u(bs:List Int)(p:Int)(ks:List Kind)(ps:List Point)(w:Int)(hg:valK bs p ks ps=true):Qewq Tryz.prog CP Qwqy [.ptr 0 0,.agg [.sl .kind ks,.sl .point ps],.int .i64 w] [.box [.sl .u8 bs,.int .i64 p]] (.str (dVal bs p ks ps w).s) [.box [.sl .u8 bs,.int .i64 (dVal bs p ks ps w).p]]:=by
 exact(Qpyo bs p ks ps w hg).1
theorem Qnck:EntOK Tryz.prog CP Qwqy Q0t5:=by
 refine⟨eob (by kernel_rfl),fun _ _ _ _ h=>?_⟩
 simp only[Q0t5]at h
 split at h
 ·obtain⟨hg,rfl,rfl⟩:=eoh h
  exact Q95u _ _ _ _ _ hg
 ·cases h
end Lx
namespace Lx
open Go Go.Proofs
structure ChgP where
 c:Chg
 p:Int
 deriving Inhabited
def Qi1t(p:Int)(x:ChgP):Prop:=szV x.c.value=true∧p≤x.p∧x.p≤p+30
noncomputable def dChg(bs:List Int)(p:Int)(ks:List Kind)(ps:List Point):ChgP:=drawn (fun x=>Qewq Tryz.prog CP Qhy2 [.ptr 0 0,.agg [.sl .kind ks,.sl .point ps]] [.box [.sl .u8 bs,.int .i64 p]] (.agg [.str x.c.flight,.int .i64 x.c.what,.int .i64 x.c.number,.str x.c.value]) [.box [.sl .u8 bs,.int .i64 x.p]]∧Qi1t p x)
def chgK(bs:List Int)(p:Int)(ks:List Kind)(ps:List Point):Bool:=Qf9o bs&&(decide (0≤p)&&(decide (p≤890000)&&(decide (ps.length≤100)&&(Qeqt ps&&decide (1≤ps.length)))))
noncomputable def Qiyn:Ent Ty El:=⟨[.io,.ro],0,fun a h=>match a,h with
 | [.ptr 0 0,.agg [.sl .kind ks,.sl .point ps]],[.box [.sl .u8 bs,.int .i64 p]]=>some (chgK bs p ks ps,.agg [.str (dChg bs p ks ps).c.flight,.int .i64 (dChg bs p ks ps).c.what,.int .i64 (dChg bs p ks ps).c.number,.str (dChg bs p ks ps).c.value],[.box [.sl .u8 bs,.int .i64 (dChg bs p ks ps).p]])
 | _,_=>none⟩
structure ChgsP where
 l:List Chg
 p:Int
 deriving Inhabited
def Q4tv(p:Int)(x:ChgsP):Prop:=x.l.length≤24∧x.l.all (fun c=>szV c.value)=true∧p≤x.p∧x.p≤p+800
noncomputable def dChgs(bs:List Int)(p:Int)(ks:List Kind)(ps:List Point)(m:Int):ChgsP:=drawn (fun x=>Qewq Tryz.prog CP Q43w [.ptr 0 0,.agg [.sl .kind ks,.sl .point ps],.int .i64 m] [.box [.sl .u8 bs,.int .i64 p]] (.sl .chg x.l) [.box [.sl .u8 bs,.int .i64 x.p]]∧Q4tv p x)
def chgsK(bs:List Int)(p:Int)(ks:List Kind)(ps:List Point)(m:Int):Bool:=Qf9o bs&&(decide (0≤p)&&(decide (p≤880000)&&(Qib4 ks ps&&(decide (1≤ps.length)&&(decide (1≤m)&&decide (m≤24))))))
noncomputable def Qfl5:Ent Ty El:=⟨[.io,.ro,.ro],0,fun a h=>match a,h with
 | [.ptr 0 0,.agg [.sl .kind ks,.sl .point ps],.int .i64 m],[.box [.sl .u8 bs,.int .i64 p]]=>some (chgsK bs p ks ps m,.sl .chg (dChgs bs p ks ps m).l,[.box [.sl .u8 bs,.int .i64 (dChgs bs p ks ps m).p]])
 | _,_=>none⟩
end Lx
namespace Lx
open Go Go.Proofs
noncomputable def Qgih:RE Ty El:=⟨Tryz.prog,CP,[(Qpxs,Q7v2),(Qchm,Q2vb),(Qwqy,Q0t5)],Tryz.f90,1,[],[(4,[(0,.any),(3,.any),(4,.any),(5,.any)])]⟩
theorem Qe50:REOK Qgih Qhy2:=⟨CP_ok,(TabOK.cons Q0e7 (TabOK.cons Qyvd (TabOK.cons Qnck Qye1))),by kernel_rfl,by kernel_rfl⟩
theorem Qhjm(bs:List Int)(p:Int)(ks:List Kind)(ps:List Point):aRun Qgih 600 false (body0 Qgih.fn) (Q4gm Qgih.fn [.ptr 0 0,.agg [.sl .kind ks,.sl .point ps]] [.box [.sl .u8 bs,.int .i64 p]]) =
 let z0:HL:=[.box [.sl .u8 bs,.int .i64 (p+1+1)],.box [.sl .kind ks,.sl .point ps],.box [.str #[].toList,.int .i64 0,.int .i64 0,.str #[].toList]];let z1:=((1:Int)+pickV bs p (5:Int));let z2:=(Qu6t Qgih.fn 4);ifb (posOk p) (ifb (IntKind.i64.wrap z1==(5:Int)) (ifb (posOk (p+1)) (ifb (pickV bs (p+1) (2:Int)==(0:Int)) (some (.go z2 [.ptr 0 0,.ptr 1 0,.ptr 2 0,.int .i64 4] z0)) (some (.go z2 [.ptr 0 0,.ptr 1 0,.ptr 2 0,.int .i64 (IntKind.i64.wrap z1)] z0))) none) (some (.go z2 [.ptr 0 0,.ptr 1 0,.ptr 2 0,.int .i64 (IntKind.i64.wrap z1)] [.box [.sl .u8 bs,.int .i64 (p+1)],.box [.sl .kind ks,.sl .point ps],.box [.str #[].toList,.int .i64 0,.int .i64 0,.str #[].toList]]))) none:=by kernel_rfl
theorem Qczd(x0:Int)(x1:List (El .u8))(x2:Int)(x3:List (El .kind))(x4:List (El .point))(x5:Str)(x6:Int)(x7:Int)(x8:Str):aRun Qgih 600 true (Qu6t Qgih.fn 4) (cutSt Qgih.fn (Q1m4 Qgih (Qu6t Qgih.fn 4)) [.ptr 0 0,.ptr 1 0,.ptr 2 0,.int .i64 x0] [.box [.sl .u8 x1,.int .i64 x2],.box [.sl .kind x3,.sl .point x4],.box [.str x5,.int .i64 x6,.int .i64 x7,.str x8]]) =
 let z0:=(107:UInt8);let z1:=(dVal x1 (x2+1+1) x3 x4 x0);ifb (rdOk x1 x2&&decide ((0:Nat)<[#[z0,108,49].toList, #[z0,108,49].toList, #[z0,108,49].toList, #[(98:UInt8),97,45,50].toList, #[(98:UInt8),97,45,50].toList, #[(108:UInt8),104,51].toList, #[(120:UInt8)].toList].length)) (ifb (posOk (x2+1)) (ifb (valK x1 (x2+1+1) x3 x4) (some (.ret (.agg [.str (ofV x1 x2 [#[z0,108,49].toList, #[z0,108,49].toList, #[z0,108,49].toList, #[(98:UInt8),97,45,50].toList, #[(98:UInt8),97,45,50].toList, #[(108:UInt8),104,51].toList, #[(120:UInt8)].toList]),.int .i64 x0,.int .i64 (IntKind.i64.wrap ((1:Int)+pickV x1 (x2+1) (12:Int))),.str (z1.s)]) [.box [.sl .u8 x1,.int .i64 (z1.p)]])) none) none) none:=by kernel_rfl
theorem Q7ox{bs:List Int}{p q w n:Int}{f v:Str}(h1:szV v=true)(h2:p≤q)(h3:q≤p+30):∃x:ChgP,(AV.agg [.str f,.int .i64 w,.int .i64 n,.str v]:AV Ty El)=.agg [.str x.c.flight,.int .i64 x.c.what,.int .i64 x.c.number,.str x.c.value]∧([.box [.sl .u8 bs,.int .i64 q]]:List (AObj Ty El))=[.box [.sl .u8 bs,.int .i64 x.p]]∧Qi1t p x:=⟨⟨⟨f,w,n,v⟩,q⟩,rfl,rfl,h1,h2,h3⟩
theorem Qnhc(bs:List Int)(p:Int)(ks:List Kind)(ps:List Point)(hg:chgK bs p ks ps=true):Qewq Tryz.prog CP Qhy2 [.ptr 0 0,.agg [.sl .kind ks,.sl .point ps]] [.box [.sl .u8 bs,.int .i64 p]] (.agg [.str (dChg bs p ks ps).c.flight,.int .i64 (dChg bs p ks ps).c.what,.int .i64 (dChg bs p ks ps).c.number,.str (dChg bs p ks ps).c.value]) [.box [.sl .u8 bs,.int .i64 (dChg bs p ks ps).p]]∧Qi1t p (dChg bs p ks ps):=by
 simp only[chgK,qaT,qdT]at hg
 obtain⟨hbs,h0,h9,h16,hn,h1⟩:=hg
 have ps0:∀(q:Int),p≤q→q≤p+10→posOk q=true:=fun q h2 h3=>Q8s4 (by omega) (by omega)
 have rd:∀(q:Int) (l:List Str),p≤q→q≤p+10→0<l.length→(rdOk bs q&&decide (0<l.length))=true:=fun q l h2 h3 hl=>by rw[rdOk,hbs,ps0 q h2 h3,decide_eq_true hl];rfl
 have vl:∀(q w:Int),p≤q→q≤p+10→valK bs q ks ps=true∧szV (dVal bs q ks ps w).s=true∧p≤(dVal bs q ks ps w).p∧(dVal bs q ks ps w).p≤p+30:=fun q w h2 h3=>by
  have hv:valK bs q ks ps=true:=by simp only[valK,rdK,qaT,qdT];exact⟨⟨hbs,by omega,by omega⟩,h16,hn,h1⟩
  obtain⟨a1,a2,a3⟩:=(Qpyo bs q ks ps w hv).2
  exact⟨hv,decide_eq_true (by omega),by omega,by omega⟩
 have hE:CallE Qgih.P Qgih.C Qhy2 [.ptr 0 0,.agg [.sl .kind ks,.sl .point ps]] [.box [.sl .u8 bs,.int .i64 p]] (fun v h=>∃x:ChgP,v=.agg [.str x.c.flight,.int .i64 x.c.what,.int .i64 x.c.number,.str x.c.value]∧h=[.box [.sl .u8 bs,.int .i64 x.p]]∧Qi1t p x):=by
  refine CallE.of Qe50 (by kernel_rfl) (Qhjm bs p ks ps) ?_
  conv=>zeta
  have hc:∀(q w:Int),p≤q→q≤p+5→CutE Qgih Qhy2 4 [.ptr 0 0,.ptr 1 0,.ptr 2 0,.int .i64 w] [.box [.sl .u8 bs,.int .i64 q],.box [.sl .kind ks,.sl .point ps],.box [.str [],.int .i64 0,.int .i64 0,.str []]] (fun v h=>∃x:ChgP,v=.agg [.str x.c.flight,.int .i64 x.c.what,.int .i64 x.c.number,.str x.c.value]∧h=[.box [.sl .u8 bs,.int .i64 x.p]]∧Qi1t p x):=fun q w h2 h3=>by
   refine CutE.of Qe50 rfl (Qczd w bs q ks ps [] 0 0 []) ?_
   conv=>zeta
   obtain⟨v1,v2,v3,v4⟩:=vl (q+1+1) w (by omega) (by omega)
   exact SatE.need (rd _ _ (by omega) (by omega) (Nat.zero_lt_succ _)) (SatE.need (ps0 _ (by omega) (by omega)) (SatE.need v1 (SatE.ret (Q7ox v2 v3 v4))))
  refine SatE.need (ps0 _ (by omega) (by omega)) (SatE.ifb (fun _=>SatE.need (ps0 _ (by omega) (by omega)) (SatE.ifb (fun _=>?_) (fun _=>?_))) (fun _=>?_))
  ·exact SatE.cut (hc _ _ (by omega) (by omega))
  ·exact SatE.cut (hc _ _ (by omega) (by omega))
  ·exact SatE.cut (hc _ _ (by omega) (by omega))
 obtain⟨v,H',h,x,rfl,rfl,hx⟩:=hE
 unfold dChg
 exact Qk78 (p:=fun x:ChgP=>Qewq Tryz.prog CP Qhy2 [.ptr 0 0,.agg [.sl .kind ks,.sl .point ps]] [.box [.sl .u8 bs,.int .i64 p]] (.agg [.str x.c.flight,.int .i64 x.c.what,.int .i64 x.c.number,.str x.c.value]) [.box [.sl .u8 bs,.int .i64 x.p]]∧Qi1t p x) ⟨x,h,hx⟩
theorem Q20h(bs:List Int)(p:Int)(ks:List Kind)(ps:List Point)(hg:chgK bs p ks ps=true):Qewq Tryz.prog CP Qhy2 [.ptr 0 0,.agg [.sl .kind ks,.sl .point ps]] [.box [.sl .u8 bs,.int .i64 p]] (.agg [.str (dChg bs p ks ps).c.flight,.int .i64 (dChg bs p ks ps).c.what,.int .i64 (dChg bs p ks ps).c.number,.str (dChg bs p ks ps).c.value]) [.box [.sl .u8 bs,.int .i64 (dChg bs p ks ps).p]]:=by
 exact(Qnhc bs p ks ps hg).1
theorem Q3dh:EntOK Tryz.prog CP Qhy2 Qiyn:=by
 refine⟨eob (by kernel_rfl),fun _ _ _ _ h=>?_⟩
 simp only[Qiyn]at h
 split at h
 ·obtain⟨hg,rfl,rfl⟩:=eoh h
  exact Q20h _ _ _ _ hg
 ·cases h

noncomputable def Q9ws:RE Ty El:=⟨Tryz.prog,CP,[(Qpxs,Q7v2),(Qhy2,Qiyn)],Tryz.f150,1,[.ro .chg],[(3,[(0,.any),(4,.any),(7,.any),(8,.any)])]⟩
theorem Qtkw:REOK Q9ws Q43w:=⟨CP_ok,(TabOK.cons Q0e7 (TabOK.cons Q3dh Qye1)),by kernel_rfl,by kernel_rfl⟩
theorem Qr5u(bs:List Int)(p:Int)(ks:List Kind)(ps:List Point)(m:Int):aRun Q9ws 600 false (body0 Q9ws.fn) (Q4gm Q9ws.fn [.ptr 0 0,.agg [.sl .kind ks,.sl .point ps],.int .i64 m] [.box [.sl .u8 bs,.int .i64 p]]) =
 ifb (posOk p) (some (.go (Qu6t Q9ws.fn 3) [.ptr 0 0,.ptr 1 0,.own 2 [] 0,.int .i64 (pickV bs p m)] [.box [.sl .u8 bs,.int .i64 (p+1)],.box [.sl .kind ks,.sl .point ps],.row .chg [] 0 0 0 .no])) none:=by kernel_rfl
theorem Qv2y(x0:Int)(x1:List (El .u8))(x2:Int)(x3:List (El .kind))(x4:List (El .point))(x5:List (El .chg)):aRun Q9ws 600 true (Qu6t Q9ws.fn 3) (cutSt Q9ws.fn (Q1m4 Q9ws (Qu6t Q9ws.fn 3)) [.ptr 0 0,.ptr 1 0,.own 2 [] 0,.int .i64 x0] [.box [.sl .u8 x1,.int .i64 x2],.box [.sl .kind x3,.sl .point x4],.row .chg x5 0 0 0 .no]) =
 ifb (decide (x0>0)) (ifb (chgK x1 x2 x3 x4) (ifb (decide ((x5.length+[(dChg x1 x2 x3 x4).c].length)*Qbhn Q9ws.P (51:Nat)≤(140737488355328:Nat))) (some (.go (Qu6t Q9ws.fn 3) [.ptr 0 0,.ptr 1 0,.own 2 [] 0,.int .i64 (IntKind.i64.wrap (x0-1))] [.box [.sl .u8 x1,.int .i64 ((dChg x1 x2 x3 x4).p)],.box [.sl .kind x3,.sl .point x4],.row .chg (x5++[(dChg x1 x2 x3 x4).c]) 0 0 0 .no])) none) none) (some (.ret (.sl .chg x5) [.box [.sl .u8 x1,.int .i64 x2]])):=by kernel_rfl
theorem Qpkk(bs:List Int)(ks:List Kind)(ps:List Point)(hbs:Qf9o bs=true)(hb:Qib4 ks ps=true)(h1:1≤ps.length):∀(d:Nat) (l:List Chg) (q:Int),0≤q→q+30*d≤890000→l.length+d≤24→l.all (fun c=>szV c.value)=true →
  CutE Q9ws Q43w 3 [.ptr 0 0,.ptr 1 0,.own 2 [] 0,.int .i64 (d:Int)] [.box [.sl .u8 bs,.int .i64 q],.box [.sl .kind ks,.sl .point ps],.row .chg l 0 0 0 .no] (fun v h=>∃x:ChgsP,v=.sl .chg x.l∧h=[.box [.sl .u8 bs,.int .i64 x.p]]∧x.l.length≤24∧x.l.all (fun c=>szV c.value)=true∧q≤x.p∧x.p≤q+30*d):=by
 have hbb:Qbhn Q9ws.P 51≤256:=of_decide_eq_true (by kernel_rfl)
 intro d
 induction d with
 | zero =>
  intro l q h0 hq hl hz
  refine CutE.of Qtkw rfl (Qv2y (0:Nat) bs q ks ps l) ?_
  exact SatE.ret ⟨⟨l,q⟩,rfl,rfl,by simpa using hl,hz,by simp,by simp⟩
 | succ d ih =>
  intro l q h0 hq hl hz
  refine CutE.of Qtkw rfl (Qv2y ((d+1:Nat):Int) bs q ks ps l) ?_
  have hw:IntKind.i64.wrap (((d+1:Nat):Int)-1)=(d:Int):=by rw[Qbrg]<;>omega
  have hc:chgK bs q ks ps=true:=by simp only[chgK,qaT,qdT];exact⟨hbs,h0,by omega,(Qd1y hb).1,(Qd1y hb).2,h1⟩
  obtain⟨c1,c2,c3⟩:=(Qnhc bs q ks ps hc).2
  rw[show decide (((d+1:Nat):Int)>0)=true from decide_eq_true (by omega),hc,hw]
  simp only[Qd8q]
  refine SatE.need (Q1mk hbb (by simp;omega)) (SatE.mono (SatE.cut (ih (l++[(dChg bs q ks ps).c]) (dChg bs q ks ps).p (by omega) (by omega) (by simp;omega) (by rw[List.all_append,hz];simpa using c1))) ?_)
  rintro v h ⟨x,rfl,rfl,a1,a2,a3,a4⟩
  exact⟨x,rfl,rfl,a1,a2,by omega,by omega⟩
theorem Qbm6(bs:List Int)(p:Int)(ks:List Kind)(ps:List Point)(m:Int)(hg:chgsK bs p ks ps m=true):Qewq Tryz.prog CP Q43w [.ptr 0 0,.agg [.sl .kind ks,.sl .point ps],.int .i64 m] [.box [.sl .u8 bs,.int .i64 p]] (.sl .chg (dChgs bs p ks ps m).l) [.box [.sl .u8 bs,.int .i64 (dChgs bs p ks ps m).p]]∧Q4tv p (dChgs bs p ks ps m):=by
 simp only[chgsK,qaT,qdT]at hg
 obtain⟨hbs,h0,h9,hb,h1,hm,hm2⟩:=hg
 have hE:CallE Q9ws.P Q9ws.C Q43w [.ptr 0 0,.agg [.sl .kind ks,.sl .point ps],.int .i64 m] [.box [.sl .u8 bs,.int .i64 p]] (fun v h=>∃x:ChgsP,v=.sl .chg x.l∧h=[.box [.sl .u8 bs,.int .i64 x.p]]∧Q4tv p x):=by
  refine CallE.of Qtkw (by kernel_rfl) (Qr5u bs p ks ps m) ?_
  obtain⟨a1,a2⟩:=Q5va (n:=m) hbs (Q8s4 (q:=p) (by omega) (by omega)) hm
  refine SatE.need (Q8s4 (by omega) (by omega)) ?_
  obtain⟨d,hd⟩:=Int.eq_ofNat_of_zero_le a1
  rw[hd]
  refine SatE.mono (SatE.cut (Qpkk bs ks ps hbs hb h1 d [] (p+1) (by omega) (by omega) (by simp;omega) rfl)) ?_
  rintro v h ⟨x,rfl,rfl,b1,b2,b3,b4⟩
  exact⟨x,rfl,rfl,b1,b2,by omega,by omega⟩
 obtain⟨v,H',h,x,rfl,rfl,hx⟩:=hE
 unfold dChgs
 exact Qk78 (p:=fun x:ChgsP=>Qewq Tryz.prog CP Q43w [.ptr 0 0,.agg [.sl .kind ks,.sl .point ps],.int .i64 m] [.box [.sl .u8 bs,.int .i64 p]] (.sl .chg x.l) [.box [.sl .u8 bs,.int .i64 x.p]]∧Q4tv p x) ⟨x,h,hx⟩
theorem Q3xm(bs:List Int)(p:Int)(ks:List Kind)(ps:List Point)(m:Int)(hg:chgsK bs p ks ps m=true):Qewq Tryz.prog CP Q43w [.ptr 0 0,.agg [.sl .kind ks,.sl .point ps],.int .i64 m] [.box [.sl .u8 bs,.int .i64 p]] (.sl .chg (dChgs bs p ks ps m).l) [.box [.sl .u8 bs,.int .i64 (dChgs bs p ks ps m).p]]:=by
 exact(Qbm6 bs p ks ps m hg).1
theorem Qel0:EntOK Tryz.prog CP Q43w Qfl5:=by
 refine⟨eob (by kernel_rfl),fun _ _ _ _ h=>?_⟩
 simp only[Qfl5]at h
 split at h
 ·obtain⟨hg,rfl,rfl⟩:=eoh h
  exact Q3xm _ _ _ _ _ hg
 ·cases h
end Lx
namespace Lx
open Go Go.Proofs
structure TkP where
 es:List Entry
 cs:List Int
 deriving Inhabited
noncomputable def dTk(ks:List Kind)(ps:List Point)(es:List Entry)(l:List Chg):TkP:=drawn (fun x=>Qewq Tryz.prog CP Qlb4 [.agg [.sl .kind ks,.sl .point ps,.sl .entry es],.sl .chg l] [] (.tup [.agg [.sl .kind ks,.sl .point ps,.sl .entry x.es],.sl .int x.cs]) []∧goodE ks ps x.es=true)
def tkK(ks:List Kind)(ps:List Point)(es:List Entry)(l:List Chg):Bool:=goodE ks ps es&&(decide (l.length≤1000)&&l.all (fun c=>szV c.value))
noncomputable def Q2m7:Ent Ty El:=⟨[.ro,.ro],0,fun a h=>match a,h with
 | [.agg [.sl .kind ks,.sl .point ps,.sl .entry es],.sl .chg l],[]=>some (tkK ks ps es l,.tup [.agg [.sl .kind ks,.sl .point ps,.sl .entry (dTk ks ps es l).es],.sl .int (dTk ks ps es l).cs],[])
 | _,_=>none⟩
end Lx
namespace Lx
open Go Go.Proofs
noncomputable def Qkxy:RE Ty El:=⟨Tryz.prog,CP,[(Qdfk,Q124),(Qfx9,Qc1o),(Qbeb,Q8t5)],Tryz.f63,0,[.agg [.ro .kind,.ro .point,.ro .entry],.ro .int],[(6,[(1,.any),(4,.any),(6,.any),(7,.box [.ro .kind,.ro .point,.ro .entry]),(8,.any)])]⟩
theorem Qdq1:REOK Qkxy Qlb4:=⟨CP_ok,(TabOK.cons Q8cq (TabOK.cons Qaka (TabOK.cons Q2a7 Qye1))),by kernel_rfl,by kernel_rfl⟩
theorem Qw5w(ks:List Kind)(ps:List Point)(es:List Entry)(l:List Chg):aRun Qkxy 600 false (body0 Qkxy.fn) (Q4gm Qkxy.fn [.agg [.sl .kind ks,.sl .point ps,.sl .entry es],.sl .chg l] []) =
 ifb (szB es) (ifb (!Qn0o ks ps es) (some (.ret (.tup [.agg [.sl .kind [],.sl .point [],.sl .entry []],.sl .int []]) [])) (ifb (Q8cx ks ps es) (some (.go (Qu6t Qkxy.fn 6) [.sl .chg l,.ptr 0 0,.own 1 [] 0,.ptr 2 0,.int .i64 0] [.box [.nils,.nils,.nils],.row .int [] 0 0 0 .no,.box [.sl .kind ks,.sl .point ps,.sl .entry es]])) none)) none:=by kernel_rfl
theorem Qmr7(x0:List (El .chg))(x1:Int)(x2:List (El .int))(x3:List (El .kind))(x4:List (El .point))(x5:List (El .entry)):aRun Qkxy 600 true (Qu6t Qkxy.fn 6) (cutSt Qkxy.fn (Q1m4 Qkxy (Qu6t Qkxy.fn 6)) [.sl .chg x0,.ptr 0 0,.own 1 [] 0,.ptr 2 0,.int .i64 x1] [.box [.nils,.nils,.nils],.row .int x2 0 0 0 .no,.box [.sl .kind x3,.sl .point x4,.sl .entry x5]]) =
 let z1:=(x0.getD x1.toNat (Qkxy.C.dflt Ty.chg));let z0:=(takeF x3 x4 x5 z1);ifb (decide (x1<(↑x0.length:Int))) (ifb (inb x1 x0.length) (ifb (goodB x3 x4 x5&&szV z1.value) (ifb (decide ((x2.length+[z0.code].length)*Qbhn Qkxy.P (3:Nat)≤(140737488355328:Nat))) (some (.go (Qu6t Qkxy.fn 6) [.sl .chg x0,.ptr 0 0,.own 1 [] 0,.ptr 2 0,.int .i64 (IntKind.i64.wrap (x1+1))] [.box [.nils,.nils,.nils],.row .int (x2++[z0.code]) 0 0 0 .no,.box [.sl .kind (z0.ks),.sl .point (z0.ps),.sl .entry (z0.es)]])) none) none) none) (some (.ret (.tup [.agg [.sl .kind x3,.sl .point x4,.sl .entry x5],.sl .int x2]) [])):=by kernel_rfl
theorem Qq9y(ks:List Kind)(ps:List Point)(l:List Chg)(g0:l.length≤1000)(g1:l.all (fun c=>szV c.value)=true):∀(d i:Nat) (es:List Entry) (cs:List Int),i+d=l.length→cs.length=i→goodE ks ps es=true →
  CutE Qkxy Qlb4 6 [.sl .chg l,.ptr 0 0,.own 1 [] 0,.ptr 2 0,.int .i64 (i:Int)] [.box [.nils,.nils,.nils],.row .int cs 0 0 0 .no,.box [.sl .kind ks,.sl .point ps,.sl .entry es]] (fun v h=>∃x:TkP,v=(.tup [.agg [.sl .kind ks,.sl .point ps,.sl .entry x.es],.sl .int x.cs])∧h=[]∧goodE ks ps x.es=true):=by
 have hbb:Qbhn Qkxy.P 3≤256:=of_decide_eq_true (by kernel_rfl)
 intro d
 induction d with
 | zero =>
  intro i es cs hi hc hg
  refine CutE.of Qdq1 rfl (Qmr7 l i cs ks ps es) ?_
  conv=>zeta
  rw[show decide ((i:Int)<(l.length:Int))=false from decide_eq_false (by omega),Qk7y]
  exact SatE.ret ⟨⟨es,cs⟩,rfl,rfl,hg⟩
 | succ d ih =>
  intro i es cs hi hc hg
  refine CutE.of Qdq1 rfl (Qmr7 l i cs ks ps es) ?_
  conv=>zeta
  have hlt:i<l.length:=by omega
  have hw:IntKind.wrap .i64 ((i:Int)+1)=((i+1:Nat):Int):=by rw[Qbrg]<;>omega
  have hx:l.getD (i:Int).toNat (Qkxy.C.dflt .chg)=l[i]:=by simp[hlt]
  have hin:inb (i:Int) l.length=true:=by simp only[inb,qaT,qdT];omega
  have hlo:decide ((i:Int)<(l.length:Int))=true:=decide_eq_true (by omega)
  have hv:=qlA.1 g1 _ (List.getElem_mem hlt)
  obtain⟨t1,t2,t3⟩:=Qy7k (c:=l[i]) hg hv
  have hgb:=hg
  simp only[goodE,qaT]at hgb
  rw[hlo,hin,hx,hw,hgb.2,hv,t1,t2]
  simp only[Qd8q,Bool.and_true]
  exact SatE.need (Q1mk hbb (by simp;omega)) (SatE.cut (ih (i+1) _ _ (by omega) (by simp;omega) t3))
theorem Qhv6(ks:List Kind)(ps:List Point)(es:List Entry)(l:List Chg)(hg:tkK ks ps es l=true):Qewq Tryz.prog CP Qlb4 [.agg [.sl .kind ks,.sl .point ps,.sl .entry es],.sl .chg l] [] (.tup [.agg [.sl .kind ks,.sl .point ps,.sl .entry (dTk ks ps es l).es],.sl .int (dTk ks ps es l).cs]) []∧goodE ks ps (dTk ks ps es l).es=true:=by
 simp only[tkK,qaT,qdT]at hg
 obtain⟨h0,h1,h2⟩:=hg
 have h3:=h0
 simp only[goodE,goodB,qaT]at h3
 obtain⟨b1,b2,b3⟩:=h3
 have hE:CallE Qkxy.P Qkxy.C Qlb4 [.agg [.sl .kind ks,.sl .point ps,.sl .entry es],.sl .chg l] [] (fun v h=>∃x:TkP,v=(.tup [.agg [.sl .kind ks,.sl .point ps,.sl .entry x.es],.sl .int x.cs])∧h=[]∧goodE ks ps x.es=true):=by
  refine CallE.of Qdq1 (by kernel_rfl) (Qw5w ks ps es l) ?_
  rw[b1,b2,b3]
  exact SatE.cut (Qq9y ks ps l h1 h2 l.length 0 es [] (by omega) rfl h0)
 obtain⟨v,H',h,x,rfl,rfl,hx⟩:=hE
 exact Qk78 (p:=fun x:TkP=>Qewq Tryz.prog CP Qlb4 [.agg [.sl .kind ks,.sl .point ps,.sl .entry es],.sl .chg l] [] (.tup [.agg [.sl .kind ks,.sl .point ps,.sl .entry x.es],.sl .int x.cs]) []∧goodE ks ps x.es=true) ⟨x,h,hx⟩
theorem Qqvt(ks:List Kind)(ps:List Point)(es:List Entry)(l:List Chg)(hg:tkK ks ps es l=true):Qewq Tryz.prog CP Qlb4 [.agg [.sl .kind ks,.sl .point ps,.sl .entry es],.sl .chg l] [] (.tup [.agg [.sl .kind ks,.sl .point ps,.sl .entry (dTk ks ps es l).es],.sl .int (dTk ks ps es l).cs]) []:=by
 exact(Qhv6 ks ps es l hg).1
theorem Qyvn:EntOK Tryz.prog CP Qlb4 Q2m7:=by
 refine⟨eob (by kernel_rfl),fun _ _ _ _ h=>?_⟩
 simp only[Q2m7]at h
 split at h
 ·obtain⟨hg,rfl,rfl⟩:=eoh h
  exact Qqvt _ _ _ _ hg
 ·cases h
end Lx
namespace Lx
open Go Go.Proofs
structure BkP where
 es:List Entry
 p:Int
 deriving Inhabited
def Qv5n(ks:List Kind)(ps:List Point)(p:Int)(x:BkP):Prop:=goodE ks ps x.es=true∧p≤x.p∧x.p≤p+1000
noncomputable def dBook(bs:List Int)(p:Int)(ks:List Kind)(ps:List Point):BkP:=drawn (fun x=>Qewq Tryz.prog CP Q604 [.ptr 0 0,.agg [.sl .kind ks,.sl .point ps]] [.box [.sl .u8 bs,.int .i64 p]] (.agg [.sl .kind ks,.sl .point ps,.sl .entry x.es]) [.box [.sl .u8 bs,.int .i64 x.p]]∧Qv5n ks ps p x)
def bkK(bs:List Int)(p:Int)(ks:List Kind)(ps:List Point):Bool:=Qf9o bs&&(decide (0≤p)&&(decide (p≤870000)&&(Qib4 ks ps&&decide (1≤ps.length))))
noncomputable def Qnfe:Ent Ty El:=⟨[.io,.ro],0,fun a h=>match a,h with
 | [.ptr 0 0,.agg [.sl .kind ks,.sl .point ps]],[.box [.sl .u8 bs,.int .i64 p]]=>some (bkK bs p ks ps,.agg [.sl .kind ks,.sl .point ps,.sl .entry (dBook bs p ks ps).es],[.box [.sl .u8 bs,.int .i64 (dBook bs p ks ps).p]])
 | _,_=>none⟩
theorem Qkew{ks:List Kind}{ps:List Point}(h:Qib4 ks ps=true):goodE ks ps []=true:=by
 have h0:=h
 simp only[Qib4,qaT,qdT]at h
 have k1:Q6lz ks=true:=by simp only[Q6lz,Bool.and_true,qdT];omega
 have k2:Qjyp ps=true:=by simp only[Qjyp,Bool.and_true,qdT];omega
 have k3:Qn0o ks ps []=true:=by rw[Qn0o,h0];rfl
 have k4:Q8cx ks ps []=true:=by rw[Q8cx,k1,k2];rfl
 rw[goodE,goodB,k3,k4];rfl
end Lx
namespace Lx
open Go Go.Proofs
noncomputable def Qoc9:RE Ty El:=⟨Tryz.prog,CP,[(Qpxs,Q7v2),(Qbeb,Q8t5),(Qwqy,Q0t5),(Qlb4,Q2m7),(Q43w,Qfl5),(Qstj,Qmce)],Tryz.f142,1,[.agg [.ro .kind,.ro .point,.ro .entry]],[(4,[(0,.box [.ro .kind,.ro .point,.ro .entry]),(3,.box [.ro .kind,.ro .point,.ro .entry]),(4,.box [.ro .kind,.ro .point,.ro .entry]),(5,.box [.ro .kind,.ro .point,.ro .entry]),(6,.box [.ro .kind,.ro .point,.ro .entry])]),(10,[(4,.box [.ro .kind,.ro .point,.ro .entry]),(5,.box [.ro .kind,.ro .point,.ro .entry]),(7,.box [.ro .kind,.ro .point,.ro .entry])]),(7,[(0,.box [.ro .kind,.ro .point,.ro .entry]),(3,.box [.ro .kind,.ro .point,.ro .entry]),(4,.box [.ro .kind,.ro .point,.ro .entry]),(5,.box [.ro .kind,.ro .point,.ro .entry])])]⟩
theorem Q692:REOK Qoc9 Q604:=⟨CP_ok,(TabOK.cons Q0e7 (TabOK.cons Q2a7 (TabOK.cons Qnck (TabOK.cons Qyvn (TabOK.cons Qel0 (TabOK.cons Qqii Qye1)))))),by kernel_rfl,by kernel_rfl⟩
theorem Qh82(bs:List Int)(p:Int)(ks:List Kind)(ps:List Point):aRun Qoc9 600 false (body0 Qoc9.fn) (Q4gm Qoc9.fn [.ptr 0 0,.agg [.sl .kind ks,.sl .point ps]] [.box [.sl .u8 bs,.int .i64 p]]) =
 let z0:HL:=[.box [.sl .u8 bs,.int .i64 (p+1)],.box [.sl .kind ks,.sl .point ps],.box [.sl .kind [],.sl .point [],.sl .entry []],.box [.sl .kind ks,.sl .point ps,.sl .entry []]];ifb (posOk p) (ifb (decide (pickV bs p (3:Int)>(0:Int))) (some (.go (Qu6t Qoc9.fn 4) [.ptr 0 0,.ptr 1 0,.ptr 2 0,.ptr 3 0,.int .i64 1] z0)) (some (.go (Qu6t Qoc9.fn 7) [.ptr 0 0,.ptr 1 0,.ptr 2 0,.ptr 3 0] z0))) none:=by kernel_rfl
theorem Qbfw(x0:Int)(x1:List (El .u8))(x2:Int)(x3:List (El .kind))(x4:List (El .point))(x5:List (El .kind))(x6:List (El .point))(x7:List (El .entry))(x8:List (El .kind))(x9:List (El .point))(x10:List (El .entry)):aRun Qoc9 600 true (Qu6t Qoc9.fn 4) (cutSt Qoc9.fn (Q1m4 Qoc9 (Qu6t Qoc9.fn 4)) [.ptr 0 0,.ptr 1 0,.ptr 2 0,.ptr 3 0,.int .i64 x0] [.box [.sl .u8 x1,.int .i64 x2],.box [.sl .kind x3,.sl .point x4],.box [.sl .kind x5,.sl .point x6,.sl .entry x7],.box [.sl .kind x8,.sl .point x9,.sl .entry x10]]) =
 let z1:=(dVal x1 x2 x3 x4 x0);let z0:=(takeF x8 x9 x10 (Chg.mk #[(107:UInt8),108,49].toList x0 (1:Int) z1.s));ifb (decide (x0≤4)) (ifb (valK x1 x2 x3 x4) (ifb (goodB x8 x9 x10&&szV z1.s) (some (.go (Qu6t Qoc9.fn 4) [.ptr 0 0,.ptr 1 0,.ptr 2 0,.ptr 3 0,.int .i64 (IntKind.i64.wrap (x0+1))] [.box [.sl .u8 x1,.int .i64 (z1.p)],.box [.sl .kind x3,.sl .point x4],.box [.sl .kind x5,.sl .point x6,.sl .entry x7],.box [.sl .kind (z0.ks),.sl .point (z0.ps),.sl .entry (z0.es)]])) none) none) (some (.go (Qu6t Qoc9.fn 7) [.ptr 0 0,.ptr 1 0,.ptr 2 0,.ptr 3 0] [.box [.sl .u8 x1,.int .i64 x2],.box [.sl .kind x3,.sl .point x4],.box [.sl .kind x5,.sl .point x6,.sl .entry x7],.box [.sl .kind x8,.sl .point x9,.sl .entry x10]])):=by kernel_rfl
theorem Qui8(x0:List (El .u8))(x1:Int)(x2:List (El .kind))(x3:List (El .point))(x4:List (El .kind))(x5:List (El .point))(x6:List (El .entry))(x7:List (El .kind))(x8:List (El .point))(x9:List (El .entry)):aRun Qoc9 600 true (Qu6t Qoc9.fn 7) (cutSt Qoc9.fn (Q1m4 Qoc9 (Qu6t Qoc9.fn 7)) [.ptr 0 0,.ptr 1 0,.ptr 2 0,.ptr 3 0] [.box [.sl .u8 x0,.int .i64 x1],.box [.sl .kind x2,.sl .point x3],.box [.sl .kind x4,.sl .point x5,.sl .entry x6],.box [.sl .kind x7,.sl .point x8,.sl .entry x9]]) =
 let z0:=(dChgs x0 x1 x2 x3 (24:Int));ifb (chgsK x0 x1 x2 x3 (24:Int)) (ifb (tkK x7 x8 x9 z0.l) (ifb (posOk z0.p) (ifb (pickV x0 z0.p (16:Int)==(0:Int)) (some (.go (Qu6t Qoc9.fn 10) [.ptr 1 0,.ptr 2 0,.int .i64 0] [.box [.sl .u8 x0,.int .i64 (z0.p+1)],.box [.sl .kind x4,.sl .point x5,.sl .entry x6],.box [.sl .kind x7,.sl .point x8,.sl .entry ((dTk x7 x8 x9 z0.l).es)]])) (some (.ret (.agg [.sl .kind x7,.sl .point x8,.sl .entry ((dTk x7 x8 x9 z0.l).es)]) [.box [.sl .u8 x0,.int .i64 (z0.p+1)]]))) none) none) none:=by kernel_rfl
theorem Qvgp(x0:Int)(x1:List (El .u8))(x2:Int)(x3:List (El .kind))(x4:List (El .point))(x5:List (El .entry))(x6:List (El .kind))(x7:List (El .point))(x8:List (El .entry)):aRun Qoc9 600 true (Qu6t Qoc9.fn 10) (cutSt Qoc9.fn (Q1m4 Qoc9 (Qu6t Qoc9.fn 10)) [.ptr 1 0,.ptr 2 0,.int .i64 x0] [.box [.sl .u8 x1,.int .i64 x2],.box [.sl .kind x3,.sl .point x4,.sl .entry x5],.box [.sl .kind x6,.sl .point x7,.sl .entry x8]]) =
 let z0:=(takeF x6 x7 x8 (Chg.mk (#[(102:UInt8)].toList++dDec (4:Nat) x0) (3:Int) (5:Int) #[(50:UInt8)].toList));ifb (decide (x0<12)) (ifb (decide (0≤x0)&&decide (x0<10 ^ ((4:Nat)+(1:Nat)))) (ifb (decide (#[(102:UInt8)].toList.length+List.length (dDec (4:Nat) x0)≤(9223372036854775807:Nat))) (ifb (goodB x6 x7 x8&&szV #[(50:UInt8)].toList) (some (.go (Qu6t Qoc9.fn 10) [.ptr 1 0,.ptr 2 0,.int .i64 (IntKind.i64.wrap (x0+1))] [.box [.sl .u8 x1,.int .i64 x2],.box [.sl .kind x3,.sl .point x4,.sl .entry x5],.box [.sl .kind (z0.ks),.sl .point (z0.ps),.sl .entry (z0.es)]])) none) none) none) (some (.ret (.agg [.sl .kind x6,.sl .point x7,.sl .entry x8]) [.box [.sl .u8 x1,.int .i64 x2]])):=by kernel_rfl
theorem Q8ao(bs:List Int)(ks:List Kind)(ps:List Point)(q:Int)(r0:List Kind)(r1:List Point)(r2:List Entry):∀(d i:Nat) (es:List Entry),i+d=12→goodE ks ps es=true →
  CutE Qoc9 Q604 10 [.ptr 1 0,.ptr 2 0,.int .i64 (i:Int)] [.box [.sl .u8 bs,.int .i64 q],.box [.sl .kind r0,.sl .point r1,.sl .entry r2],.box [.sl .kind ks,.sl .point ps,.sl .entry es]] (fun v h=>∃x:BkP,v=(.agg [.sl .kind ks,.sl .point ps,.sl .entry x.es])∧h=[.box [.sl .u8 bs,.int .i64 x.p]]∧goodE ks ps x.es=true∧q≤x.p∧x.p≤q+0):=by
 intro d
 induction d with
 | zero =>
  intro i es hi hg
  refine CutE.of Q692 rfl (Qvgp i bs q r0 r1 r2 ks ps es) ?_
  conv=>zeta
  rw[show decide ((i:Int)<12)=false from decide_eq_false (by omega),Qk7y]
  exact SatE.ret ⟨⟨es,q⟩,rfl,rfl,hg,by simp,by simp⟩
 | succ d ih =>
  intro i es hi hg
  refine CutE.of Q692 rfl (Qvgp i bs q r0 r1 r2 ks ps es) ?_
  conv=>zeta
  have hw:IntKind.i64.wrap ((i:Int)+1)=((i+1:Nat):Int):=by rw[Qbrg]<;>omega
  obtain⟨g1,l1⟩:=decs (n:=(i:Int)) (by omega) (by omega)
  have hgb:=hg
  simp only[goodE,qaT]at hgb
  have hz:szV #[(50:UInt8)].toList=true:=decide_eq_true (by simp)
  obtain⟨t1,t2,t3⟩:=Qy7k (c:=(Chg.mk (#[(102:UInt8)].toList++dDec (4:Nat) (i:Int)) (3:Int) (5:Int) #[(50:UInt8)].toList)) hg hz
  rw[show decide ((i:Int)<12)=true from decide_eq_true (by omega),hw,t1,t2,Qd8q]
  exact SatE.need g1 (SatE.need (decide_eq_true (by simp;omega)) (SatE.need (by rw[qaT];exact⟨hgb.2,hz⟩) (SatE.cut (ih (i+1) _ (by omega) t3))))
theorem Q8ui(bs:List Int)(ks:List Kind)(ps:List Point)(hbs:Qf9o bs=true)(hb:Qib4 ks ps=true)(h1:1≤ps.length)(q:Int)(h0:0≤q)(hq:q≤880000)(r0:List Kind)(r1:List Point)(r2:List Entry)(es:List Entry)(hg:goodE ks ps es=true) :
  CutE Qoc9 Q604 7 [.ptr 0 0,.ptr 1 0,.ptr 2 0,.ptr 3 0] [.box [.sl .u8 bs,.int .i64 q],.box [.sl .kind ks,.sl .point ps],.box [.sl .kind r0,.sl .point r1,.sl .entry r2],.box [.sl .kind ks,.sl .point ps,.sl .entry es]] (fun v h=>∃x:BkP,v=(.agg [.sl .kind ks,.sl .point ps,.sl .entry x.es])∧h=[.box [.sl .u8 bs,.int .i64 x.p]]∧goodE ks ps x.es=true∧q≤x.p∧x.p≤q+801):=by
 refine CutE.of Q692 rfl (Qui8 bs q ks ps r0 r1 r2 ks ps es) ?_
 conv=>zeta
 have hc:chgsK bs q ks ps 24=true:=by simp only[chgsK,qaT,qdT];exact⟨hbs,h0,hq,hb,h1,by omega,by omega⟩
 obtain⟨c1,c2,c3,c4⟩:=(Qbm6 bs q ks ps 24 hc).2
 have ht:tkK ks ps es (dChgs bs q ks ps 24).l=true:=by simp only[tkK,qaT,qdT];exact⟨hg,by omega,c2⟩
 have hd:=(Qhv6 ks ps es _ ht).2
 refine SatE.need hc (SatE.need ht (SatE.need (Q8s4 (by omega) (by omega)) (SatE.ifb (fun _=>?_) (fun _=>?_))))
 ·refine SatE.mono (SatE.cut (Q8ao bs ks ps _ r0 r1 r2 12 0 _ (by omega) hd)) ?_
  rintro v h ⟨x,rfl,rfl,a1,a2,a3⟩
  exact⟨x,rfl,rfl,a1,by omega,by omega⟩
 ·exact SatE.ret ⟨⟨_,_⟩,rfl,rfl,hd,by show q≤(dChgs bs q ks ps 24).p+1;omega,by show(dChgs bs q ks ps 24).p+1≤q+801;omega⟩
theorem Qygj(bs:List Int)(ks:List Kind)(ps:List Point)(hbs:Qf9o bs=true)(hb:Qib4 ks ps=true)(h1:1≤ps.length)(r0:List Kind)(r1:List Point)(r2:List Entry):∀(d i:Nat) (es:List Entry) (q:Int),i+d=5→1≤i→0≤q→q+20*d≤880000→goodE ks ps es=true →
  CutE Qoc9 Q604 4 [.ptr 0 0,.ptr 1 0,.ptr 2 0,.ptr 3 0,.int .i64 (i:Int)] [.box [.sl .u8 bs,.int .i64 q],.box [.sl .kind ks,.sl .point ps],.box [.sl .kind r0,.sl .point r1,.sl .entry r2],.box [.sl .kind ks,.sl .point ps,.sl .entry es]] (fun v h=>∃x:BkP,v=(.agg [.sl .kind ks,.sl .point ps,.sl .entry x.es])∧h=[.box [.sl .u8 bs,.int .i64 x.p]]∧goodE ks ps x.es=true∧q≤x.p∧x.p≤q+(801+20*d)):=by
 intro d
 induction d with
 | zero =>
  intro i es q hi h1i h0 hq hg
  refine CutE.of Q692 rfl (Qbfw i bs q ks ps r0 r1 r2 ks ps es) ?_
  conv=>zeta
  rw[show decide ((i:Int)≤4)=false from decide_eq_false (by omega),Qk7y]
  exact SatE.mono (SatE.cut (Q8ui bs ks ps hbs hb h1 q h0 (by omega) r0 r1 r2 es hg)) (fun v h ⟨x,e1,e2,a1,a2,a3⟩=>⟨x,e1,e2,a1,a2,by omega⟩)
 | succ d ih =>
  intro i es q hi h1i h0 hq hg
  refine CutE.of Q692 rfl (Qbfw i bs q ks ps r0 r1 r2 ks ps es) ?_
  conv=>zeta
  have hw:IntKind.i64.wrap ((i:Int)+1)=((i+1:Nat):Int):=by rw[Qbrg]<;>omega
  have hv:valK bs q ks ps=true:=by simp only[valK,rdK,qaT,qdT];exact⟨⟨hbs,by omega,by omega⟩,(Qd1y hb).1,(Qd1y hb).2,h1⟩
  obtain⟨v1,v2,v3⟩:=(Qpyo bs q ks ps (i:Int) hv).2
  have hz:szV (dVal bs q ks ps (i:Int)).s=true:=decide_eq_true (by omega)
  have hgb:=hg
  simp only[goodE,qaT]at hgb
  obtain⟨t1,t2,t3⟩:=Qy7k (c:=(Chg.mk #[(107:UInt8),108,49].toList (i:Int) (1:Int) (dVal bs q ks ps (i:Int)).s)) hg hz
  rw[show decide ((i:Int)≤4)=true from decide_eq_true (by omega),hv,hw,hgb.2,hz,t1,t2]
  simp only[Qd8q,Bool.true_and]
  exact SatE.mono (SatE.cut (ih (i+1) _ (dVal bs q ks ps (i:Int)).p (by omega) (by omega) (by omega) (by omega) t3)) (fun v h ⟨x,e1,e2,a1,a2,a3⟩=>⟨x,e1,e2,a1,by omega,by omega⟩)
theorem Q4mo(bs:List Int)(p:Int)(ks:List Kind)(ps:List Point)(hg:bkK bs p ks ps=true):Qewq Tryz.prog CP Q604 [.ptr 0 0,.agg [.sl .kind ks,.sl .point ps]] [.box [.sl .u8 bs,.int .i64 p]] (.agg [.sl .kind ks,.sl .point ps,.sl .entry (dBook bs p ks ps).es]) [.box [.sl .u8 bs,.int .i64 (dBook bs p ks ps).p]]∧Qv5n ks ps p (dBook bs p ks ps):=by
 simp only[bkK,qaT,qdT]at hg
 obtain⟨hbs,h0,h9,hb,h1⟩:=hg
 have hE:CallE Qoc9.P Qoc9.C Q604 [.ptr 0 0,.agg [.sl .kind ks,.sl .point ps]] [.box [.sl .u8 bs,.int .i64 p]] (fun v h=>∃x:BkP,v=(.agg [.sl .kind ks,.sl .point ps,.sl .entry x.es])∧h=[.box [.sl .u8 bs,.int .i64 x.p]]∧Qv5n ks ps p x):=by
  refine CallE.of Q692 (by kernel_rfl) (Qh82 bs p ks ps) ?_
  conv=>zeta
  refine SatE.need (Q8s4 (by omega) (by omega)) (SatE.ifb (fun _=>?_) (fun _=>?_))
  ·exact SatE.mono (SatE.cut (Qygj bs ks ps hbs hb h1 [] [] [] 4 1 [] (p+1) (by omega) (by omega) (by omega) (by omega) (Qkew hb))) (fun v h ⟨x,e1,e2,a1,a2,a3⟩=>⟨x,e1,e2,a1,by omega,by omega⟩)
  ·exact SatE.mono (SatE.cut (Q8ui bs ks ps hbs hb h1 (p+1) (by omega) (by omega) [] [] [] [] (Qkew hb))) (fun v h ⟨x,e1,e2,a1,a2,a3⟩=>⟨x,e1,e2,a1,by omega,by omega⟩)
 obtain⟨v,H',h,x,rfl,rfl,hx⟩:=hE
 exact Qk78 (p:=fun x:BkP=>Qewq Tryz.prog CP Q604 [.ptr 0 0,.agg [.sl .kind ks,.sl .point ps]] [.box [.sl .u8 bs,.int .i64 p]] (.agg [.sl .kind ks,.sl .point ps,.sl .entry x.es]) [.box [.sl .u8 bs,.int .i64 x.p]]∧Qv5n ks ps p x) ⟨x,h,hx⟩
theorem Qyzu(bs:List Int)(p:Int)(ks:List Kind)(ps:List Point)(hg:bkK bs p ks ps=true):Qewq Tryz.prog CP Q604 [.ptr 0 0,.agg [.sl .kind ks,.sl .point ps]] [.box [.sl .u8 bs,.int .i64 p]] (.agg [.sl .kind ks,.sl .point ps,.sl .entry (dBook bs p ks ps).es]) [.box [.sl .u8 bs,.int .i64 (dBook bs p ks ps).p]]:=by
 exact(Q4mo bs p ks ps hg).1
theorem Qtpw:EntOK Tryz.prog CP Q604 Qnfe:=by
 refine⟨eob (by kernel_rfl),fun _ _ _ _ h=>?_⟩
 simp only[Qnfe]at h
 split at h
 ·obtain⟨hg,rfl,rfl⟩:=eoh h
  exact Qyzu _ _ _ _ hg
 ·cases h
end Lx
namespace Lx
open Go Go.Proofs
end Lx
namespace Lx
open Go Go.Proofs
end Lx
namespace Lx
open Go Go.Proofs
structure BookP where
 ks:List Kind
 ps:List Point
 es:List Entry
 p:Int
 deriving Inhabited
def small(x:Entry):Prop:=x.fields.length≤20∧∀f∈x.fields,szV f.value=true
end Lx
namespace Lx
open Go Go.Proofs
end Lx
namespace Lx
open Go Go.Proofs
end Lx
namespace Lx
open Go Go.Proofs
end Lx
namespace Lx
open Go Go.Proofs
structure OvP where
 ks:List Kind
 ps:List Point
 es:List Entry
 n:Str
 q:Str
 deriving Inhabited
structure FlP where
 ks:List Kind
 ps:List Point
 es:List Entry
 n:Str
 l:List Int
 deriving Inhabited
structure CeP where
 ks:List Kind
 ps:List Point
 l:List Str
 deriving Inhabited
theorem Qz2g{c:List Int}(h:Qf9o c=true)(n:Nat):Qf9o (c.take n)=true:=qlA.2 fun b hb=>qlA.1 h b (List.mem_of_mem_take hb)
end Lx
namespace Lx
open Go Go.Proofs
end Lx
namespace Lx
open Go Go.Proofs
end Lx
namespace Lx
open Go Go.Proofs
def sameK(ks ks':List Kind)(ps ps':List Point):Bool:=(decide (ks.length≤1000000000)&&decide (ps.length≤1000000000))&&(decide (ks=ks')&&decide (ps=ps'))
def Q2xe(ks ks':List Kind)(ps ps':List Point)(es es':List Entry):Bool:=sameK ks ks' ps ps'&&(Qnwa es&&decide (es=es'))
def Qdkm:Ent Ty El:=⟨[.ro,.ro],0,fun a h=>match a,h with
 | [.agg [.sl .kind ks,.sl .point ps],.agg [.sl .kind ks',.sl .point ps']],[]=>some (sameK ks ks' ps ps',.bool true,[])
 | _,_=>none⟩
def Qz24:Ent Ty El:=⟨[.ro,.ro],0,fun a h=>match a,h with
 | [.agg [.sl .kind ks,.sl .point ps,.sl .entry es],.agg [.sl .kind ks',.sl .point ps',.sl .entry es']],[]=>some (Q2xe ks ks' ps ps' es es',.bool true,[])
 | [.agg [.sl .kind ks,.sl .point ps,.sl .entry es],.agg [.nils,.nils,.nils]],[]=>some (Q2xe ks [] ps [] es [],.bool true,[])
 | _,_=>none⟩
end Lx
namespace Lx
open Go Go.Proofs
noncomputable def Q08f:RE Ty El:=⟨Tryz.prog,CP,[],Tryz.f140,0,[],[(4,[(2,.any),(3,.any),(5,.any)]),(9,[(2,.any),(3,.any),(6,.any)])]⟩
theorem Qcbr:REOK Q08f Qq3w:=⟨CP_ok,Qye1,by kernel_rfl,by kernel_rfl⟩
theorem Q0nu(ks ks':List Kind)(ps ps':List Point):aRun Q08f 600 false (body0 Q08f.fn) (Q4gm Q08f.fn [.agg [.sl .kind ks,.sl .point ps],.agg [.sl .kind ks',.sl .point ps']] []) =
 ifb ((↑ks.length:Int) !=(↑ks'.length:Int)) (some (.ret (.bool false) [])) (ifb ((↑ps.length:Int) !=(↑ps'.length:Int)) (some (.ret (.bool false) [])) (some (.go (Qu6t Q08f.fn 4) [.ptr 0 0,.ptr 1 0,.int .i64 0] [.box [.sl .kind ks,.sl .point ps],.box [.sl .kind ks',.sl .point ps']]))):=by kernel_rfl
theorem Qmrs(x0:Int)(x1:List (El .kind))(x2:List (El .point))(x3:List (El .kind))(x4:List (El .point)):aRun Q08f 600 true (Qu6t Q08f.fn 4) (cutSt Q08f.fn (Q1m4 Q08f (Qu6t Q08f.fn 4)) [.ptr 0 0,.ptr 1 0,.int .i64 x0] [.box [.sl .kind x1,.sl .point x2],.box [.sl .kind x3,.sl .point x4]]) =
 let z0:=(Q08f.C.dflt Ty.kind);let z1:HL:=[.box [.sl .kind x1,.sl .point x2],.box [.sl .kind x3,.sl .point x4]];let z2:=(x1.getD x0.toNat z0);let z3:=(x3.getD x0.toNat z0);ifb (decide (x0<(↑x1.length:Int))) (ifb (inb x0 x1.length) (ifb (inb x0 x3.length) (ifb (!(z2.name==z3.name&&(z2.quick==z3.quick&&(z2.slow==z3.slow&&true)))) (some (.ret (.bool false) [])) (some (.go (Qu6t Q08f.fn 4) [.ptr 0 0,.ptr 1 0,.int .i64 (IntKind.i64.wrap (x0+1))] z1))) none) none) (some (.go (Qu6t Q08f.fn 9) [.ptr 0 0,.ptr 1 0,.int .i64 0] z1)):=by kernel_rfl
theorem Q0m7(x0:Int)(x1:List (El .kind))(x2:List (El .point))(x3:List (El .kind))(x4:List (El .point)):aRun Q08f 600 true (Qu6t Q08f.fn 9) (cutSt Q08f.fn (Q1m4 Q08f (Qu6t Q08f.fn 9)) [.ptr 0 0,.ptr 1 0,.int .i64 x0] [.box [.sl .kind x1,.sl .point x2],.box [.sl .kind x3,.sl .point x4]]) =
 let z0:=(Q08f.C.dflt Ty.point);let z1:=(x2.getD x0.toNat z0);let z2:=(x4.getD x0.toNat z0);ifb (decide (x0<(↑x2.length:Int))) (ifb (inb x0 x2.length) (ifb (inb x0 x4.length) (ifb (!(z1.name==z2.name&&(z1.x==z2.x&&(z1.y==z2.y&&true)))) (some (.ret (.bool false) [])) (some (.go (Qu6t Q08f.fn 9) [.ptr 0 0,.ptr 1 0,.int .i64 (IntKind.i64.wrap (x0+1))] [.box [.sl .kind x1,.sl .point x2],.box [.sl .kind x3,.sl .point x4]]))) none) none) (some (.ret (.bool true) [])):=by kernel_rfl
theorem Qfuj(ks:List Kind)(ps:List Point)(g1:ks.length≤1000000000)(g2:ps.length≤1000000000):∀(d i:Nat),i+d=ps.length→Cut Q08f Qq3w 9 [.ptr 0 0,.ptr 1 0,.int .i64 (i:Int)] [.box [.sl .kind ks,.sl .point ps],.box [.sl .kind ks,.sl .point ps]] (.bool true) []:=by
 intro d
 induction d with
 | zero =>
  intro i hi
  refine Cut.of Qcbr rfl (Q0m7 i ks ps ks ps) ?_
  conv=>zeta
  rw[show decide ((i:Int)<(ps.length:Int))=false from decide_eq_false (by omega)]
  exact Sat.ret rfl rfl
 | succ d ih =>
  intro i hi
  refine Cut.of Qcbr rfl (Q0m7 i ks ps ks ps) ?_
  conv=>zeta
  have hlt:i<ps.length:=by omega
  have hw:IntKind.wrap .i64 ((i:Int)+1)=((i+1:Nat):Int):=by rw[Qbrg]<;>omega
  have hx:ps.getD (i:Int).toNat (Q08f.C.dflt .point)=ps[i]:=by simp[hlt]
  have hin:inb (i:Int) ps.length=true:=by simp only[inb,qaT,qdT];omega
  have hlo:decide ((i:Int)<(ps.length:Int))=true:=decide_eq_true (by omega)
  rw[hlo,hin,hx,hw]
  simp only[Qd8q,beq_self_eq_true,Bool.and_self,Bool.not_true,Qk7y]
  exact Sat.cut (ih (i+1) (by omega))
theorem Q2g7(ks:List Kind)(ps:List Point)(g1:ks.length≤1000000000)(g2:ps.length≤1000000000):∀(d i:Nat),i+d=ks.length→Cut Q08f Qq3w 4 [.ptr 0 0,.ptr 1 0,.int .i64 (i:Int)] [.box [.sl .kind ks,.sl .point ps],.box [.sl .kind ks,.sl .point ps]] (.bool true) []:=by
 intro d
 induction d with
 | zero =>
  intro i hi
  refine Cut.of Qcbr rfl (Qmrs i ks ps ks ps) ?_
  conv=>zeta
  rw[show decide ((i:Int)<(ks.length:Int))=false from decide_eq_false (by omega)]
  exact Sat.cut (Qfuj ks ps g1 g2 ps.length 0 (by omega))
 | succ d ih =>
  intro i hi
  refine Cut.of Qcbr rfl (Qmrs i ks ps ks ps) ?_
  conv=>zeta
  have hlt:i<ks.length:=by omega
  have hw:IntKind.wrap .i64 ((i:Int)+1)=((i+1:Nat):Int):=by rw[Qbrg]<;>omega
  have hx:ks.getD (i:Int).toNat (Q08f.C.dflt .kind)=ks[i]:=by simp[hlt]
  have hin:inb (i:Int) ks.length=true:=by simp only[inb,qaT,qdT];omega
  have hlo:decide ((i:Int)<(ks.length:Int))=true:=decide_eq_true (by omega)
  rw[hlo,hin,hx,hw]
  simp only[Qd8q,beq_self_eq_true,Bool.and_self,Bool.not_true,Qk7y]
  exact Sat.cut (ih (i+1) (by omega))

theorem Qbnm(ks ks':List Kind)(ps ps':List Point)(hg:sameK ks ks' ps ps'=true):Qewq Tryz.prog CP Qq3w [.agg [.sl .kind ks,.sl .point ps],.agg [.sl .kind ks',.sl .point ps']] [] (.bool true) []:=by
 refine Qewq.of Qcbr (by kernel_rfl) (Q0nu ks ks' ps ps') ?_
 simp only[sameK,qaT,qdT]at hg
 obtain⟨⟨g1,g2⟩,rfl,rfl⟩:=hg
 simp only[bne_self_eq_false,Qk7y]
 exact Sat.cut (Q2g7 ks ps g1 g2 ks.length 0 (by omega))
theorem Qvay:EntOK Tryz.prog CP Qq3w Qdkm:=by
 refine⟨eob (by kernel_rfl),fun _ _ _ _ h=>?_⟩
 simp only[Qdkm]at h
 split at h
 ·obtain⟨hg,rfl,rfl⟩:=eoh h
  exact Qbnm _ _ _ _ hg
 ·cases h

noncomputable def Q0bx:RE Ty El:=⟨Tryz.prog,CP,[(Qq3w,Qdkm)],Tryz.f47,0,[],[(4,[(2,.any),(3,.any),(5,.any)]),(9,[(2,.any),(3,.any),(5,.any),(6,.any)])]⟩
theorem Q17e:REOK Q0bx Q5ho:=⟨CP_ok,(TabOK.cons Qvay Qye1),by kernel_rfl,by kernel_rfl⟩
theorem Q4xw(ks ks':List Kind)(ps ps':List Point)(es es':List Entry):aRun Q0bx 600 false (body0 Q0bx.fn) (Q4gm Q0bx.fn [.agg [.sl .kind ks,.sl .point ps,.sl .entry es],.agg [.sl .kind ks',.sl .point ps',.sl .entry es']] []) =
 ifb (sameK ks ks' ps ps') (ifb ((↑es.length:Int) !=(↑es'.length:Int)) (some (.ret (.bool false) [])) (some (.go (Qu6t Q0bx.fn 4) [.ptr 0 0,.ptr 1 0,.int .i64 0] [.box [.sl .kind ks,.sl .point ps,.sl .entry es],.box [.sl .kind ks',.sl .point ps',.sl .entry es']]))) none:=by kernel_rfl
theorem Qh8x(x0:Int)(x1:List (El .kind))(x2:List (El .point))(x3:List (El .entry))(x4:List (El .kind))(x5:List (El .point))(x6:List (El .entry)):aRun Q0bx 600 true (Qu6t Q0bx.fn 4) (cutSt Q0bx.fn (Q1m4 Q0bx (Qu6t Q0bx.fn 4)) [.ptr 0 0,.ptr 1 0,.int .i64 x0] [.box [.sl .kind x1,.sl .point x2,.sl .entry x3],.box [.sl .kind x4,.sl .point x5,.sl .entry x6]]) =
 let z0:=(Q0bx.C.dflt Ty.entry);ifb (decide (x0<(↑x3.length:Int))) (ifb (inb x0 x3.length) (ifb (inb x0 x6.length) (ifb (!(x3.getD x0.toNat z0).name==(x6.getD x0.toNat z0).name) (some (.ret (.bool false) [])) (ifb (inb x0 x3.length) (ifb (inb x0 x6.length) (ifb ((↑(x3.getD x0.toNat z0).fields.length:Int) !=(↑(x6.getD x0.toNat z0).fields.length:Int)) (some (.ret (.bool false) [])) (some (.go (Qu6t Q0bx.fn 9) [.ptr 0 0,.ptr 1 0,.int .i64 x0,.int .i64 0] [.box [.sl .kind x1,.sl .point x2,.sl .entry x3],.box [.sl .kind x4,.sl .point x5,.sl .entry x6]]))) none) none)) none) none) (some (.ret (.bool true) [])):=by kernel_rfl
theorem Qlhg(x0:Int)(x1:Int)(x2:List (El .kind))(x3:List (El .point))(x4:List (El .entry))(x5:List (El .kind))(x6:List (El .point))(x7:List (El .entry)):aRun Q0bx 600 true (Qu6t Q0bx.fn 9) (cutSt Q0bx.fn (Q1m4 Q0bx (Qu6t Q0bx.fn 9)) [.ptr 0 0,.ptr 1 0,.int .i64 x0,.int .i64 x1] [.box [.sl .kind x2,.sl .point x3,.sl .entry x4],.box [.sl .kind x5,.sl .point x6,.sl .entry x7]]) =
 let z0:=(Q0bx.C.dflt Ty.entry);let z2:=((x7.getD x0.toNat z0).fields.getD x1.toNat (Q0bx.C.dflt Ty.fld));let z3:HL:=[.box [.sl .kind x2,.sl .point x3,.sl .entry x4],.box [.sl .kind x5,.sl .point x6,.sl .entry x7]];let z4:=(x4.getD x0.toNat z0);let z1:=(z4.fields.getD x1.toNat (Q0bx.C.dflt Ty.fld));ifb (inb x0 x4.length) (ifb (decide (x1<(↑z4.fields.length:Int))) (ifb (inb x0 x4.length) (ifb (inb x1 z4.fields.length) (ifb (inb x0 x7.length) (ifb (inb x1 (x7.getD x0.toNat z0).fields.length) (ifb (!(z1.what==z2.what&&(z1.number==z2.number&&(z1.value==z2.value&&true)))) (some (.ret (.bool false) [])) (some (.go (Qu6t Q0bx.fn 9) [.ptr 0 0,.ptr 1 0,.int .i64 x0,.int .i64 (IntKind.i64.wrap (x1+1))] z3))) none) none) none) none) (some (.go (Qu6t Q0bx.fn 4) [.ptr 0 0,.ptr 1 0,.int .i64 (IntKind.i64.wrap (x0+1))] z3))) none:=by kernel_rfl
theorem Qdqt(ks:List Kind)(ps:List Point)(es:List Entry)(i:Nat)(hlt:i<es.length)(g5:es[i].fields.length≤1000000000)(g3:es.length≤1000000000)(nx:Cut Q0bx Q5ho 4 [.ptr 0 0,.ptr 1 0,.int .i64 ((i+1:Nat):Int)] [.box [.sl .kind ks,.sl .point ps,.sl .entry es],.box [.sl .kind ks,.sl .point ps,.sl .entry es]] (.bool true) []):∀(d k:Nat),k+d=es[i].fields.length→Cut Q0bx Q5ho 9 [.ptr 0 0,.ptr 1 0,.int .i64 (i:Int),.int .i64 (k:Int)] [.box [.sl .kind ks,.sl .point ps,.sl .entry es],.box [.sl .kind ks,.sl .point ps,.sl .entry es]] (.bool true) []:=by
 have hxe:es.getD (i:Int).toNat (Q0bx.C.dflt .entry)=es[i]:=by simp[hlt]
 have hie:inb (i:Int) es.length=true:=by simp only[inb,qaT,qdT];omega
 have hwe:IntKind.wrap .i64 ((i:Int)+1)=((i+1:Nat):Int):=by rw[Qbrg]<;>omega
 intro d
 induction d with
 | zero =>
  intro k hk
  refine Cut.of Q17e rfl (Qlhg i k ks ps es ks ps es) ?_
  conv=>zeta
  rw[hxe,hie,hwe,show decide ((k:Int)<(es[i].fields.length:Int))=false from decide_eq_false (by omega)]
  exact Sat.cut nx
 | succ d ih =>
  intro k hk
  refine Cut.of Q17e rfl (Qlhg i k ks ps es ks ps es) ?_
  conv=>zeta
  have n2:=ih (k+1) (by omega)
  rw[hxe,hie]
  generalize es[i].fields=l at *
  have hlt2:k<l.length:=by omega
  have hw2:IntKind.wrap .i64 ((k:Int)+1)=((k+1:Nat):Int):=by rw[Qbrg]<;>omega
  have hx2:l.getD (k:Int).toNat (Q0bx.C.dflt .fld)=l[k]:=by simp[hlt2]
  have hin2:inb (k:Int) l.length=true:=by simp only[inb,qaT,qdT];omega
  have hlo2:decide ((k:Int)<(l.length:Int))=true:=decide_eq_true (by omega)
  rw[hlo2,hin2,hx2,hw2]
  simp only[Qd8q,beq_self_eq_true,Bool.and_self,Bool.not_true,Qk7y]
  exact Sat.cut n2
theorem Q6me(ks:List Kind)(ps:List Point)(es:List Entry)(g3:es.length≤1000000000)(g4:es.all (fun z:Entry=>Qytc z.name z.fields)=true):∀(d i:Nat),i+d=es.length→Cut Q0bx Q5ho 4 [.ptr 0 0,.ptr 1 0,.int .i64 (i:Int)] [.box [.sl .kind ks,.sl .point ps,.sl .entry es],.box [.sl .kind ks,.sl .point ps,.sl .entry es]] (.bool true) []:=by
 intro d
 induction d with
 | zero =>
  intro i hi
  refine Cut.of Q17e rfl (Qh8x i ks ps es ks ps es) ?_
  conv=>zeta
  rw[show decide ((i:Int)<(es.length:Int))=false from decide_eq_false (by omega)]
  exact Sat.ret rfl rfl
 | succ d ih =>
  intro i hi
  refine Cut.of Q17e rfl (Qh8x i ks ps es ks ps es) ?_
  conv=>zeta
  have hlt:i<es.length:=by omega
  have hx:es.getD (i:Int).toNat (Q0bx.C.dflt .entry)=es[i]:=by simp[hlt]
  have hin:inb (i:Int) es.length=true:=by simp only[inb,qaT,qdT];omega
  have hlo:decide ((i:Int)<(es.length:Int))=true:=decide_eq_true (by omega)
  have hz:=qlA.1 g4 es[i] (List.getElem_mem hlt)
  simp only[Qytc,Qckx,Bool.and_true,qdT]at hz
  rw[hlo,hin,hx]
  simp only[Qd8q,beq_self_eq_true,Bool.not_true,Qk7y,bne_self_eq_false]
  exact Sat.cut (Qdqt ks ps es i hlt hz g3 (ih (i+1) (by omega)) es[i].fields.length 0 (by omega))
theorem Qyae(ks ks':List Kind)(ps ps':List Point)(es es':List Entry)(hg:Q2xe ks ks' ps ps' es es'=true):Qewq Tryz.prog CP Q5ho [.agg [.sl .kind ks,.sl .point ps,.sl .entry es],.agg [.sl .kind ks',.sl .point ps',.sl .entry es']] [] (.bool true) []:=by
 refine Qewq.of Q17e (by kernel_rfl) (Q4xw ks ks' ps ps' es es') ?_
 simp only[Q2xe,qaT,qdT]at hg
 obtain⟨h1,h2,rfl⟩:=hg
 rw[h1]
 simp only[sameK,qaT,qdT]at h1
 obtain⟨_,rfl,rfl⟩:=h1
 simp only[Qnwa,qaT,qdT]at h2
 simp only[bne_self_eq_false,Qk7y,Qd8q]
 exact Sat.cut (Q6me ks ps es h2.1 h2.2 es.length 0 (by omega))
theorem Qzjt(ks:List Kind)(ps:List Point)(es:List Entry)(hg:Q2xe ks [] ps [] es []=true):Qewq Tryz.prog CP Q5ho [.agg [.sl .kind ks,.sl .point ps,.sl .entry es],.agg [.nils,.nils,.nils]] [] (.bool true) []:=by
 refine(Qyae ks [] ps [] es [] hg).args rfl (fun j x x' h1 h2 N w v h=>?_)
 match j with
 | 0=>simp only[qcZ,qsI]at h1 h2;subst h1;subst h2;exact h
 | 1 =>
  simp only[List.getElem?_cons_succ,qcZ,qsI]at h1 h2;subst h1;subst h2
  refine RepA.aggMono (cs:=[.nils,.nils,.nils]) (ds:=[.sl .kind [],.sl .point [],.sl .entry []]) rfl (fun i c' d' e1 e2 u hu=>?_) h
  match i with
  | 0=>simp only[qcZ,qsI]at e1 e2;subst e1;subst e2;exact hu.nilSl Ty.kind
  | 1=>simp only[List.getElem?_cons_succ,qcZ,qsI]at e1 e2;subst e1;subst e2;exact hu.nilSl Ty.point
  | 2=>simp only[List.getElem?_cons_succ,qcZ,qsI]at e1 e2;subst e1;subst e2;exact hu.nilSl Ty.entry
  | i+3=>simp at e1
 | j+2=>simp at h1
theorem Qxl3:EntOK Tryz.prog CP Q5ho Qz24:=by
 refine⟨eob (by kernel_rfl),fun _ _ _ _ h=>?_⟩
 simp only[Qz24]at h
 split at h
 ·obtain⟨hg,rfl,rfl⟩:=eoh h
  exact Qyae _ _ _ _ _ _ hg
 ·obtain⟨hg,rfl,rfl⟩:=eoh h
  exact Qzjt _ _ _ hg
 ·cases h

end Lx
namespace Lx
open Go Go.Proofs
end Lx
