/- The law of texts and their faults: at every code, a drawn text is parsed as the reference parses it; a text without fault gives a book that is ok and is read back from its own print; a fault leaves an empty book, and the lines ahead of the line at fault are a text without fault. Conditions: those of the given row alone: the listed package-level variables read at the beginning of the call as the text of the program lays them, which the card ties to that text. Conditions: those of the given row alone: the listed package-level variables read at the call's begin as the program's text lays them, which the card ties to that text. -/
import Derived.Test.YtefjaihaocdpcaaGreatDoorCards
import Derived.Test.YtefjaihaocdpcaaGreatDoorTie
import Derived.Lay
import Derived.LaidOnce
import Derived.SevenTiedAt
import Derived.Test.YtefjaihaocdpcaaGreatDoorLeffjlgmbmk
import Derived.Test.YtefjaihaocdpcaaGreatDoorLdaegilpkoe
import Derived.Test.YtefjaihaocdpcaaGreatDoorTptxg
set_option linter.unusedVariables false
set_option maxRecDepth 100000
namespace Go.Proofs.YtefjaihaocdpcaaGreatDoor.fnPlanText
open Go Go.ChangeShapes Go.WideShapes Go.ChangeAt Go.RowKit Lx

theorem own:ownKnob Tryz.prog.godebug=none:=by kernel_rfl
theorem laidOut:laidOutB Tryz.prog=true:=by kernel_rfl
theorem args_read:Ars Tryz.prog CP Tryz.f14.params.toList (fun xs=>∃x ys,xs=x::ys∧(∃c:List Int,x=.sl .u8 c∧Qf9o c=true)∧ys=[]):=Ars.cons Qfwp Ars.nil
theorem called:∀xs,(fun xs=>∃x ys,xs=x::ys∧(∃c:List Int,x=.sl .u8 c∧Qf9o c=true)∧ys=[]) xs→Qewq Tryz.prog CP 14 xs [] (.bool true) []:=fun xs h=>by
 obtain⟨_,_,rfl,⟨c,rfl,hc⟩,rfl⟩:=h
 exact Qe3m c hc
theorem vars_read:∀n∈Rows.fnPlanTextSpec.vars,∀g t,Tryz.prog.globalNamed n=some g→(Tryz.prog.globals[g]?).map (·.type)=some t→Tryz.prog.readableRec t=true∧t<Tryz.prog.types.size:=fun n hn g t h1 h2=>by
 obtain rfl:=List.mem_singleton.1 (show n∈["loop.example/lapwing/impl.whatWords"] from hn)
 have e1:Tryz.prog.globalNamed "loop.example/lapwing/impl.whatWords" = some 0:=by kernel_rfl
 obtain rfl:=Option.some.inj (e1.symm.trans h1)
 have e2:(Tryz.prog.globals[0]?).map (·.type)=some (gty 0):=by kernel_rfl
 obtain rfl:=Option.some.inj (e2.symm.trans h2)
 exact⟨by kernel_rfl,of_decide_eq_true (by kernel_rfl)⟩
theorem lifted(os:Os)(started:os.Started)(H:Type)(enc:TypeId×Value→H) :
  ReturnsInHanded {} Tryz.checked os 14 .any (fun w args=>(Rows.fnPlanTextSpec.pre enc Tryz.prog Tryz.f14 [] false w args∧laidMetH Tryz.prog Rows.fnPlanTextRow.laid w)∧sizedMet enc Tryz.prog Tryz.f14 (OpenSpec.ofChange Rows.fnPlanTextSpec) false w args)
   (Rows.fnPlanTextSpec.post enc Tryz.prog Tryz.f14 false true false false):=by
 refine returnsInHanded_of_change_and (C:=Tryz.checked) (X:=fun w _=>laidMetH Tryz.prog Rows.fnPlanTextRow.laid w) (fun _ _ _ hh h=>h.of_heap hh) own started (by kernel_rfl) Tryz.func14
  (ChangeSpec.witness_shaped (enc:=enc) (C:=Tryz.checked) (os:=os) (X:=fun w _=>laidMetH Tryz.prog Rows.fnPlanTextRow.laid w) false (World.laidAll Tryz.prog os Rows.fnPlanTextRow.laid) #[.slice none 0 0] 8 (World.laidAll_os _ _ _)
   (World.shaped_of_ZipB (by kernel_rfl) (by kernel_rfl)) (by kernel_rfl) (by kernel_rfl) (by kernel_rfl)
   (by rw[MakeChecks.laidMetH_plain _ _ _ (by kernel_rfl)];exact laidMet_laidAll _ (by kernel_rfl) (by kernel_rfl))) ?_
 intro W base args ds gs before hval hW _ _ hL _
 have hL':laidMet Tryz.prog Rows.fnPlanTextRow.laid W:=by rw[MakeChecks.laidMetH_plain _ _ _ (by kernel_rfl)]at hL;exact hL
 exact Qjlf args_read called laidOut (fun t ht=>by
   have hall:(Tryz.f14.params.toList.all fun t=>Tryz.prog.readableRec t&&decide (t<Tryz.prog.types.size))=true:=by kernel_rfl
   simpa using List.all_eq_true.1 hall t ht) vars_read enc
  (fun ds gs h h2=>by match ds,h,gs,h2 with|[d1],_,[g1],_=>rfl) (fun ds gs h h2=>by match ds,h,gs,h2 with|[d1],_,[g1],_=>rfl)
  (fun ds gs h h2=>by match ds,h,gs,h2 with|[d1],_,[g1],_=>exact fun _ _ _ _=>trodAll_mk1 (shut_bool Tryz.underlying4 _)) W (globs hL' (List.mem_of_getElem? (i:=6) rfl) (List.mem_of_getElem? (i:=2) rfl)) base args ds gs before hval hW
theorem said:Rows.FnPlanTextSaid :=
 OpenClaim.holds_of_wide 14 Tryz.f14 rfl rfl rfl rfl rfl rfl rfl ⟨rfl,rfl,rfl,rfl,rfl⟩ rfl rfl rfl rfl rfl named Tryz.func14 closed inst wrap
  (fun os started H enc _=>lifted os started H enc)
theorem card:Rows.FnPlanTextCardSaid :=
 Claim7.holds_tied_plain_at .later [] [.data,.data,.data,.data,.sentinel,.sentinel,.widerDeep,.pinned] true (true, "41bd0f50d487431789ddaad2af5a40940f8e4c50e6845c8b58ff594bc5ec8495") true said (fun _ h=>by cases h) wfText (fun _ h=>by cases h) fnPlanText_row_tie rfl ⟨rfl,rfl⟩ mainIs rfl
  (fun f fn hf hfn=>by
   obtain rfl:f=14:=Option.some.inj (named.symm.trans hf) |>.symm
   obtain rfl:fn=Tryz.f14:=(Option.some.inj (Tryz.func14.symm.trans hfn)).symm
   exact⟨looked,fun j t ht=>by
    have hm:t∈Tryz.f14.params.toList:=by simpa using Array.mem_of_getElem? ht
    exact(show Tryz.prog.wantsStandIn t=false by simpa using List.all_eq_true.1 standIns t hm)⟩)
  goes
end Go.Proofs.YtefjaihaocdpcaaGreatDoor.fnPlanText
