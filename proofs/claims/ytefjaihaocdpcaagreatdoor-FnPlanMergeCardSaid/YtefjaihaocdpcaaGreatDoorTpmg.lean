/- The law of two books together: at every two codes, two drawn books merge to one, whichever is first, once and twice; it is what the one says and the news of the other; of three it does not matter which two come first. Conditions: those of the given row alone: the listed package-level variables read at the call's begin as the program's text lays them, which the card ties to that text. -/
import Derived.Test.YtefjaihaocdpcaaGreatDoorCards
import Derived.Test.YtefjaihaocdpcaaGreatDoorTie
import Derived.Lay
import Derived.LaidOnce
import Derived.SevenTiedAt
import Derived.Test.YtefjaihaocdpcaaGreatDoorLgdgoajfkgb
import Derived.Test.YtefjaihaocdpcaaGreatDoorLdemiggpheo
import Derived.Test.YtefjaihaocdpcaaGreatDoorTpmgg
set_option linter.unusedVariables false
set_option maxRecDepth 100000
namespace Go.Proofs.YtefjaihaocdpcaaGreatDoor.fnPlanMerge
open Go Go.ChangeShapes Go.WideShapes Go.ChangeAt Go.RowKit Lx

theorem own : ownKnob Tryz.prog.godebug = none:=by kernel_rfl
theorem laidOut : laidOutB Tryz.prog = true:=by kernel_rfl
theorem args_read : Ars Tryz.prog CP Tryz.f9.params.toList (fun xs=>∃ x ys,xs = x :: ys ∧ (∃ c : List Int,x = .sl .u8 c ∧ Qf9o c = true) ∧ ∃ y zs,ys = y :: zs ∧ (∃ c : List Int,y = .sl .u8 c ∧ Qf9o c = true) ∧ zs = []):=Ars.cons Qfwp (Ars.cons Qfwp Ars.nil)
theorem called : ∀ xs,(fun xs=>∃ x ys,xs = x :: ys ∧ (∃ c : List Int,x = .sl .u8 c ∧ Qf9o c = true) ∧ ∃ y zs,ys = y :: zs ∧ (∃ c : List Int,y = .sl .u8 c ∧ Qf9o c = true) ∧ zs = []) xs → Qewq Tryz.prog CP 9 xs [] (.bool true) []:=fun xs h=>by
 obtain ⟨_,_,rfl,⟨c,rfl,hc⟩,_,_,rfl,⟨m,rfl,hm⟩,rfl⟩:=h
 exact Qrkg c m (by rw [hc,hm]; rfl)
theorem lifted (os : Os) (started : os.Started) (H : Type) (enc : TypeId × Value → H) :
  ReturnsInHanded {} Tryz.checked os 9 .any (fun w args=>(Rows.fnPlanMergeSpec.pre enc Tryz.prog Tryz.f9 [] false w args ∧ laidMetH Tryz.prog Rows.fnPlanMergeRow.laid w) ∧ sizedMet enc Tryz.prog Tryz.f9 (OpenSpec.ofChange Rows.fnPlanMergeSpec) false w args)
   (Rows.fnPlanMergeSpec.post enc Tryz.prog Tryz.f9 false true false false):=by
 refine returnsInHanded_of_change_and (C:=Tryz.checked) (X:=fun w _=>laidMetH Tryz.prog Rows.fnPlanMergeRow.laid w) (fun _ _ _ hh h=>h.of_heap hh) own started (by kernel_rfl) Tryz.func9
  (ChangeSpec.witness_shaped (enc:=enc) (C:=Tryz.checked) (os:=os) (X:=fun w _=>laidMetH Tryz.prog Rows.fnPlanMergeRow.laid w) false (World.laidAll Tryz.prog os Rows.fnPlanMergeRow.laid) #[.slice none 0 0,.slice none 0 0] 8 (World.laidAll_os _ _ _)
   (World.shaped_of_ZipB (by kernel_rfl) (by kernel_rfl)) (by kernel_rfl) (by kernel_rfl) (by kernel_rfl)
   (by rw [MakeChecks.laidMetH_plain _ _ _ (by kernel_rfl)]; exact laidMet_laidAll _ (by kernel_rfl) (by kernel_rfl))) ?_
 intro W base args ds gs before hval hW _ _ hL _
 exact Qovi args_read called laidOut (fun t ht=>by
   have hall : (Tryz.f9.params.toList.all fun t=>Tryz.prog.readableRec t && decide (t < Tryz.prog.types.size)) = true:=by kernel_rfl
   simpa using List.all_eq_true.1 hall t ht) rfl enc
  (fun ds h=>by match ds,h with | [d1,d2],_=>rfl) (fun ds h=>by match ds,h with | [d1,d2],_=>rfl)
  (fun ds h=>by match ds,h with | [d1,d2],_=>exact fun _ _ _ _=>trodAll_mk1 (shut_bool Tryz.underlying4 _)) W (fun g cs h=>(noGlob g cs h).elim) base args ds gs before hval hW
theorem said : Rows.FnPlanMergeSaid :=
 OpenClaim.holds_of_wide 9 Tryz.f9 rfl rfl rfl rfl rfl rfl rfl ⟨rfl,rfl,rfl,rfl,rfl⟩ rfl rfl rfl rfl rfl named Tryz.func9 closed inst wrap
  (fun os started H enc _=>lifted os started H enc)
theorem card : Rows.FnPlanMergeCardSaid :=
 Claim7.holds_tied_plain_at .later [] [.data,.data,.data,.data,.sentinel,.sentinel,.pinned] true (true, "41bd0f50d487431789ddaad2af5a40940f8e4c50e6845c8b58ff594bc5ec8495") true said (fun _ h=>by cases h) wfText (fun _ h=>by cases h) fnPlanMerge_row_tie rfl ⟨rfl,rfl⟩ mainIs rfl
  (fun f fn hf hfn=>by
   obtain rfl : f = 9:=Option.some.inj (named.symm.trans hf) |>.symm
   obtain rfl : fn = Tryz.f9:=(Option.some.inj (Tryz.func9.symm.trans hfn)).symm
   exact ⟨looked,fun j t ht=>by
    have hm : t ∈ Tryz.f9.params.toList:=by simpa using Array.mem_of_getElem? ht
    exact (show Tryz.prog.wantsStandIn t = false by simpa using List.all_eq_true.1 standIns t hm)⟩)
  goes
end Go.Proofs.YtefjaihaocdpcaaGreatDoor.fnPlanMerge
