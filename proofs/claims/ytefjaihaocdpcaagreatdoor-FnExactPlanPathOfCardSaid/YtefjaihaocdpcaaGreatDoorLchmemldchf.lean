/- An operation's answer hangs on its operands and on what it read alone. -/
import Derived.Orders
import Derived.Deep.Slices
import Derived.WideKeyArgs
import Derived.RowKit
import Derived.ProofKit
import Derived.ChangeKeysEq
import Derived.Test.YtefjaihaocdpcaaGreatDoorProg
import Derived.KernelRfl
import Derived.Test.YtefjaihaocdpcaaGreatDoorLhmdcbdbnln
import Derived.Test.YtefjaihaocdpcaaGreatDoorLmcgmighmfl
set_option linter.unusedVariables false
set_option linter.unusedSimpArgs false
namespace Lx
open Go
section
variable {Ty : Type} {El : Ty → Type} {C : Cod Ty El} {P : Program}

theorem evalO_congr {tm tm' : Nat → AV Ty El} {x : Operand} (h : ∀ t, x = .tmp t → tm' t = tm t) : evalO tm' x = evalO tm x := by
  cases x with
  | tmp t => exact h t rfl
  | _ => rfl

theorem refsOf_congr {hp hp' : Nat → AObj Ty El} : ∀ (n : Nat) (v : AV Ty El), (∀ r ∈ refsOf hp n v, hp' r = hp r) → refsOf hp' n v = refsOf hp n v := by
  intro n
  induction n with
  | zero => intro v _; rfl
  | succ n ih =>
    intro v h
    have kids : ∀ cs : List (AV Ty El), (∀ r ∈ cs.flatMap (refsOf hp n), hp' r = hp r) → cs.flatMap (refsOf hp' n) = cs.flatMap (refsOf hp n) := by
      intro cs hc
      have : ∀ c ∈ cs, refsOf hp' n c = refsOf hp n c := fun c hcm => ih c (fun r hr => hc r (List.mem_flatMap.2 ⟨c, hcm, hr⟩))
      rw [List.flatMap_def, List.flatMap_def, List.map_congr_left this]
    cases v with
    | ptr r off =>
      have hr : hp' r = hp r := h r (by simp [refsOf])
      simp only [refsOf, hr] at h ⊢
      cases hb : hp r with
      | box cs => rw [hb] at h; simp only; rw [kids cs (fun r' hr' => h r' (List.mem_cons_of_mem _ hr'))]
      | _ => rfl
    | agg cs => simp only [refsOf] at h ⊢; exact kids cs h
    | tup cs => simp only [refsOf] at h ⊢; exact kids cs h
    | fn f cs => simp only [refsOf] at h ⊢; exact kids cs h
    | _ => rfl

theorem omap_congr {α β : Type} {f g : α → Option β} : ∀ {l : List α}, (∀ a ∈ l, f a = g a) → omap f l = omap g l
  | [], _ => rfl
  | a :: l, h => by
    simp only [omap]
    rw [h a List.mem_cons_self, omap_congr (fun x hx => h x (List.mem_cons_of_mem _ hx))]

theorem lend_congr {hp hp' : Nat → AObj Ty El} : ∀ (n : Nat) (v : AV Ty El), (∀ r ∈ refsOf hp n v, hp' r = hp r) → lend C hp' n v = lend C hp n v := by
  intro n
  induction n with
  | zero => intro v _; rfl
  | succ n ih =>
    intro v h
    have kids : ∀ cs : List (AV Ty El), (∀ r ∈ cs.flatMap (refsOf hp n), hp' r = hp r) → omap (lend C hp' n) cs = omap (lend C hp n) cs :=
      fun cs hc => omap_congr fun c hcm => ih c (fun r hr => hc r (List.mem_flatMap.2 ⟨c, hcm, hr⟩))
    cases v with
    | own r p ver => simp only [lend]; rw [rowAt_congr (h r (by simp [refsOf]))]
    | view r p ver w lo m => simp only [lend]; rw [rowAt_congr (h r (by simp [refsOf]))]
    | eptr r p ver w i j => simp only [lend]; rw [rowAt_congr (h r (by simp [refsOf]))]
    | ptr r off =>
      have hr : hp' r = hp r := h r (by simp [refsOf])
      simp only [refsOf] at h
      simp only [lend, hr]
      cases hb : hp r with
      | box cs => rw [hb] at h; simp only; rw [kids cs (fun r' hr' => h r' (List.mem_cons_of_mem _ hr'))]
      | _ => rfl
    | agg cs => simp only [refsOf] at h; simp only [lend]; rw [kids cs h]
    | fn f cs => simp only [refsOf] at h; simp only [lend]; rw [kids cs h]
    | _ => rfl

theorem lentOK_congr {hp hp' : Nat → AObj Ty El} {iol : List Nat} : ∀ (args : List (AV Ty El)) (ms : List Md), (∀ r ∈ args.flatMap (refsOf hp 4), hp' r = hp r) → lentOK hp' iol ms args = lentOK hp iol ms args := by
  intro args
  induction args with
  | nil => intro ms _; cases ms with | nil => rfl | cons m ms => cases m <;> rfl
  | cons v vs ih =>
    intro ms h
    have hv : ∀ r ∈ refsOf hp 4 v, hp' r = hp r := fun r hr => h r (by simp only [List.flatMap_cons, List.mem_append]; exact .inl hr)
    have hvs : ∀ r ∈ vs.flatMap (refsOf hp 4), hp' r = hp r := fun r hr => h r (by simp only [List.flatMap_cons, List.mem_append]; exact .inr hr)
    cases ms with
    | nil => simp only [lentOK]; rw [refsOf_congr 4 v hv, ih [] hvs]
    | cons m ms =>
      cases m with
      | ro => simp only [lentOK]; rw [refsOf_congr 4 v hv, ih ms hvs]
      | io => simp only [lentOK]; rw [ih ms hvs]
      | al => simp only [lentOK]; rw [ih ms hvs]


/-- What is handed over stands among the arguments' names. -/
theorem handL_refs {hp : Nat → AObj Ty El} : ∀ (args : List (AV Ty El)) (ms : List Md) (hs : List Hnd), handL C hp ms args = some hs → ∀ h ∈ hs, h.r ∈ args.flatMap (refsOf hp 4) ∧ ∀ r cs, h = .box r → hp r = .box cs → ∀ r' p v, .own r' p v ∈ cs → r' ∈ args.flatMap (refsOf hp 4) := by
  have ownsMem : ∀ (cs : List (AV Ty El)) (h : Hnd), h ∈ ownsL cs → (∃ r p v, h = .row r p ∧ .own r p v ∈ cs) := by
    intro cs
    induction cs with
    | nil => intro h hh; simp [ownsL] at hh
    | cons c cs ih =>
      intro h hh
      have rest : h ∈ ownsL cs → ∃ r p v, h = .row r p ∧ AV.own r p v ∈ c :: cs := fun h1 => by
        obtain ⟨r, p, v, h2, h3⟩ := ih h h1
        exact ⟨r, p, v, h2, List.mem_cons_of_mem _ h3⟩
      cases c with
      | own r p v =>
        simp only [ownsL, List.mem_cons] at hh
        rcases hh with rfl | hh
        · exact ⟨r, p, v, rfl, by simp⟩
        · exact rest hh
      | _ => exact rest hh
  intro args
  induction args with
  | nil =>
    intro ms hs h h0 hh
    have : hs = [] := by cases ms <;> simp [handL] at h <;> first | exact h | exact h.symm
    subst this; simp at hh
  | cons v vs ih =>
    intro ms hs h h0 hh
    have up : ∀ r, r ∈ vs.flatMap (refsOf hp 4) → r ∈ (v :: vs).flatMap (refsOf hp 4) := fun r hr => by simp only [List.flatMap_cons, List.mem_append]; exact .inr hr
    have at0 : ∀ r, r ∈ refsOf hp 4 v → r ∈ (v :: vs).flatMap (refsOf hp 4) := fun r hr => by simp only [List.flatMap_cons, List.mem_append]; exact .inl hr
    cases ms with
    | nil => simp only [handL, Option.some.injEq] at h; subst h; simp at hh
    | cons m ms =>
      simp only [handL] at h
      split at h
      · cases h
      rename_i l hl
      have tail : h0 ∈ l → h0.r ∈ (v :: vs).flatMap (refsOf hp 4) ∧ ∀ r cs, h0 = .box r → hp r = .box cs → ∀ r' p v', .own r' p v' ∈ cs → r' ∈ (v :: vs).flatMap (refsOf hp 4) := fun h1 => by
        obtain ⟨h2, h3⟩ := ih ms l hl h0 h1
        exact ⟨up _ h2, fun r cs e1 e2 r' p v' hm => up _ (h3 r cs e1 e2 r' p v' hm)⟩
      cases m with
      | ro => simp only [Option.some.injEq] at h; subst h; exact tail hh
      | al => simp only [Option.some.injEq] at h; subst h; exact tail hh
      | io =>
        simp only at h
        split at h
        · rename_i r p ver
          simp only [Option.some.injEq] at h; subst h
          simp only [List.mem_cons] at hh
          rcases hh with rfl | hh
          · exact ⟨at0 _ (by simp [refsOf, Hnd.r]), fun r cs e => by cases e⟩
          · exact tail hh
        · rename_i r p ver w i j
          simp only [Option.some.injEq] at h; subst h
          simp only [List.mem_cons] at hh
          rcases hh with rfl | hh
          · exact ⟨at0 _ (by simp [refsOf, Hnd.r]), fun r cs e => by cases e⟩
          · exact tail hh
        · rename_i r
          split at h
          · rename_i cs hb
            simp only [Option.some.injEq] at h; subst h
            have kids : ∀ r' p v', AV.own r' p v' ∈ cs → r' ∈ refsOf hp 4 (.ptr r 0 : AV Ty El) := fun r' p v' hm => by
              simp only [refsOf, hb, List.mem_cons]
              exact .inr (List.mem_flatMap.2 ⟨_, hm, by simp [refsOf]⟩)
            simp only [List.mem_cons, List.mem_append] at hh
            rcases hh with rfl | hh | hh
            · refine ⟨at0 _ (by simp [refsOf, Hnd.r]), fun r2 cs2 e1 e2 r' p v' hm => ?_⟩
              simp only [Hnd.box.injEq] at e1
              subst e1
              rw [hb] at e2
              simp only [AObj.box.injEq] at e2
              subst e2
              exact at0 _ (kids r' p v' hm)
            · obtain ⟨r', p, v', rfl, hm⟩ := ownsMem cs h0 hh
              exact ⟨at0 _ (kids r' p v' hm), fun r cs e => by cases e⟩
            · exact tail hh
          · cases h
        · rename_i cs
          simp only [Option.some.injEq] at h; subst h
          simp only [List.mem_append] at hh
          rcases hh with hh | hh
          · obtain ⟨r', p, v', rfl, hm⟩ := ownsMem cs h0 hh
            exact ⟨at0 _ (by simp only [refsOf]; exact List.mem_flatMap.2 ⟨_, hm, by simp [refsOf, Hnd.r]⟩), fun r cs e => by cases e⟩
          · exact tail hh
        · cases h

theorem handL_congr {hp hp' : Nat → AObj Ty El} : ∀ (args : List (AV Ty El)) (ms : List Md), (∀ r ∈ args.flatMap (refsOf hp 4), hp' r = hp r) → handL C hp' ms args = handL C hp ms args := by
  intro args
  induction args with
  | nil => intro ms _; cases ms <;> rfl
  | cons v vs ih =>
    intro ms h
    have hv : ∀ r ∈ refsOf hp 4 v, hp' r = hp r := fun r hr => h r (by simp only [List.flatMap_cons, List.mem_append]; exact .inl hr)
    have hvs : ∀ r ∈ vs.flatMap (refsOf hp 4), hp' r = hp r := fun r hr => h r (by simp only [List.flatMap_cons, List.mem_append]; exact .inr hr)
    cases ms with
    | nil => rfl
    | cons m ms =>
      simp only [handL]
      rw [ih ms hvs]
      cases m with
      | io =>
        cases v with
        | ptr r off =>
          have hr : hp' r = hp r := hv r (by simp [refsOf])
          cases off with
          | zero => simp only [hr]
          | succ off => rfl
        | _ => rfl
      | _ => rfl

theorem cellsIn_congr {hp hp' : Nat → AObj Ty El} : ∀ (cs : List (AV Ty El)) (k : Nat), (∀ r p v, AV.own r p v ∈ cs → hp' r = hp r) → cellsIn C hp' cs k = cellsIn C hp cs k
  | [], _, _ => rfl
  | c :: cs, k, h => by
    have ht : ∀ k, cellsIn C hp' cs k = cellsIn C hp cs k := fun k => cellsIn_congr cs k (fun r p v hm => h r p v (List.mem_cons_of_mem _ hm))
    cases c with
    | own r p v => simp only [cellsIn]; rw [rowAt_congr (h r p v (by simp)), ht]
    | _ => simp only [cellsIn]; rw [ht]

theorem handObjs_congr {hp hp' : Nat → AObj Ty El} : ∀ (hs : List Hnd) (k : Nat), (∀ h ∈ hs, hp' h.r = hp h.r ∧ ∀ r cs, h = .box r → hp r = .box cs → ∀ r' p v, AV.own r' p v ∈ cs → hp' r' = hp r') → handObjs C hp' hs k = handObjs C hp hs k
  | [], _, _ => rfl
  | h :: hs, k, hh => by
    obtain ⟨h1, h2⟩ := hh h (by simp)
    have ht : handObjs C hp' hs (k + 1) = handObjs C hp hs (k + 1) := handObjs_congr hs (k + 1) (fun h' hm => hh h' (List.mem_cons_of_mem _ hm))
    cases h with
    | row r p =>
      have h1 : hp' r = hp r := h1
      simp only [handObjs, h1, ht, rowAt_congr h1]
    | box r =>
      have h1 : hp' r = hp r := h1
      simp only [handObjs, h1, ht]
      cases hb : hp r with
      | box cs => simp only [cellsIn_congr cs (k + 1) (h2 r cs rfl hb)]
      | _ => rfl

theorem handArgs_congr {hp hp' : Nat → AObj Ty El} {hs : List Hnd} : ∀ (args : List (AV Ty El)) (ms : List Md) (k : Nat), (∀ r ∈ args.flatMap (refsOf hp 4), hp' r = hp r) → handArgs C hp' hs ms args k = handArgs C hp hs ms args k := by
  intro args
  induction args with
  | nil => intro ms k _; cases ms <;> rfl
  | cons v vs ih =>
    intro ms k h
    have hv : ∀ r ∈ refsOf hp 4 v, hp' r = hp r := fun r hr => h r (by simp only [List.flatMap_cons, List.mem_append]; exact .inl hr)
    have hvs : ∀ r ∈ vs.flatMap (refsOf hp 4), hp' r = hp r := fun r hr => h r (by simp only [List.flatMap_cons, List.mem_append]; exact .inr hr)
    cases ms with
    | nil => simp only [handArgs]; rw [lend_congr 4 v hv, ih [] k hvs]
    | cons m ms =>
      cases m with
      | ro => simp only [handArgs]; rw [lend_congr 4 v hv, ih ms k hvs]
      | al =>
        cases v with
        | own r p ver =>
          have hr : hp' r = hp r := hv r (by simp [refsOf])
          cases p with
          | nil => simp only [handArgs, rowAt_congr hr, ih ms k hvs]
          | cons q p => rfl
        | eptr r p ver w i j =>
          have hr : hp' r = hp r := hv r (by simp [refsOf])
          cases p with
          | nil => simp only [handArgs, rowAt_congr hr, ih ms k hvs]
          | cons q p => rfl
        | _ => rfl
      | io =>
        cases v with
        | ptr r off =>
          cases off with
          | zero =>
            have hr : hp' r = hp r := hv r (by simp [refsOf])
            simp only [handArgs, hr]
            cases hb : hp r with
            | box cs => simp only [ih ms _ hvs]
            | _ => rfl
          | succ off => rfl
        | own r p ver =>
          have hr : hp' r = hp r := hv r (by simp [refsOf])
          simp only [handArgs, rowAt_congr hr, ih ms (k + 1) hvs]
        | eptr r p ver w i j =>
          have hr : hp' r = hp r := hv r (by simp [refsOf])
          simp only [handArgs, rowAt_congr hr, ih ms (k + 1) hvs]
        | agg cs =>
          simp only [handArgs]
          rw [cellsIn_congr cs k (fun r p v' hm => hv r (by simp only [refsOf]; exact List.mem_flatMap.2 ⟨_, hm, by simp [refsOf]⟩)), ih ms _ hvs]
        | _ => rfl

theorem backObj_congr {hp hp' : Nat → AObj Ty El} {f : Nat → Option Tgt} {h : Hnd} {o : AObj Ty El} (hh : hp' h.r = hp h.r) : backObj C hp' f h o = backObj C hp f h o := by
  cases h with
  | row r p =>
    have hh : hp' r = hp r := hh
    unfold backObj; simp only [hh]
  | box r =>
    have hh : hp' r = hp r := hh
    unfold backObj; simp only [hh]
theorem backAll_congr {hp hp' : Nat → AObj Ty El} {f : Nat → Option Tgt} : ∀ (hs : List Hnd) (H : List (AObj Ty El)), (∀ h ∈ hs, hp' h.r = hp h.r) → backAll C hp' f hs H = backAll C hp f hs H
  | [], _, _ => by simp [backAll]
  | h :: hs, [], _ => by simp [backAll]
  | h :: hs, o :: H, hh => by
    simp only [backAll]
    rw [backObj_congr (hh h List.mem_cons_self), backAll_congr hs H (fun r' hr' => hh r' (List.mem_cons_of_mem _ hr'))]
theorem backF_congr {hp hp' : Nat → AObj Ty El} {hs : List Hnd} {H' : List (AObj Ty El)} {fresh : Nat} (hh : ∀ h ∈ hs, hp' h.r = hp h.r) : backF hp' hs H' fresh = backF hp hs H' fresh := by
  funext k
  unfold backF
  split
  · split
    · split
      · rename_i r p hk
        have : hp' r = hp r := hh _ (List.mem_of_getElem? hk)
        rw [this]
      · rfl
    · rfl
  · rfl
  · rfl

theorem callA_congr {E : Tab Ty El} {g : FuncId} {args : List (AV Ty El)} {fresh : Nat} {hp hp' : Nat → AObj Ty El} (h : ∀ r ∈ args.flatMap (refsOf hp 4), hp' r = hp r) : callA C E g args fresh hp' = callA C E g args fresh hp := by
  unfold callA
  cases E.find g with
  | none => rfl
  | some e =>
    simp only
    rw [handL_congr args e.mode h]
    cases hhL : handL C hp e.mode args with
    | none => rfl
    | some hs =>
      have hrefs := handL_refs args e.mode hs hhL
      have hhs : ∀ h0 ∈ hs, hp' h0.r = hp h0.r := fun h0 hm => h _ (hrefs h0 hm).1
      simp only
      rw [handArgs_congr args e.mode 0 h, handObjs_congr hs 0 (fun h0 hm => ⟨hhs h0 hm, fun r cs e1 e2 r' p v hm2 => h _ ((hrefs h0 hm).2 r cs e1 e2 r' p v hm2)⟩)]
      cases handArgs C hp hs e.mode args 0 with
      | none => rfl
      | some xs =>
        cases handObjs C hp hs 0 with
        | none => rfl
        | some H =>
          simp only
          cases e.sum xs H with
          | none => rfl
          | some q =>
            obtain ⟨c, res, H'⟩ := q
            simp only
            rw [backF_congr hhs, backAll_congr hs H' hhs, lentOK_congr args e.mode h]
            have hrd : args.flatMap (refsOf hp' 4) = args.flatMap (refsOf hp 4) := by
              have : ∀ c ∈ args, refsOf hp' 4 c = refsOf hp 4 c := fun c hc => refsOf_congr 4 c (fun r hr => h r (List.mem_flatMap.2 ⟨c, hc, hr⟩))
              rw [List.flatMap_def, List.flatMap_def, List.map_congr_left this]
            rw [hrd]

theorem callA_rd {E : Tab Ty El} {g : FuncId} {args : List (AV Ty El)} {fresh : Nat} {hp : Nat → AObj Ty El} {r : OpRes Ty El} (h : callA C E g args fresh hp = some r) : r.rd = args.flatMap (refsOf hp 4) := by
  unfold callA at h
  split at h
  · cases h
  split at h
  · cases h
  split at h
  case h_2 => cases h
  split at h
  · cases h
  split at h
  case h_2 => cases h
  split at h
  case h_2 => cases h
  split at h
  case isFalse => cases h
  simp only [Option.some.injEq] at h
  rw [← h]

theorem opF_tm {E : Tab Ty El} {o : Oper} {fresh : Nat} {tm tm' : Nat → AV Ty El} {hp : Nat → AObj Ty El} (hev : ∀ x ∈ o.op.operands.toList, evalO tm' x = evalO tm x) :
    opF P C E o fresh tm' hp = opF P C E o fresh tm hp := by
  unfold opF
  have parts : ∀ ps : Array (Nat × Operand), (∀ x ∈ (ps.toList.map (·.2)), evalO tm' x = evalO tm x) → partsA tm' ps.toList = partsA tm ps.toList := fun ps h =>
    List.map_congr_left fun p hp => by rw [h p.2 (List.mem_map.2 ⟨p, hp, rfl⟩)]
  have bnd : ∀ (d : Int) (x : Option Operand), (∀ y, x = some y → evalO tm' y = evalO tm y) → boundA tm' d x = boundA tm d x := fun d x h => by
    cases x with
    | none => rfl
    | some y => simp only [boundA, h y rfl]
  cases hop : o.op <;> rw [hop] at hev
  case move x => simp only; rw [hev x (by simp [Op.operands])]
  case assign x => simp only; rw [hev x (by simp [Op.operands])]
  case box t x => simp only; rw [hev x (by simp [Op.operands])]
  case build t ps =>
    have := parts ps (fun x hx => hev x (by simpa [Op.operands] using hx))
    simp only; rw [this]
  case buildSlice t n ps =>
    have := parts ps (fun x hx => hev x (by simpa [Op.operands] using hx))
    simp only; rw [this]
  case load t x => simp only; rw [hev x (by simp [Op.operands])]
  case store t a x => simp only; rw [hev a (by simp [Op.operands]), hev x (by simp [Op.operands])]
  case nilCheck x => simp only; rw [hev x (by simp [Op.operands])]
  case binOp op t x y yt => simp only; rw [hev x (by simp [Op.operands]), hev y (by simp [Op.operands])]
  case unOp op t x => simp only; rw [hev x (by simp [Op.operands])]
  case convert s d x => simp only; rw [hev x (by simp [Op.operands])]
  case makeFunc f first caps =>
    have : caps.toList.map (evalO tm') = caps.toList.map (evalO tm) := List.map_congr_left fun x hx => hev x (by simp [Op.operands]; exact .inr (by simpa using hx))
    simp only; rw [this]
  case slice t x lo hi mx =>
    cases mx with
    | none =>
      simp only
      have h1 := hev x (by simp [Op.operands])
      unfold sliceA
      rw [h1]
      have hl : ∀ d, boundA tm' d lo = boundA tm d lo := fun d => bnd d lo (fun y hy => hev y (by subst hy; simp [Op.operands]))
      have hh : ∀ d, boundA tm' d hi = boundA tm d hi := fun d => bnd d hi (fun y hy => hev y (by subst hy; simp [Op.operands]))
      simp only [hl, hh]
    | some m => rfl
  case fieldAddr t x f => simp only; rw [hev x (by simp [Op.operands])]
  case field t x f => simp only; rw [hev x (by simp [Op.operands])]
  case indexAddr t x i => simp only; rw [hev x (by simp [Op.operands]), hev i (by simp [Op.operands])]
  case index t x i => simp only; rw [hev x (by simp [Op.operands]), hev i (by simp [Op.operands])]
  case extract t i => simp only; rw [hev t (by simp [Op.operands])]
  case makeMap t rs => cases rs <;> rfl
  case lookup t m k ok => simp only; rw [hev m (by simp [Op.operands]), hev k (by simp [Op.operands])]
  case mapUpdate t m k x => simp only; rw [hev m (by simp [Op.operands]), hev k (by simp [Op.operands]), hev x (by simp [Op.operands])]
  case insert t m k x => simp only; rw [hev m (by simp [Op.operands]), hev k (by simp [Op.operands]), hev x (by simp [Op.operands])]
  case makeSlice t l c => simp only; rw [hev l (by simp [Op.operands]), hev c (by simp [Op.operands])]
  case call c =>
    have hargs : c.args.toList.map (evalO tm') = c.args.toList.map (evalO tm) := List.map_congr_left fun x hx => hev x (by
      simp only [Op.operands, Call.operands, Array.toList_append, List.mem_append]; exact .inr hx)
    simp only
    rw [hargs]
    cases hcal : c.callee with
    | builtin b => rfl
    | invoke r m => rfl
    | value f =>
      simp only
      rw [hev f (by simp [Op.operands, Call.operands, hcal])]


theorem loadA_congr {hp hp' : Nat → AObj Ty El} {t : TypeId} {x y : AV Ty El} {rd : List Nat} (h : loadA P C hp t x = some (y, rd)) (hh : ∀ r ∈ rd, hp' r = hp r) : loadA P C hp' t x = some (y, rd) := by
  unfold loadA at h ⊢
  split at h <;> first | exact h | skip
  · rename_i r off
    split at h
    · rename_i cs hb
      split at h
      · simp only [Option.some.injEq, Prod.mk.injEq] at h
        obtain ⟨rfl, rfl⟩ := h
        rename_i hp0
        simp only [hh r (by simp), hb, hp0]
      · cases h
    · cases h
  · rename_i r q ver wd i j
    split at h
    · rename_i R hR
      split at h
      · rename_i hw
        split at h
        · rename_i hp0
          simp only [Option.some.injEq, Prod.mk.injEq] at h
          obtain ⟨rfl, rfl⟩ := h
          simp only [rowAt_congr (hh r (by simp)), hR, hw, if_true, hp0]
        · cases h
      · cases h
    · cases h

theorem updM_congr {hp hp' : Nat → AObj Ty El} {t : TypeId} {m k x : AV Ty El} {r : OpRes Ty El} (h : updM P C hp t m k x = some r) (hh : ∀ k ∈ r.rd, hp' k = hp k) : updM P C hp' t m k x = some r := by
  unfold updM at h ⊢
  split at h
  · rename_i r0
    have hrd : hp' r0 = hp r0 := by
      split at h
      · split at h
        · split at h
          · simp only [Option.some.injEq] at h; subst h; exact hh r0 (by simp)
          · cases h
        · cases h
      · cases h
    simp only [hrd]
    exact h
  · cases h
theorem lookA_congr {hp hp' : Nat → AObj Ty El} {t : TypeId} {m k : AV Ty El} {ok : Bool} {r : OpRes Ty El} (h : lookA P C hp t m k ok = some r) (hh : ∀ k ∈ r.rd, hp' k = hp k) : lookA P C hp' t m k ok = some r := by
  unfold lookA at h ⊢
  split at h
  · rename_i r0
    have hrd : hp' r0 = hp r0 := by
      split at h
      · split at h
        · split at h
          · simp only [Option.some.injEq] at h; subst h; exact hh r0 (by simp)
          · cases h
        · cases h
      · cases h
    simp only [hrd]
    exact h
  · cases h

theorem opF_hp {E : Tab Ty El} {o : Oper} {fresh : Nat} {tm : Nat → AV Ty El} {hp hp' : Nat → AObj Ty El} {r : OpRes Ty El} (h : opF P C E o fresh tm hp = some r) (hh : ∀ k ∈ r.rd, hp' k = hp k) : opF P C E o fresh tm hp' = some r := by
  unfold opF at h ⊢
  cases hop : o.op <;> rw [hop] at h <;> simp only at h ⊢ <;> try exact h
  case lookup t m k ok => exact lookA_congr h hh
  case mapUpdate t m k x => exact updM_congr h hh
  case insert t m k x => exact updM_congr h hh
  case makeMap t rs => cases rs <;> exact h
  case load t x =>
    split at h
    · rename_i v rd hl
      simp only [Option.some.injEq] at h; subst h
      simp only [loadA_congr hl hh]
    · cases h
  case store t a x =>
    split at h
    · rename_i gg ws hl
      simp only [Option.some.injEq] at h; subst h
      simp only [storeA_congr hl hh]
    · cases h
  case buildSlice t n ps =>
    split at h
    · rename_i T hT
      split at h
      · rename_i hc
        split at h
        · rename_i xs inn dm hel
          split at h
          · rename_i hnd
            have hrd : r.rd = inn := by
              split at h <;> (simp only [Option.some.injEq] at h; rw [← h])
            simp only [hc, and_self, if_true, elemsA_congr _ _ _ _ _ hel (fun k hk => hh k (by rw [hrd]; exact hk)), hnd]
            exact h
          · cases h
        · cases h
      · cases h
    · cases h
  case convert s d x =>
    split at h
    · exact h
    · exact h
    · rename_i e hs hd hx
      split at h
      · rename_i T xs rd hr
        have hrd : r.rd = rd := by
          split at h
          · split at h
            · split at h
              · simp only [Option.some.injEq] at h; rw [← h]
              · cases h
            · cases h
          · cases h
        simp only [readA_congr hr (fun k hk => hh k (by rw [hrd]; exact hk))]
        exact h
      · cases h
    · cases h
  case slice t x lo hi mx =>
    cases mx with
    | some m => exact h
    | none =>
      simp only at h ⊢
      unfold sliceA at h ⊢
      split at h <;> first | exact h | skip
      · rename_i r0 q0 ver hx0
        split at h
        · rename_i R hR
          have hr : r.rd = [r0] := by
            split at h
            · split at h
              · simp only [Option.some.injEq] at h; rw [← h]
              · cases h
            · cases h
          have e := (rowAt_congr (C := C) (p := q0) (ver := ver) (hh r0 (by rw [hr]; simp))).trans hR
          rw [e]; exact h
        · cases h
  case indexAddr t x i =>
    split at h
    · rename_i n hn
      unfold indexAddrA at h ⊢
      split at h <;> first | exact h | skip
      · rename_i r0 q0 ver hx0
        split at h
        · rename_i R hR
          have hr : r.rd = [r0] := by
            split at h
            · simp only [Option.some.injEq] at h; rw [← h]
            · cases h
          have e := (rowAt_congr (C := C) (p := q0) (ver := ver) (hh r0 (by rw [hr]; simp))).trans hR
          rw [e]; exact h
        · cases h
      · rename_i r0 q0 ver wd lo m hx0
        split at h
        · rename_i R hR
          have hr : r.rd = [r0] := by
            split at h
            · simp only [Option.some.injEq] at h; rw [← h]
            · cases h
          have e := (rowAt_congr (C := C) (p := q0) (ver := ver) (hh r0 (by rw [hr]; simp))).trans hR
          rw [e]; exact h
        · cases h
    · cases h
  case call c =>
    split at h
    · rename_i b hcal
      unfold builtA at h ⊢
      split at h
      · rename_i x hl
        split at h
        · rename_i n rd t hlen hats
          have hrd : r.rd = rd := by
            split at h
            · split at h
              · simp only [Option.some.injEq] at h; rw [← h]
              · cases h
            · split at h
              · simp only [Option.some.injEq] at h; rw [← h]
              · cases h
          simp only [lenA_congr hlen (fun k hk => hh k (by rw [hrd]; exact hk)), hats]
          exact h
        · cases h
      · rename_i s x hl
        split at h
        · rename_i t t' hats
          split at h
          · rename_i htt
            simp only [hats, htt, if_true]
            rw [htt] at h
            exact appendA_congr h hh
          · cases h
        · cases h
      · exact h
      · exact h
      · cases h
    · rename_i f hcal
      split at h
      · rename_i g caps hf
        split at h
        · rename_i hdyn
          simp only [hdyn, if_true]
          rw [← h]
          have hrd := callA_rd h
          exact callA_congr (fun k hk => hh k (by rw [hrd]; exact hk))
        · cases h
      · cases h
    · cases h
end
end Lx
/- A region in the text's order: the run as a list of events, and each event is what the machine does. -/
set_option linter.unusedVariables false
set_option linter.unusedSimpArgs false
namespace Lx
open Go
section
variable {Ty : Type} {El : Ty → Type} {C : Cod Ty El} {P : Program}

/-- What one operation did. -/
structure Ev (Ty : Type) (El : Ty → Type) where
  v : AV Ty El
  wr : List (Nat × AObj Ty El)
  rd : List Nat
  ex : Bool
def Ev.log (e : Ev Ty El) : Log := ⟨e.ex, e.rd, e.wr.map (·.1)⟩

def wantA (all : List Oper) (o : Oper) (tm : Nat → AV Ty El) : Option Bool :=
  match o.guard with
  | none => some true
  | some (j, want) => match all[j]? with
    | none => none
    | some oj => match oj.dst with
      | none => none
      | some d => match tm d with
        | .bool t => some (t == want)
        | .tup [] => some false
        | _ => none

def doF (P : Program) (C : Cod Ty El) (E : Tab Ty El) (o : Oper) (fresh : Nat) (tm : Nat → AV Ty El) (hp : Nat → AObj Ty El) : Option (Ev Ty El) :=
  match o.op with
  | .pick c a b => match evalO tm c with
    | .bool t => some ⟨evalO tm (if t then a else b), [], [], true⟩
    | _ => none
  | _ => match opF P C E o fresh tm hp with
    | none => none
    | some r => if r.g = true then some ⟨r.v, r.wr, r.rd, true⟩ else none

def stepF (P : Program) (C : Cod Ty El) (E : Tab Ty El) (all : List Oper) (o : Oper) (fresh : Nat) (tm : Nat → AV Ty El) (hp : Nat → AObj Ty El) : Option (Ev Ty El) :=
  match wantA all o tm with
  | some true => doF P C E o fresh tm hp
  | some false => some ⟨undefA, [], [], false⟩
  | none => none

inductive Trace (P : Program) (C : Cod Ty El) (E : Tab Ty El) (all : List Oper) (n : Nat) :
    List Oper → Nat → (Nat → AV Ty El) → (Nat → AObj Ty El) → List (Ev Ty El) → (Nat → AV Ty El) → (Nat → AObj Ty El) → Prop
  | nil {fresh tm hp} : Trace P C E all n [] fresh tm hp [] tm hp
  | cons {o os fresh tm hp e es tm' hp'} (h : stepF P C E all o fresh tm hp = some e)
      (t : Trace P C E all n os (fresh + needOf E o) (updT n tm o.dst e.v) (updH hp e.wr) es tm' hp') : Trace P C E all n (o :: os) fresh tm hp (e :: es) tm' hp'

theorem setL_length {α : Type} : ∀ (l : List α) (n : Nat) (x : α), (setL l n x).length = l.length
  | [], _, _ => rfl
  | _ :: _, 0, _ => rfl
  | a :: l, n + 1, x => by simp [setL, setL_length l n x]
theorem setL_getD {α : Type} : ∀ (l : List α) (n : Nat) (x d : α) (k : Nat), (setL l n x).getD k d = if k = n ∧ n < l.length then x else l.getD k d
  | [], n, x, d, k => by simp [setL]
  | a :: l, 0, x, d, k => by cases k <;> simp [setL]
  | a :: l, n + 1, x, d, k => by
    cases k with
    | zero => simp [setL]
    | succ k =>
      have := setL_getD l n x d k
      simp only [List.getD_eq_getElem?_getD] at this
      simp [setL, this]
theorem put_tmF {s : St Ty El} (d : Option Tmp) (v : AV Ty El) (hp : List (AObj Ty El)) : (St.mk (put s.tm d v) hp).tmF = updT s.tm.length s.tmF d v := by
  funext t
  cases d with
  | none => rfl
  | some d => simp only [St.tmF, put, updT, setL_getD]
theorem put_length (tm : List (AV Ty El)) (d : Option Tmp) (v : AV Ty El) : (put tm d v).length = tm.length := by
  cases d <;> simp [put, setL_length]
theorem setL_same {tm : List (AV Ty El)} {d : Nat} {x : AV Ty El} (h : tm.getD d .dead = x) : (setL tm d x) = tm := by
  induction tm generalizing d with
  | nil => rfl
  | cons a l ih => cases d with
    | zero => simp [setL] at *; exact h.symm
    | succ d => simp only [setL]; rw [ih (by simpa using h)]
theorem setG_getD : ∀ (l : List (AObj Ty El)) (n : Nat) (x : AObj Ty El) (k : Nat), (setG l n x).getD k .gone = if k = n then x else l.getD k .gone
  | [], 0, x, k => by cases k <;> simp [setG]
  | [], n + 1, x, k => by
    cases k with
    | zero => simp [setG]
    | succ k =>
      have := setG_getD [] n x k
      simp only [List.getD_eq_getElem?_getD] at this
      simp [setG, this]
  | a :: l, 0, x, k => by cases k <;> simp [setG]
  | a :: l, n + 1, x, k => by
    cases k with
    | zero => simp [setG]
    | succ k =>
      have := setG_getD l n x k
      simp only [List.getD_eq_getElem?_getD] at this
      simp [setG, this]
theorem puts_hpF : ∀ (ws : List (Nat × AObj Ty El)) (tm : List (AV Ty El)) (hp : List (AObj Ty El)), (St.mk tm (puts hp ws)).hpF = updH (St.mk tm hp).hpF ws
  | [], _, _ => rfl
  | (r, o) :: ws, tm, hp => by
    simp only [puts, updH]
    rw [puts_hpF ws tm (setG hp r o)]
    congr 1
    funext k
    simp only [St.hpF, setG_getD, setH]

theorem runOps_trace {E : Tab Ty El} {all : List Oper} {K : St Ty El → List Log → Option (Leaf Ty El)} {lf : Leaf Ty El} :
    ∀ (os : List Oper) (fresh : Nat) (s : St Ty El) (lg : List Log), runOps P C E all os fresh s lg K = some lf →
      ∃ es s', s'.tm.length = s.tm.length ∧ Trace P C E all s.tm.length os fresh s.tmF s.hpF es s'.tmF s'.hpF ∧ K s' (lg.reverse ++ es.map Ev.log) = some lf := by
  intro os
  induction os with
  | nil => intro fresh s lg h; exact ⟨[], s, rfl, .nil, by simpa [runOps] using h⟩
  | cons o os ih =>
    intro fresh s lg h0
    have hstep : ∀ (s1 : St Ty El), s1 = s → wantA all o s.tmF = some true → (match o.op with
        | .pick c a b => match evalO s1.tmF c with
          | .bool t => ifb t (runOps P C E all os fresh { s1 with tm := put s1.tm o.dst (evalO s1.tmF a) } (⟨true, [], []⟩ :: lg) K)
            (runOps P C E all os fresh { s1 with tm := put s1.tm o.dst (evalO s1.tmF b) } (⟨true, [], []⟩ :: lg) K)
          | _ => none
        | _ => match opF P C E o fresh s1.tmF s1.hpF with
          | none => none
          | some r => ifb r.g (runOps P C E all os (fresh + needOf E o) { tm := put s1.tm o.dst r.v, hp := puts s1.hp r.wr } (⟨true, r.rd, r.wr.map (·.1)⟩ :: lg) K) none) = some lf →
        ∃ es s', s'.tm.length = s.tm.length ∧ Trace P C E all s.tm.length (o :: os) fresh s.tmF s.hpF es s'.tmF s'.hpF ∧ K s' (lg.reverse ++ es.map Ev.log) = some lf := by
      intro s1 he hw h
      subst he
      split at h
      · rename_i c a b hop
        split at h
        · rename_i t hc
          have hn : needOf E o = 0 := by simp [needOf, hop]
          have hs : stepF P C E all o fresh s1.tmF s1.hpF = some ⟨evalO s1.tmF (if t then a else b), [], [], true⟩ := by
            simp only [stepF, hw, doF, hop, hc]
          have h' : runOps P C E all os (fresh + needOf E o) { s1 with tm := put s1.tm o.dst (evalO s1.tmF (if t then a else b)) } (⟨true, [], []⟩ :: lg) K = some lf := by
            rw [hn]; cases t <;> simpa [ifb] using h
          obtain ⟨es, s', h1, h2, h3⟩ := ih _ _ _ h'
          rw [put_length, put_tmF] at h2
          refine ⟨_ :: es, s', h1.trans (put_length _ _ _), .cons hs h2, ?_⟩
          simpa [Ev.log] using h3
        · cases h
      · rename_i op0 hop
        split at h
        · cases h
        · rename_i r hr
          cases hg : r.g with
          | false => rw [hg] at h; cases h
          | true =>
            rw [hg, ifb_true] at h
            have hs : stepF P C E all o fresh s1.tmF s1.hpF = some ⟨r.v, r.wr, r.rd, true⟩ := by
              simp only [stepF, hw, doF]
              simp only [hr, hg, if_true]
            obtain ⟨es, s', h1, h2, h3⟩ := ih _ _ _ h
            rw [put_length, put_tmF, puts_hpF] at h2
            refine ⟨_ :: es, s', h1.trans (put_length _ _ _), .cons hs h2, ?_⟩
            simpa [Ev.log] using h3
    have hskip : ∀ (s1 : St Ty El), s1 = s → wantA all o s.tmF = some false → runOps P C E all os (fresh + needOf E o) { s1 with tm := put s1.tm o.dst undefA } (⟨false, [], []⟩ :: lg) K = some lf →
        ∃ es s', s'.tm.length = s.tm.length ∧ Trace P C E all s.tm.length (o :: os) fresh s.tmF s.hpF es s'.tmF s'.hpF ∧ K s' (lg.reverse ++ es.map Ev.log) = some lf := by
      intro s1 he hw h
      subst he
      have hs : stepF P C E all o fresh s1.tmF s1.hpF = some ⟨undefA, [], [], false⟩ := by simp only [stepF, hw]
      obtain ⟨es, s', h1, h2, h3⟩ := ih _ _ _ h
      rw [put_length, put_tmF] at h2
      refine ⟨_ :: es, s', h1.trans (put_length _ _ _), .cons hs h2, ?_⟩
      simpa [Ev.log] using h3
    clear ih
    have h := h0
    clear h0
    unfold runOps at h
    simp only at h
    split at h
    · rename_i hg
      exact hstep s rfl (by simp [wantA, hg]) h
    · rename_i j want hg
      split at h
      · cases h
      · rename_i oj hj
        split at h
        · cases h
        · rename_i d hd
          split at h
          · rename_i t ht
            have hsame : ∀ b, t = b → ({ s with tm := setL s.tm d (.bool b) } : St Ty El) = s := fun b hb => by
              subst hb
              rw [setL_same (by exact ht)]
            cases t with
            | true =>
              rw [ifb_true] at h
              cases want with
              | true => exact hstep _ (hsame true rfl) (by simp [wantA, hg, hj, hd, ht]) h
              | false => exact hskip _ (hsame true rfl) (by simp [wantA, hg, hj, hd, ht]) h
            | false =>
              rw [ifb_false] at h
              cases want with
              | true => exact hskip _ (hsame false rfl) (by simp [wantA, hg, hj, hd, ht]) h
              | false => exact hstep _ (hsame false rfl) (by simp [wantA, hg, hj, hd, ht]) h
          · rename_i ht
            exact hskip s rfl (by simp [wantA, hg, hj, hd, ht]) h
          · cases h

theorem want_sound {X : Cx} {N : Nm} {tm : Nat → AV Ty El} {hp : Nat → AObj Ty El} {a : Act} {w : World} (hS : SimN C X N tm hp a w) (hout : ∀ t, X.n ≤ t → tm t = .dead)
    {ops : Array Oper} {o : Oper} {b : Bool} (h : wantA ops.toList o tm = some b) : Region.wanted o (yielded ops a.tmps) = b := by
  unfold wantA at h
  unfold Region.wanted
  split at h
  · rename_i hg; rw [hg]; simp only [Option.some.injEq] at h; exact h
  · rename_i j want hg
    rw [hg]
    simp only
    split at h
    · cases h
    · rename_i oj hj
      split at h
      · cases h
      · rename_i d hd
        have hjA : ops[j]? = some oj := by rw [← Array.getElem?_toList]; exact hj
        have hy : yielded ops a.tmps j = match a.tmps[d]? with | some (.bool b) => some b | _ => none := by
          unfold yielded
          rw [hjA]
          simp only [Option.bind_some, hd]
          split <;> simp_all
        rw [hy]
        have hlt : tm d ≠ .dead → d < a.tmps.size := fun h => by
          rcases Nat.lt_or_ge d a.tmps.size with h' | h'
          · exact h'
          · exact absurd (hout d (hS.size ▸ h')) h
        split at h
        · rename_i t ht
          have hd' := hlt (by rw [ht]; exact fun h => by cases h)
          have := hS.tmps d hd'
          rw [ht] at this
          have hv := this.inv_bool
          have hv' : a.tmps[d]? = some (.bool t) := by
            rw [Array.getElem?_eq_getElem hd']
            simpa [Array.getD, hd'] using hv
          rw [hv']
          simp only [Option.some.injEq] at h
          rw [← h]
          cases t <;> cases want <;> rfl
        · rename_i ht
          have hd' := hlt (by rw [ht]; exact fun h => by cases h)
          have := hS.tmps d hd'
          rw [ht] at this
          simp only [Option.some.injEq] at h
          rw [← h]
          have hnb : ∀ b, a.tmps[d]? ≠ some (.bool b) := fun b hb => by
            have h3 : a.tmps.getD d undef = .bool b := by simp [Array.getD, hd']; simpa [Array.getElem?_eq_getElem hd'] using hb
            have h2 := hS.tmps d hd'
            rw [ht, h3] at h2
            cases h2
          split
          · rename_i b hb; exact absurd hb (hnb b)
          · cases want <;> rfl
        · cases h

theorem updT_out {n : Nat} {tm : Nat → AV Ty El} {d : Option Tmp} {x : AV Ty El} (h : ∀ t, n ≤ t → tm t = .dead) : ∀ t, n ≤ t → updT n tm d x t = .dead := fun t ht => by
  cases d with
  | none => exact h t ht
  | some d => simp only [updT]; rw [if_neg (fun hh => Nat.not_le.2 hh.2 (hh.1 ▸ ht))]; exact h t ht

/-- One operation in its place. -/
theorem step_sound (hC : CodOK P C) {E : Tab Ty El} (hE : TabOK P C E) {X : Cx} {N : Nm} {tm : Nat → AV Ty El} {hp : Nat → AObj Ty El} {a : Act} {w : World} (hS : SimN C X N tm hp a w) (hout : ∀ t, X.n ≤ t → tm t = .dead)
    {ops : Array Oper} {i : Nat} {o : Oper} (hi : ops[i]? = some o) {fresh : Nat} {e : Ev Ty El} (h : stepF P C E ops.toList o fresh tm hp = some e) (hfr : ∀ k, k < needOf E o → hp (fresh + k) = .gone)
    {Q : Exit → Act → World → Prop} {K : Act → World → Prop} (hK : ∀ v N' w', SimN C X N' (updT X.n tm o.dst e.v) (updH hp e.wr) (a.put o.dst v) w' → K (a.put o.dst v) w') : wpOp P ops Q i K a w := by
  unfold stepF at h
  unfold wpOp
  rw [hi]
  simp only
  split at h
  · rename_i hw
    rw [want_sound hS hout hw]
    simp only [if_true]
    refine .inl ?_
    unfold doF at h
    split at h
    · rename_i c x y hop
      split at h
      · rename_i t hc
        simp only [Option.some.injEq] at h
        subst h
        have hv := hS.evalO hout c
        rw [hc] at hv
        have hb := hv.inv_bool
        refine wp_val (v := a.eval (if t then x else y)) (w' := w) ?_ (hK _ N w (hS.put (hS.evalO hout _) o.dst))
        unfold execOp
        simp only [hop, hb]
        cases t <;> rfl
      · cases h
    · split at h
      · cases h
      · rename_i r hr
        split at h
        · rename_i hg
          simp only [Option.some.injEq] at h
          subst h
          exact opF_sound hC hE hS hout hr hg hfr K Q hK
        · cases h
  · rename_i hw
    rw [want_sound hS hout hw]
    simp only [Option.some.injEq] at h
    subst h
    simp only [Bool.false_eq_true, if_false]
    exact hK undef N w (hS.put (.tup #[] [] rfl (fun j v c h => by simp at h)) o.dst)
  · cases h

theorem stepF_keys {E : Tab Ty El} {all : List Oper} {o : Oper} {fresh : Nat} {tm : Nat → AV Ty El} {hp : Nat → AObj Ty El} {e : Ev Ty El} (h : stepF P C E all o fresh tm hp = some e) : KeysOK E o fresh hp e.wr := by
  unfold stepF at h
  split at h
  · unfold doF at h
    split at h
    · split at h
      · simp only [Option.some.injEq] at h; subst h; intro k hk; simp at hk
      · cases h
    · split at h
      · cases h
      · rename_i r hr
        split at h
        · simp only [Option.some.injEq] at h; subst h; exact opF_keys hr
        · cases h
  · simp only [Option.some.injEq] at h; subst h; intro k hk; simp at hk
  · cases h

/-- The whole region in the text's order. -/
theorem trace_text (hC : CodOK P C) {E : Tab Ty El} (hE : TabOK P C E) {X : Cx} {ops : Array Oper} {Q : Exit → Act → World → Prop} {tm' : Nat → AV Ty El} {hp' : Nat → AObj Ty El} :
    ∀ (os : List Oper) (i fresh : Nat) (N : Nm) (tm : Nat → AV Ty El) (hp : Nat → AObj Ty El) (es : List (Ev Ty El)) (a : Act) (w : World), ops.toList.drop i = os → SimN C X N tm hp a w → (∀ t, X.n ≤ t → tm t = .dead) →
      (∀ k, fresh ≤ k → hp k = .gone) → Trace P C E ops.toList X.n os fresh tm hp es tm' hp' → (∀ a w N', SimN C X N' tm' hp' a w → (∀ t, X.n ≤ t → tm' t = .dead) → Q .normal a w) →
      wpOps P ops Q (List.range' i os.length) a w := by
  intro os
  induction os with
  | nil =>
    intro i fresh N tm hp es a w ho hS hout hfr ht hQ
    cases ht
    exact hQ a w N hS hout
  | cons o os ih =>
    intro i fresh N tm hp es a w ho hS hout hfr ht hQ
    cases ht with
    | cons h t =>
      have hi : ops[i]? = some o := by
        rw [← Array.getElem?_toList]
        have := congrArg (fun l => l[0]?) ho
        simpa using this
      rw [List.length_cons, List.range'_succ, wpOps_cons]
      refine step_sound hC hE hS hout hi h (fun k _ => hfr _ (Nat.le_add_right _ _)) fun v N' w' hS' => ?_
      refine ih (i + 1) _ N' _ _ _ _ w' ?_ hS' (updT_out hout) ?_ t hQ
      · have := congrArg List.tail ho
        simpa using this
      · intro k hk
        rw [updH_not (hp := hp)]
        · exact hfr k (by omega)
        · intro hmem
          rcases stepF_keys h k hmem with h1 | h1
          · exact h1 (hfr k (by omega))
          · omega
end
end Lx
/- A region whose order is drawn: what is told apart may stand in any order. -/
set_option linter.unusedVariables false
set_option linter.unusedSimpArgs false
namespace Lx
open Go
section

/-- The value at a key after the writes of the set D, in order. -/
def valAt {α : Type} (w : Nat → Nat → Option α) (base : Nat → α) (D : Nat → Bool) : Nat → Nat → α
  | 0, k => base k
  | i + 1, k => match D i with
    | true => (w i k).getD (valAt w base D i k)
    | false => valAt w base D i k

theorem valAt_congr {α : Type} {w : Nat → Nat → Option α} {base : Nat → α} {D D' : Nat → Bool} {k : Nat} : ∀ (m : Nat), (∀ i, i < m → D i = D' i ∨ w i k = none) → valAt w base D m k = valAt w base D' m k
  | 0, _ => rfl
  | m + 1, h => by
    have ih := valAt_congr (base := base) m (fun i hi => h i (by omega))
    simp only [valAt]
    rcases h m (by omega) with h1 | h1
    · rw [h1, ih]
    · rw [h1, ih]; cases D m <;> cases D' m <;> rfl
theorem valAt_ext {α : Type} {w : Nat → Nat → Option α} {base : Nat → α} {D : Nat → Bool} {k : Nat} (m : Nat) : ∀ (d : Nat), (∀ i, m ≤ i → i < m + d → D i = false ∨ w i k = none) → valAt w base D (m + d) k = valAt w base D m k
  | 0, _ => rfl
  | d + 1, h => by
    have ih := valAt_ext (base := base) m d (fun i h1 h2 => h i h1 (by omega))
    rw [← Nat.add_assoc]
    simp only [valAt]
    rcases h (m + d) (by omega) (by omega) with h1 | h1
    · rw [h1]; exact ih
    · rw [h1, ih]; cases D (m + d) <;> rfl
theorem valAt_base {α : Type} {w : Nat → Nat → Option α} {base : Nat → α} {D : Nat → Bool} {k : Nat} (m : Nat) (h : ∀ i, i < m → D i = false ∨ w i k = none) : valAt w base D m k = base k := by
  have := valAt_ext (w := w) (base := base) (D := D) (k := k) 0 m (fun i _ hi => h i (by omega))
  simpa [valAt] using this
/-- The set's state agrees with the text's at what no stray one writes. -/
theorem valAt_text {α : Type} {w : Nat → Nat → Option α} {base : Nat → α} {D : Nat → Bool} {n j k : Nat} (hj : j ≤ n) (h1 : ∀ i, i < j → D i = true ∨ w i k = none) (h2 : ∀ i, j ≤ i → i < n → D i = false ∨ w i k = none) :
    valAt w base D n k = valAt w base (fun _ => true) j k := by
  obtain ⟨d, rfl⟩ := Nat.le.dest hj
  rw [valAt_ext j d h2]
  exact valAt_congr j (fun i hi => (h1 i hi).imp (fun h => h) id)
def withI (D : Nat → Bool) (j : Nat) : Nat → Bool := fun i => if i = j then true else D i
theorem valAt_add {α : Type} {w : Nat → Nat → Option α} {base : Nat → α} {D : Nat → Bool} {n j k : Nat} (hj : j < n) (hD : D j = false) (h : ∀ i, j < i → i < n → D i = true → w i k = none ∨ w j k = none) :
    valAt w base (withI D j) n k = (w j k).getD (valAt w base D n k) := by
  cases hw : w j k with
  | none =>
    simp only [Option.getD_none]
    refine valAt_congr n fun i _ => ?_
    by_cases hij : i = j
    · subst hij; exact .inr hw
    · exact .inl (by simp [withI, hij])
  | some v =>
    obtain ⟨d, rfl⟩ := Nat.le.dest (Nat.succ_le_of_lt hj)
    rw [valAt_ext (j + 1) d]
    · simp [valAt, withI, hw]
    · intro i h1 h2
      by_cases hDi : D i = true
      · rcases h i (by omega) (by omega) hDi with h3 | h3
        · exact .inr h3
        · rw [hw] at h3; cases h3
      · refine .inl ?_
        have : i ≠ j := by omega
        simpa [withI, this] using hDi

variable {Ty : Type} {El : Ty → Type} {C : Cod Ty El} {P : Program}

def lastOf : List (Nat × AObj Ty El) → Nat → Option (AObj Ty El)
  | [], _ => none
  | (r, o) :: ws, k => match lastOf ws k with
    | some x => some x
    | none => if k = r then some o else none
theorem updH_last : ∀ (ws : List (Nat × AObj Ty El)) (hp : Nat → AObj Ty El) (k : Nat), updH hp ws k = (lastOf ws k).getD (hp k)
  | [], _, _ => rfl
  | (r, o) :: ws, hp, k => by
    simp only [updH, lastOf]
    rw [updH_last ws _ k]
    cases lastOf ws k with
    | some x => rfl
    | none => by_cases h : k = r <;> simp [setH, h]
theorem lastOf_none {ws : List (Nat × AObj Ty El)} {k : Nat} (h : k ∉ ws.map (·.1)) : lastOf ws k = none := by
  induction ws with
  | nil => rfl
  | cons p ws ih =>
    obtain ⟨r, o⟩ := p
    simp only [List.map_cons, List.mem_cons, not_or] at h
    simp only [lastOf, ih h.2, if_neg h.1]

/-- The writes of a trace. -/
def wT (n : Nat) (ops : List Oper) (es : List (Ev Ty El)) (i t : Nat) : Option (AV Ty El) :=
  match ops[i]?, es[i]? with
  | some o, some e => if o.dst = some t ∧ t < n then some e.v else none
  | _, _ => none
def wH (es : List (Ev Ty El)) (i k : Nat) : Option (AObj Ty El) :=
  match es[i]? with
  | some e => lastOf e.wr k
  | none => none
theorem wT_upd {n : Nat} {ops : List Oper} {es : List (Ev Ty El)} {i : Nat} {o : Oper} {e : Ev Ty El} (ho : ops[i]? = some o) (he : es[i]? = some e) (tm : Nat → AV Ty El) (t : Nat) :
    updT n tm o.dst e.v t = (wT n ops es i t).getD (tm t) := by
  simp only [wT, ho, he]
  cases hd : o.dst with
  | none => simp [updT]
  | some d =>
    simp only [updT, Option.some.injEq]
    by_cases h : t = d
    · subst h
      by_cases h2 : t < n <;> simp [h2]
    · rw [if_neg (fun hh => h hh.1), if_neg (fun hh => h hh.1.symm)]; rfl
theorem wH_upd {es : List (Ev Ty El)} {i : Nat} {e : Ev Ty El} (he : es[i]? = some e) (hp : Nat → AObj Ty El) (k : Nat) : updH hp e.wr k = (wH es i k).getD (hp k) := by
  simp only [wH, he]; exact updH_last _ _ _

def freshAt (E : Tab Ty El) (f0 : Nat) : List Oper → Nat → Nat
  | _, 0 => f0
  | [], _ + 1 => f0
  | o :: os, i + 1 => freshAt E (f0 + needOf E o) os i

/-- A trace, read at one place. -/
theorem Trace.at {E : Tab Ty El} {all : List Oper} {n : Nat} {tm' : Nat → AV Ty El} {hp' : Nat → AObj Ty El} : ∀ {os : List Oper} {f : Nat} {tm : Nat → AV Ty El} {hp : Nat → AObj Ty El} {es : List (Ev Ty El)},
    Trace P C E all n os f tm hp es tm' hp' → es.length = os.length ∧
      (∀ i o, os[i]? = some o → ∃ e, es[i]? = some e ∧ stepF P C E all o (freshAt E f os i) (valAt (wT n os es) tm (fun _ => true) i) (valAt (wH es) hp (fun _ => true) i) = some e) ∧
      tm' = valAt (wT n os es) tm (fun _ => true) os.length ∧ hp' = valAt (wH es) hp (fun _ => true) os.length := by
  intro os f tm hp es h
  induction h with
  | nil => exact ⟨rfl, fun i o h => by simp at h, rfl, rfl⟩
  | @cons o os fresh tm hp e es tm' hp' hs ht ih =>
    obtain ⟨h1, h2, h3, h4⟩ := ih
    have kT : ∀ i, valAt (wT n (o :: os) (e :: es)) tm (fun _ => true) (i + 1) = valAt (wT n os es) (updT n tm o.dst e.v) (fun _ => true) i := by
      intro i
      funext t
      induction i with
      | zero => simp only [valAt]; rw [wT_upd (ops := o :: os) (es := e :: es) (i := 0) rfl rfl]
      | succ i ih => rw [valAt, ih]; simp only [valAt]; rfl
    have kH : ∀ i, valAt (wH (e :: es)) hp (fun _ => true) (i + 1) = valAt (wH es) (updH hp e.wr) (fun _ => true) i := by
      intro i
      funext t
      induction i with
      | zero => simp only [valAt]; rw [wH_upd (es := e :: es) (i := 0) rfl]
      | succ i ih => rw [valAt, ih]; simp only [valAt]; rfl
    refine ⟨by simp [h1], fun i o' ho => ?_, ?_, ?_⟩
    · cases i with
      | zero =>
        simp only [List.getElem?_cons_zero, Option.some.injEq] at ho
        subst ho
        exact ⟨e, rfl, hs⟩
      | succ i =>
        obtain ⟨e', he', hs'⟩ := h2 i o' (by simpa using ho)
        refine ⟨e', by simpa using he', ?_⟩
        rw [kT, kH]; exact hs'
    · rw [List.length_cons, kT]; exact h3
    · rw [List.length_cons, kH]; exact h4
end
end Lx
/- A region whose order is drawn, second part: the check that no two stray ones meet, and the region itself. -/
set_option linter.unusedVariables false
set_option linter.unusedSimpArgs false
namespace Lx
open Go
section
variable {Ty : Type} {El : Ty → Type} {C : Cod Ty El} {P : Program}

theorem stepF_congr {E : Tab Ty El} {all : List Oper} {o : Oper} {fresh : Nat} {tm tm' : Nat → AV Ty El} {hp hp' : Nat → AObj Ty El} {e : Ev Ty El} (h : stepF P C E all o fresh tm hp = some e)
    (ht : ∀ t ∈ looks all o, tm' t = tm t) (hh : ∀ k ∈ e.rd, hp' k = hp k) : stepF P C E all o fresh tm' hp' = some e := by
  have hops : ∀ x ∈ o.op.operands.toList, evalO tm' x = evalO tm x := fun x hx => evalO_congr fun t e => ht t (by
    subst e
    exact List.mem_append_left _ (List.mem_filterMap.2 ⟨_, hx, rfl⟩))
  have hw : wantA all o tm' = wantA all o tm := by
    unfold wantA
    cases hg : o.guard with
    | none => rfl
    | some p =>
      obtain ⟨j, want⟩ := p
      simp only
      cases hj : all[j]? with
      | none => rfl
      | some oj =>
        simp only
        cases hd : oj.dst with
        | none => rfl
        | some d => simp only; rw [ht d (List.mem_append_right _ (by simp [hg, hj, hd]))]
  unfold stepF at h ⊢
  rw [hw]
  split at h
  · unfold doF at h ⊢
    split at h
    · rename_i c a b hop
      rw [hop] at hops
      have h1 := hops c (by simp [Op.operands])
      have h2 := hops a (by simp [Op.operands])
      have h3 := hops b (by simp [Op.operands])
      simp only [h1]
      split at h
      · rename_i t hc
        simp only [Option.some.injEq] at h
        subst h
        cases t <;> simp [h2, h3]
      · cases h
    · split at h
      · cases h
      · rename_i r hr
        split at h
        · rename_i hg
          simp only [Option.some.injEq] at h
          subst h
          have hr' : opF P C E o fresh tm' hp' = some r := opF_hp ((opF_tm hops).trans hr) hh
          simp only [hr', hg, if_true]
        · cases h
  · exact h
  · cases h

theorem edgesBack_spec : ∀ {os : List Oper} {k : Nat}, edgesBack os k = true → ∀ i o, os[i]? = some o → ∀ e ∈ o.after, Region.binds .any e = true → e.on < k + i
  | [], _, _, i, o, h => by simp at h
  | o0 :: os, k, hb, i, o, ho => by
    simp only [edgesBack, Bool.and_eq_true, List.all_eq_true] at hb
    cases i with
    | zero =>
      simp only [List.getElem?_cons_zero, Option.some.injEq] at ho
      subst ho
      intro e he hbd
      have := hb.1 e (by simpa using he)
      simpa [hbd] using this
    | succ i =>
      intro e he hbd
      have := edgesBack_spec hb.2 i o (by simpa using ho) e he hbd
      omega

theorem ancs_pre : ∀ (os : List Oper) (acc : List Nat), ∃ r, ancs os acc = acc ++ r
  | [], acc => ⟨[], by simp [ancs]⟩
  | o :: os, acc => by
    obtain ⟨r, h⟩ := ancs_pre os (acc ++ [ancOf acc o.after.toList])
    exact ⟨_, by simp only [ancs]; rw [h, List.append_assoc]⟩
theorem ancs_at : ∀ (os : List Oper) (acc : List Nat) (i : Nat) (o : Oper), os[i]? = some o →
    (ancs os acc).getD (acc.length + i) 0 = ancOf ((ancs os acc).take (acc.length + i)) o.after.toList
  | [], _, i, o, h => by simp at h
  | o0 :: os, acc, i, o, h => by
    cases i with
    | zero =>
      simp only [List.getElem?_cons_zero, Option.some.injEq] at h
      subst h
      obtain ⟨r, hr⟩ := ancs_pre os (acc ++ [ancOf acc o0.after.toList])
      simp only [ancs]
      rw [hr]
      simp
    | succ i =>
      have := ancs_at os (acc ++ [ancOf acc o0.after.toList]) i o (by simpa using h)
      simp only [ancs]
      simp only [List.length_append, List.length_singleton] at this
      have e : acc.length + (i + 1) = acc.length + 1 + i := by omega
      rw [e]
      exact this
theorem ancOf_bit {acc : List Nat} {i : Nat} : ∀ {es : List Edge}, (ancOf acc es).testBit i = true → ∃ e ∈ es, Region.binds .any e = true ∧ (e.on = i ∨ (acc.getD e.on 0).testBit i = true)
  | [], h => by simp [ancOf] at h
  | e :: es, h => by
    simp only [ancOf] at h
    split at h
    · rename_i hb
      simp only [Nat.testBit_or, Bool.or_eq_true] at h
      rcases h with (h | h) | h
      · rw [Nat.testBit_two_pow] at h
        exact ⟨e, by simp, hb, .inl (by simpa using h)⟩
      · exact ⟨e, by simp, hb, .inr h⟩
      · obtain ⟨e', h1, h2⟩ := ancOf_bit h
        exact ⟨e', by simp [h1], h2⟩
    · obtain ⟨e', h1, h2⟩ := ancOf_bit h
      exact ⟨e', by simp [h1], h2⟩

def Down (ops : List Oper) (D : Nat → Bool) : Prop := ∀ i, D i = true → ∀ o, ops[i]? = some o → ∀ e ∈ o.after, Region.binds .any e = true → D e.on = true
theorem anc_in {ops : List Oper} {D : Nat → Bool} (hb : edgesBack ops 0 = true) (hD : Down ops D) : ∀ (j : Nat) (o : Oper), ops[j]? = some o → (∀ e ∈ o.after, Region.binds .any e = true → D e.on = true) →
    ∀ i, ((ancs ops []).getD j 0).testBit i = true → D i = true := by
  intro j
  induction j using Nat.strongRecOn with
  | ind j ih =>
    intro o ho hall i hi
    have := ancs_at ops [] j o ho
    simp only [List.length_nil, Nat.zero_add] at this
    rw [this] at hi
    obtain ⟨e, he, hbd, h⟩ := ancOf_bit hi
    have he' : e ∈ o.after := by simpa using he
    have hlt : e.on < j := by simpa using edgesBack_spec hb j o ho e he' hbd
    have hDe := hall e he' hbd
    rcases h with h | h
    · rw [← h]; exact hDe
    · have hjl : j < ops.length := (List.getElem?_eq_some_iff.1 ho).1
      have h' : ((ancs ops []).getD e.on 0).testBit i = true := by
        rw [List.getD_eq_getElem?_getD, List.getElem?_take, if_pos hlt, ← List.getD_eq_getElem?_getD] at h
        exact h
      exact ih e.on hlt _ (List.getElem?_eq_getElem (Nat.lt_trans hlt hjl)) (fun e2 he2 hb2 => hD e.on hDe _ (List.getElem?_eq_getElem (Nat.lt_trans hlt hjl)) e2 he2 hb2) i h'

theorem pairs_spec {all : List Oper} {an : Nat} {y : Oper} {ly : Log} : ∀ {l : List (Oper × Log)} {k : Nat}, pairs all an y ly l k = true → ∀ i p, l[i]? = some p → an.testBit (k + i) = true ∨ apartO all p.1 y p.2 ly = true
  | [], _, _, i, p, h => by simp at h
  | (x, lx) :: l, k, hp, i, p, h => by
    simp only [pairs, Bool.and_eq_true, Bool.or_eq_true] at hp
    cases i with
    | zero => simp only [List.getElem?_cons_zero, Option.some.injEq] at h; subst h; exact hp.1
    | succ i =>
      have := pairs_spec hp.2 i p (by simpa using h)
      have e : k + (i + 1) = k + 1 + i := by omega
      rw [e]; exact this
theorem confGo_spec {all : List Oper} {an : List Nat} : ∀ {l done : List (Oper × Log)} {j : Nat}, done.length = j → confGo all an done l j = true → ∀ i k p q, i < k → (done ++ l)[i]? = some p → (done ++ l)[k]? = some q → j ≤ k →
    (an.getD k 0).testBit i = true ∨ apartO all p.1 q.1 p.2 q.2 = true
  | [], done, j, hj, h, i, k, p, q, hik, hp, hq, hjk => by
    have : k < (done ++ []).length := (List.getElem?_eq_some_iff.1 hq).1
    simp at this; omega
  | (y, ly) :: l, done, j, hj, h, i, k, p, q, hik, hp, hq, hjk => by
    simp only [confGo, Bool.and_eq_true] at h
    by_cases hk : k = j
    · subst hk
      rw [List.getElem?_append_right (by omega)] at hq
      simp only [hj, Nat.sub_self, List.getElem?_cons_zero, Option.some.injEq] at hq
      subst hq
      rw [List.getElem?_append_left (by omega)] at hp
      have := pairs_spec h.1 i p hp
      simpa using this
    · have e : done ++ (y, ly) :: l = (done ++ [(y, ly)]) ++ l := by simp
      rw [e] at hp hq
      exact confGo_spec (by simp [hj]) h.2 i k p q hik hp hq (by omega)

theorem disj_spec {a b : List Nat} (h : disj a b = true) : ∀ x ∈ a, x ∉ b := by
  intro x hx hb
  simp only [disj, List.all_eq_true, Bool.not_eq_true', List.contains_eq_mem, decide_eq_false_iff_not] at h
  exact h x hx hb

structure Apart (all : List Oper) (x y : Oper) (ex ey : Ev Ty El) : Prop where
  look : ∀ d, x.dst = some d → d ∉ looks all y
  dst : ∀ d, x.dst = some d → y.dst ≠ some d
  look' : ∀ d, y.dst = some d → d ∉ looks all x
  wrrd : ∀ k ∈ ex.wr.map (·.1), k ∉ ey.rd
  wrwr : ∀ k ∈ ex.wr.map (·.1), k ∉ ey.wr.map (·.1)
  rdwr : ∀ k ∈ ey.wr.map (·.1), k ∉ ex.rd
theorem apartO_spec {all : List Oper} {x y : Oper} {ex ey : Ev Ty El} (h : apartO all x y ex.log ey.log = true) : Apart all x y ex ey := by
  simp only [apartO, Bool.and_eq_true, Ev.log] at h
  obtain ⟨h1, h2, h3, h4, h5, h6⟩ := h
  refine ⟨fun d hd => disj_spec h1 d (by simp [hd]), fun d hd hy => ?_, fun d hd => disj_spec h3 d (by simp [hd]), disj_spec h4, disj_spec h5, disj_spec h6⟩
  exact disj_spec h2 d (by simp [hd]) (by simp [hy])

theorem conf_spec {ops : List Oper} {es : List (Ev Ty El)} (h : confOk ops (es.map Ev.log) = true) : es.length = ops.length ∧ edgesBack ops 0 = true ∧
    ∀ i k x y ex ey, i < k → ops[i]? = some x → ops[k]? = some y → es[i]? = some ex → es[k]? = some ey → ((ancs ops []).getD k 0).testBit i = true ∨ Apart ops x y ex ey := by
  simp only [confOk, Bool.and_eq_true, decide_eq_true_eq, List.length_map] at h
  refine ⟨h.1, h.2.1, fun i k x y ex ey hik hx hy hex hey => ?_⟩
  have zip : ∀ i (x : Oper) (ex : Ev Ty El), ops[i]? = some x → es[i]? = some ex → (ops.zip (es.map Ev.log))[i]? = some (x, ex.log) := fun i x ex hx hex => by
    rw [List.getElem?_zip_eq_some]; exact ⟨hx, by rw [List.getElem?_map, hex]; rfl⟩
  rcases confGo_spec (done := []) rfl h.2.2 i k _ _ hik (zip i x ex hx hex) (zip k y ey hy hey) (Nat.zero_le _) with h1 | h1
  · exact .inl h1
  · exact .inr (apartO_spec h1)
end
end Lx
/- A region whose order is drawn, last part: any order does what the text's order does. -/
set_option linter.unusedVariables false
set_option linter.unusedSimpArgs false
namespace Lx
open Go
section
variable {Ty : Type} {El : Ty → Type} {C : Cod Ty El} {P : Program}

def cntU (D : Nat → Bool) : Nat → Nat
  | 0 => 0
  | n + 1 => cntU D n + if D n then 0 else 1
theorem cntU_zero {D : Nat → Bool} : ∀ {n : Nat}, cntU D n = 0 → ∀ i, i < n → D i = true
  | n + 1, h, i, hi => by
    simp only [cntU] at h
    by_cases hin : i = n
    · subst hin
      cases hD : D i with
      | true => rfl
      | false => simp [hD] at h
    · exact cntU_zero (n := n) (by omega) i (by omega)
theorem cntU_out {D : Nat → Bool} {j : Nat} : ∀ {n : Nat}, n ≤ j → cntU (withI D j) n = cntU D n
  | 0, _ => rfl
  | n + 1, h => by
    have : n ≠ j := by omega
    simp only [cntU, cntU_out (D := D) (j := j) (n := n) (by omega)]
    simp only [withI, if_neg this]
theorem cntU_in {D : Nat → Bool} {j : Nat} (hD : D j = false) : ∀ {n : Nat}, j < n → cntU (withI D j) n + 1 = cntU D n
  | n + 1, h => by
    by_cases hjn : j = n
    · subst hjn
      simp only [cntU, cntU_out (Nat.le_refl _), hD]
      simp [withI]
    · have ih := cntU_in hD (n := n) (by omega)
      have : n ≠ j := fun e => hjn e.symm
      simp only [cntU, withI, if_neg this] at *
      omega

theorem listed_with {l : Array Bool} {j : Nat} (hj : j < l.size) : (fun i => (l.setIfInBounds j true).getD i false) = withI (fun i => l.getD i false) j := by
  funext i
  simp only [withI]
  by_cases h : i = j
  · subst h; simp [hj]
  · simp [h, Array.getElem?_setIfInBounds_ne (Ne.symm h)]

theorem freshAt_mono {E : Tab Ty El} : ∀ {os : List Oper} {f : Nat} {i j : Nat} {o : Oper}, os[i]? = some o → i < j → freshAt E f os i + needOf E o ≤ freshAt E f os j
  | [], _, i, _, o, h, _ => by simp at h
  | o0 :: os, f, i, j, o, h, hij => by
    cases j with
    | zero => omega
    | succ j =>
      cases i with
      | zero =>
        simp only [List.getElem?_cons_zero, Option.some.injEq] at h
        subst h
        simp only [freshAt]
        have : ∀ (os : List Oper) (f j : Nat), f ≤ freshAt E f os j := by
          intro os
          induction os with
          | nil => intro f j; cases j <;> simp [freshAt]
          | cons o os ih => intro f j; cases j with
            | zero => simp [freshAt]
            | succ j => simp only [freshAt]; exact Nat.le_trans (Nat.le_add_right _ _) (ih _ _)
        exact this _ _ _
      | succ i => exact freshAt_mono (os := os) (f := f + needOf E o0) (i := i) (j := j) (by simpa using h) (by omega)
theorem freshAt_ge {E : Tab Ty El} : ∀ (os : List Oper) (f j : Nat), f ≤ freshAt E f os j := by
  intro os
  induction os with
  | nil => intro f j; cases j <;> simp [freshAt]
  | cons o os ih => intro f j; cases j with
    | zero => simp [freshAt]
    | succ j => simp only [freshAt]; exact Nat.le_trans (Nat.le_add_right _ _) (ih _ _)

section
variable {E : Tab Ty El} {n : Nat} {os : List Oper} {f : Nat} {tm : Nat → AV Ty El} {hp : Nat → AObj Ty El} {es : List (Ev Ty El)}

/-- A name of one operation's own range is there only once that operation made it. -/
theorem range_only (hat : ∀ i o, os[i]? = some o → ∃ e, es[i]? = some e ∧ stepF P C E os o (freshAt E f os i) (valAt (wT n os es) tm (fun _ => true) i) (valAt (wH es) hp (fun _ => true) i) = some e)
    (hlen : es.length = os.length) (hfr : ∀ k, f ≤ k → hp k = .gone) {j : Nat} {oj : Oper} (hj : os[j]? = some oj) {k : Nat} (hk1 : freshAt E f os j ≤ k) (hk2 : k < freshAt E f os j + needOf E oj) :
    ∀ i, i ≤ os.length → valAt (wH es) hp (fun _ => true) i k ≠ .gone → j < i ∧ ∃ ej, es[j]? = some ej ∧ k ∈ ej.wr.map (·.1) := by
  intro i
  induction i with
  | zero =>
    intro _ h
    exact absurd (hfr k (Nat.le_trans (freshAt_ge _ _ _) hk1)) h
  | succ i ih =>
    intro hi h
    have hio : os[i]? = some os[i] := List.getElem?_eq_getElem (by omega)
    obtain ⟨e, he, hs⟩ := hat i _ hio
    by_cases hkey : k ∈ e.wr.map (·.1)
    · rcases stepF_keys hs k hkey with h1 | h1
      · obtain ⟨h2, h3⟩ := ih (by omega) h1
        exact ⟨by omega, h3⟩
      · have : i = j := by
          rcases Nat.lt_trichotomy i j with h4 | h4 | h4
          · have := freshAt_mono (E := E) (f := f) hio h4; omega
          · exact h4
          · have := freshAt_mono (E := E) (f := f) hj h4; omega
        subst this
        exact ⟨by omega, e, he, hkey⟩
    · simp only [valAt] at h
      rw [show wH es i k = none from by simp only [wH, he]; exact lastOf_none hkey] at h
      obtain ⟨h2, h3⟩ := ih (by omega) h
      exact ⟨by omega, h3⟩
end

theorem wT_none {n : Nat} {ops : List Oper} {es : List (Ev Ty El)} {i t : Nat} (h : ∀ o, ops[i]? = some o → o.dst ≠ some t) : wT n ops es i t = none := by
  unfold wT
  split
  · rename_i o e ho he
    rw [if_neg (fun hh => h o ho hh.1)]
  · rfl
theorem wH_none {es : List (Ev Ty El)} {i k : Nat} (h : ∀ e, es[i]? = some e → k ∉ e.wr.map (·.1)) : wH es i k = none := by
  unfold wH
  split
  · rename_i e he; exact lastOf_none (h e he)
  · rfl
theorem wT_some {n : Nat} {ops : List Oper} {es : List (Ev Ty El)} {i t : Nat} {x : AV Ty El} (h : wT n ops es i t = some x) : ∃ o, ops[i]? = some o ∧ o.dst = some t := by
  unfold wT at h
  split at h
  · rename_i o e ho he
    split at h
    · rename_i hh; exact ⟨o, ho, hh.1⟩
    · cases h
  · cases h
theorem wH_some {es : List (Ev Ty El)} {i k : Nat} {x : AObj Ty El} (h : wH es i k = some x) : ∃ e, es[i]? = some e ∧ k ∈ e.wr.map (·.1) := by
  unfold wH at h
  split at h
  · rename_i e he
    refine ⟨e, he, Classical.byContradiction fun hn => ?_⟩
    rw [lastOf_none hn] at h; cases h
  · cases h

theorem draw_go (hC : CodOK P C) {E : Tab Ty El} (hE : TabOK P C E) {X : Cx} {ops : Array Oper} {Q : Exit → Act → World → Prop} {f : Nat} {tm tm' : Nat → AV Ty El} {hp hp' : Nat → AObj Ty El} {es : List (Ev Ty El)}
    (hout : ∀ t, X.n ≤ t → tm t = .dead) (hfr : ∀ k, f ≤ k → hp k = .gone) (ht : Trace P C E ops.toList X.n ops.toList f tm hp es tm' hp') (hconf : confOk ops.toList (es.map Ev.log) = true)
    (hQ : ∀ a w N', SimN C X N' tm' hp' a w → (∀ t, X.n ≤ t → tm' t = .dead) → Q .normal a w) :
    ∀ (fuel : Nat) (l : Array Bool) (N : Nm) (a : Act) (w : World), l.size = ops.size → cntU (fun i => l.getD i false) ops.size ≤ fuel → Down ops.toList (fun i => l.getD i false) →
      SimN C X N (valAt (wT X.n ops.toList es) tm (fun i => l.getD i false) ops.size) (valAt (wH es) hp (fun i => l.getD i false) ops.size) a w → wpAny P .any ops Q fuel l a w := by
  obtain ⟨hlen, hat, htm, hhp⟩ := ht.at
  obtain ⟨_, hback, hap⟩ := conf_spec hconf
  have hoT : ∀ D m t, X.n ≤ t → valAt (wT X.n ops.toList es) tm D m t = .dead := fun D m t h => by
    rw [valAt_base]
    · exact hout t h
    · intro i _
      refine .inr ?_
      unfold wT
      split
      · rw [if_neg (fun hh => Nat.not_le.2 hh.2 h)]
      · rfl
  have done : ∀ (l : Array Bool) (N : Nm) (a : Act) (w : World), (∀ i, i < ops.size → l.getD i false = true) →
      SimN C X N (valAt (wT X.n ops.toList es) tm (fun i => l.getD i false) ops.size) (valAt (wH es) hp (fun i => l.getD i false) ops.size) a w → Q .normal a w := by
    intro l N a w hall hS
    have e1 : valAt (wT X.n ops.toList es) tm (fun i => l.getD i false) ops.size = tm' := by
      rw [htm]; funext t; exact valAt_congr _ (fun i hi => .inl (hall i hi))
    have e2 : valAt (wH es) hp (fun i => l.getD i false) ops.size = hp' := by
      rw [hhp]; funext t; exact valAt_congr _ (fun i hi => .inl (hall i hi))
    rw [e1, e2] at hS
    exact hQ a w N hS (fun t h => e1 ▸ hoT _ _ t h)
  have some_ready : ∀ (l : Array Bool), l.size = ops.size → Region.ready .any ops l = [] → ∀ i, i < ops.size → l.getD i false = true := by
    intro l hl hr i
    induction i using Nat.strongRecOn with
    | ind i ih =>
      intro hi
      refine Classical.byContradiction fun hn => ?_
      have : i ∈ Region.ready .any ops l := by
        rw [mem_ready]
        have hli : i < l.size := hl ▸ hi
        refine ⟨?_, ops[i], Array.getElem?_eq_getElem hi, fun e he hb => ?_⟩
        · simp [hli] at hn ⊢; exact hn
        · have hlt : e.on < i := by simpa using edgesBack_spec hback i ops[i] (by simp [hi]) e he hb
          exact ih e.on hlt (Nat.lt_trans hlt hi)
      rw [hr] at this
      cases this
  intro fuel
  induction fuel with
  | zero =>
    intro l N a w hl hcnt hdown hS
    have hall := cntU_zero (Nat.le_zero.1 hcnt)
    refine ⟨?_, done l N a w hall hS⟩
    refine List.eq_nil_iff_forall_not_mem.2 fun j hj => ?_
    obtain ⟨h1, o, ho, _⟩ := mem_ready.1 hj
    have hjl : j < ops.size := (Array.getElem?_eq_some_iff.1 ho).1
    have := hall j hjl
    have hli : j < l.size := hl ▸ hjl
    simp [hli] at h1 this
    rw [h1] at this; cases this
  | succ fuel ih =>
    intro l N a w hl hcnt hdown hS
    refine ⟨fun hr => done l N a w (some_ready l hl hr) hS, fun j hj => ?_⟩
    obtain ⟨h1, oj, hoj, hall⟩ := mem_ready.1 hj
    have hjl : j < ops.size := (Array.getElem?_eq_some_iff.1 hoj).1
    have hli : j < l.size := hl ▸ hjl
    have hDj : l.getD j false = false := by simp [hli] at h1 ⊢; exact h1
    have hojL : ops.toList[j]? = some oj := by rw [Array.getElem?_toList]; exact hoj
    obtain ⟨ej, hej, hs⟩ := hat j oj hojL
    have hancD := anc_in hback hdown j oj hojL hall

    have early : ∀ i oi ei, i < j → l.getD i false ≠ true → ops.toList[i]? = some oi → es[i]? = some ei → Apart ops.toList oi oj ei ej := fun i oi ei hij hDi hoi hei => by
      rcases hap i j oi oj ei ej hij hoi hojL hei hej with h | h
      · exact absurd (hancD i h) hDi
      · exact h
    have late : ∀ i oi ei, j < i → l.getD i false = true → ops.toList[i]? = some oi → es[i]? = some ei → Apart ops.toList oj oi ej ei := fun i oi ei hij hDi hoi hei => by
      rcases hap j i oj oi ej ei hij hojL hoi hej hei with h | h
      · have := anc_in hback hdown i oi hoi (fun e he hb => hdown i hDi oi hoi e he hb) j h
        rw [hDj] at this; cases this
      · exact h
    have other : ∀ i, i ≠ j → l.getD i false = true ∧ i < j ∨ l.getD i false ≠ true ∧ j < i ∨ (∀ oi ei, ops.toList[i]? = some oi → es[i]? = some ei → Apart ops.toList oi oj ei ej ∨ Apart ops.toList oj oi ej ei) := by
      intro i hij
      rcases Nat.lt_or_gt_of_ne hij with h | h
      · by_cases hD : l.getD i false = true
        · exact .inl ⟨hD, h⟩
        · exact .inr (.inr fun oi ei hoi hei => .inl (early i oi ei h hD hoi hei))
      · by_cases hD : l.getD i false = true
        · exact .inr (.inr fun oi ei hoi hei => .inr (late i oi ei h hD hoi hei))
        · exact .inr (.inl ⟨hD, h⟩)
    have esome : ∀ i, i < ops.size → ∃ oi ei, ops.toList[i]? = some oi ∧ es[i]? = some ei := fun i hi => by
      have hoi : ops.toList[i]? = some ops[i] := by simp [hi]
      obtain ⟨ei, hei, _⟩ := hat i _ hoi
      exact ⟨_, ei, hoi, hei⟩
    have eT : ∀ t ∈ looks ops.toList oj, valAt (wT X.n ops.toList es) tm (fun i => l.getD i false) ops.size t = valAt (wT X.n ops.toList es) tm (fun _ => true) j t := by
      intro t htl
      refine valAt_text (Nat.le_of_lt hjl) (fun i hi => ?_) (fun i hi hin => ?_)
      · by_cases hD : l.getD i false = true
        · exact .inl hD
        · refine .inr (wT_none fun oi hoi hd => ?_)
          obtain ⟨_, ei, _, hei⟩ := esome i (Nat.lt_trans hi hjl)
          exact (early i oi ei hi hD hoi hei).look t hd htl
      · by_cases hij : i = j
        · subst hij; exact .inl hDj
        · by_cases hD : l.getD i false = true
          · refine .inr (wT_none fun oi hoi hd => ?_)
            obtain ⟨_, ei, _, hei⟩ := esome i hin
            exact (late i oi ei (by omega) hD hoi hei).look' t hd htl
          · exact .inl (by simpa using hD)
    have eH : ∀ k ∈ ej.rd, valAt (wH es) hp (fun i => l.getD i false) ops.size k = valAt (wH es) hp (fun _ => true) j k := by
      intro k hk
      refine valAt_text (Nat.le_of_lt hjl) (fun i hi => ?_) (fun i hi hin => ?_)
      · by_cases hD : l.getD i false = true
        · exact .inl hD
        · refine .inr (wH_none fun ei hei hmem => ?_)
          obtain ⟨oi, _, hoi, _⟩ := esome i (Nat.lt_trans hi hjl)
          exact (early i oi ei hi hD hoi hei).wrrd k hmem hk
      · by_cases hij : i = j
        · subst hij; exact .inl hDj
        · by_cases hD : l.getD i false = true
          · refine .inr (wH_none fun ei hei hmem => ?_)
            obtain ⟨oi, _, hoi, _⟩ := esome i hin
            exact (late i oi ei (by omega) hD hoi hei).rdwr k hmem hk
          · exact .inl (by simpa using hD)
    have hs' := stepF_congr hs eT eH
    have hnew : ∀ k, k < needOf E oj → valAt (wH es) hp (fun i => l.getD i false) ops.size (freshAt E f ops.toList j + k) = .gone := by
      intro k hk
      rw [valAt_base]
      · exact hfr _ (Nat.le_trans (freshAt_ge _ _ _) (Nat.le_add_right _ _))
      · intro i hi
        by_cases hD : l.getD i false = true
        · refine .inr (wH_none fun ei hei hmem => ?_)
          obtain ⟨oi, _, hoi, _⟩ := esome i hi
          obtain ⟨ei', hei', hsi⟩ := hat i oi hoi
          rw [hei] at hei'
          obtain rfl := Option.some.inj hei'
          have hne : i ≠ j := fun e => by subst e; rw [hDj] at hD; cases hD
          rcases stepF_keys hsi _ hmem with h | h
          · obtain ⟨hji, ej', hej', hmem'⟩ := range_only hat hlen hfr hojL (k := freshAt E f ops.toList j + k) (Nat.le_add_right _ _) (by omega) i (by simp; omega) h
            rw [hej] at hej'
            obtain rfl := Option.some.inj hej'
            exact (late i oi ei hji hD hoi hei).wrwr _ hmem' hmem
          · rcases Nat.lt_or_gt_of_ne hne with h4 | h4
            · have := freshAt_mono (E := E) (f := f) hoi h4; omega
            · have := freshAt_mono (E := E) (f := f) hojL h4; omega
        · exact .inl (by simpa using hD)
    refine step_sound hC hE hS (hoT _ _) hoj hs' hnew fun v N' w' hS' => ?_
    have hw := listed_with hli
    have e1 : valAt (wT X.n ops.toList es) tm (fun i => (l.setIfInBounds j true).getD i false) ops.size = updT X.n (valAt (wT X.n ops.toList es) tm (fun i => l.getD i false) ops.size) oj.dst ej.v := by
      rw [hw]; funext t
      rw [wT_upd (ops := ops.toList) (es := es) hojL hej]
      refine valAt_add hjl hDj fun i hi hin hD => ?_
      cases hwi : wT X.n ops.toList es i t with
      | none => exact .inl rfl
      | some x =>
        refine .inr (wT_none fun o ho hd => ?_)
        rw [hojL] at ho
        obtain rfl := Option.some.inj ho
        obtain ⟨oi, hoi, hdi⟩ := wT_some hwi
        obtain ⟨_, ei, _, hei⟩ := esome i hin
        exact (late i oi ei hi hD hoi hei).dst t hd hdi
    have e2 : valAt (wH es) hp (fun i => (l.setIfInBounds j true).getD i false) ops.size = updH (valAt (wH es) hp (fun i => l.getD i false) ops.size) ej.wr := by
      rw [hw]; funext t
      rw [wH_upd (es := es) hej]
      refine valAt_add hjl hDj fun i hi hin hD => ?_
      cases hwi : wH es i t with
      | none => exact .inl rfl
      | some x =>
        refine .inr (wH_none fun e he hmem => ?_)
        rw [hej] at he
        obtain rfl := Option.some.inj he
        obtain ⟨ei, hei, hmi⟩ := wH_some hwi
        obtain ⟨oi, _, hoi, _⟩ := esome i hin
        exact (late i oi ei hi hD hoi hei).wrwr t hmem hmi
    rw [← e1, ← e2] at hS'
    refine ih _ N' _ w' (by simp [hl]) ?_ ?_ hS'
    · rw [hw]
      have := cntU_in (D := fun i => l.getD i false) hDj hjl
      omega
    · rw [hw]
      intro i hi o ho e he hb
      simp only [withI] at hi ⊢
      split
      · rfl
      · split at hi
        · rename_i h _ h2
          subst h2
          rw [hojL] at ho
          obtain rfl := Option.some.inj ho
          exact hall e he hb
        · exact hdown i hi o ho e he hb

theorem SimN.drew (hC : CodOK P C) {X : Cx} {N : Nm} {tm : Nat → AV Ty El} {hp : Nat → AObj Ty El} {a : Act} {w : World} (h : SimN C X N tm hp a w) (k : Nat) : SimN C X N tm hp a { w with drawn := k } := by
  have hL : Le N N w { w with drawn := k } := ⟨fun _ _ _ _ h => h, fun _ h => h, fun _ _ => rfl⟩
  have hs : ∀ r, SameN N N r := fun r => ⟨rfl, fun _ => Iff.rfl, fun _ _ _ => Iff.rfl⟩
  exact ⟨⟨fun r => (h.hr.obj r).mono hC hL (hs r) (fun _ _ => rfl), fun r p v u hg => refOK.mono (w' := { w with drawn := k }) hC (h.hr.obj r) (fun _ _ => rfl) (h.hr.reg r p v u hg), fun r => fullOK.mono hC (h.hr.obj r) (hs r) (fun _ _ => rfl) (h.hr.full r), h.hr.one, h.hr.dist, h.hr.roNot, h.hr.roLt⟩,
    fun t ht => (h.tmps t ht).mono hL, h.size, h.defers, ⟨h.fr.os, h.fr.tape, h.fr.output, h.fr.size, h.fr.block⟩, h.live, h.io, h.nog, h.roI, h.roO⟩

/-- A region, drawn or not. -/
theorem region_sound (hC : CodOK P C) (hmix : P.follows .mixedOrders = true) {E : Tab Ty El} (hE : TabOK P C E) {X : Cx} {N : Nm} {id : Nat} {ops : Array Oper} {draw : Bool} {K : St Ty El → List Log → Option (Leaf Ty El)} {lf : Leaf Ty El} {s : St Ty El} {a : Act} {w : World}
    (hS : SimN C X N s.tmF s.hpF a w) (hn : s.tm.length = X.n)
    (h : runOps P C E ops.toList ops.toList s.hp.length s [] (fun s lg => if draw then (if confOk ops.toList lg then K s lg else none) else K s lg) = some lf) {Q : Exit → Act → World → Prop}
    (hQ : ∀ a w N' s' lg, s'.tm.length = X.n → SimN C X N' s'.tmF s'.hpF a w → K s' lg = some lf → Q .normal a w) : (Code.region id ops draw).wp P Q a w := by
  obtain ⟨es, s', h1, h2, h3⟩ := runOps_trace _ _ _ _ h
  have hout : ∀ t, X.n ≤ t → s.tmF t = .dead := fun t ht => by
    have : s.tm.length ≤ t := hn ▸ ht
    simp [St.tmF, this]
  have hfr : ∀ k, s.hp.length ≤ k → s.hpF k = .gone := fun k hk => by simp [St.hpF, hk]
  rw [hn] at h2
  cases draw with
  | false =>
    simp only [Bool.false_eq_true, if_false] at h3
    refine wp_region ?_
    have := trace_text hC hE (Q := Q) ops.toList 0 _ N _ _ _ a w rfl hS hout hfr h2 (fun a w N' hS' _ => hQ a w N' s' _ (h1.trans hn) hS' h3)
    rw [List.range_eq_range']
    simpa using this
  | true =>
    simp only [if_true] at h3
    split at h3
    · rename_i hc
      refine wp_region_any hmix ?_
      refine draw_go hC hE hout hfr h2 (by simpa using hc) (fun a w N' hS' _ => hQ a w N' s' _ (h1.trans hn) hS' h3) _ _ N a _ (by simp) ?_ ?_ ?_
      · have : ∀ (D : Nat → Bool) n, cntU D n ≤ n := fun D n => by
          induction n with
          | zero => simp [cntU]
          | succ n ih => simp only [cntU]; split <;> omega
        exact this _ _
      · intro i hi
        simp at hi
        exfalso
        revert hi
        by_cases hlt : i < ops.size <;> simp [hlt]
      · have hD : ∀ i, i < ops.size → (Array.replicate ops.size false).getD i false = false := fun i hi => by simp [hi]
        have e1 : valAt (wT X.n ops.toList es) s.tmF (fun i => (Array.replicate ops.size false).getD i false) ops.size = s.tmF := by
          funext t; exact valAt_base _ (fun i hi => .inl (hD i hi))
        have e2 : valAt (wH es) s.hpF (fun i => (Array.replicate ops.size false).getD i false) ops.size = s.hpF := by
          funext t; exact valAt_base _ (fun i hi => .inl (hD i hi))
        rw [e1, e2]
        exact hS.drew hC _
    · cases h3
end
end Lx
/- Canonical names: what a state says, the renamed one says. -/
set_option linter.unusedVariables false
set_option linter.unusedSimpArgs false
namespace Lx
open Go
section
variable {Ty : Type} {El : Ty → Type} {C : Cod Ty El} {P : Program}

theorem idxO_spec {r : Nat} : ∀ {l : List (Option Nat)} {k n : Nat}, idxO r l k = some n → k ≤ n ∧ l[n - k]? = some (some r)
  | [], k, n, h => by simp [idxO] at h
  | a :: l, k, n, h => by
    simp only [idxO] at h
    split at h
    · rename_i e
      simp only [Option.some.injEq] at h
      subst h; subst e
      simp
    · obtain ⟨h1, h2⟩ := idxO_spec h
      exact ⟨by omega, by rw [show n - k = (n - (k + 1)) + 1 by omega, List.getElem?_cons_succ]; exact h2⟩
theorem idxO_none {r : Nat} : ∀ {l : List (Option Nat)} {k : Nat}, idxO r l k = none → some r ∉ l
  | [], _, _ => by simp
  | a :: l, k, h => by
    simp only [idxO] at h
    split at h
    · cases h
    · rename_i hne
      have := idxO_none h
      simp only [List.mem_cons, not_or]
      exact ⟨fun e => hne e.symm, this⟩

/-- The names as they are told anew. -/
def canonN (N : Nm) (hp : Nat → AObj Ty El) (w : World) (C : Cod Ty El) (tab : List (Option Nat)) (os : List (AObj Ty El)) : Nm :=
  { ν := fun k => match tab[k]? with | some (some r) => N.ν r | _ => undef
    F := fun k b => match tab[k]? with | some (some r) => N.F r b | _ => False
    G := fun k p v u => match tab[k]? with | some (some r) => objG C w (N.ν r) (hpOf os k) p v u | _ => False
    ro := N.ro }

/-- A table in which no name stands twice. -/
def TabInj (tab : List (Option Nat)) : Prop := ∀ (k k' r : Nat), tab[k]? = some (some r) → tab[k']? = some (some r) → k = k'

theorem cur_inv {hp : Nat → AObj Ty El} {r : Nat} {p : Path} {v : Nat} (h : cur hp r p v = true) : ∃ T xs d vr vn, hp r = .row T xs d vr vn .no ∧ v = verAt p vr vn ∧ p.length ≤ d := by
  unfold cur at h
  split at h
  · rename_i T xs d vr vn m hr
    split at h
    · split at h
      · exact ⟨T, xs, d, vr, vn, hr, by simpa [verAt] using h, Nat.zero_le _⟩
      · rename_i hp0
        simp only [Bool.and_eq_true, beq_iff_eq, decide_eq_true_eq] at h
        refine ⟨T, xs, d, vr, vn, hr, ?_, h.2⟩
        cases p with
        | nil => exact absurd rfl hp0
        | cons q p => exact h.1
    · cases h
  · cases h

/-- A current name in its new place. -/
theorem canonN_G {N : Nm} {hp : Nat → AObj Ty El} {w : World} (hH : HR C N hp w) {tab : List (Option Nat)} {os : List (AObj Ty El)} {f : Nat → Option Nat} {r k : Nat} (ht : tab[k]? = some (some r)) (hos : ∀ T xs d vr vn, hp r = .row T xs d vr vn .no → hpOf os k = .row T xs d 0 0 .no) {p : Path} {v : Nat} {u : Value}
    (hc : cur hp r p v = true) (hG : N.G r p v u) : (canonN N hp w C tab os).G k p 0 u := by
  obtain ⟨T, xs, d, vr, vn, hr, hv, hl⟩ := cur_inv hc
  have hreg := hH.reg r p v u hG
  rw [hr] at hreg
  simp only [canonN, ht]
  rw [hos T xs d vr vn hr]
  cases p with
  | nil => exact .inl ⟨rfl, rfl, hreg.2 hv⟩
  | cons q p => exact .inr ⟨by simp, hl, rfl, rfl, hreg.2 rfl hv hl⟩

theorem renC_sound (hC : CodOK P C) {N Nc : Nm} {hp : Nat → AObj Ty El} {w : World} {f : Nat → Option Nat} (hro : ∀ b, N.ro b → Nc.ro b) (hcur : ∀ r p v u k, f r = some k → cur hp r p v = true → N.G r p v u → Nc.G k p 0 u)
    (hptr : ∀ r k q, (∃ cs, hp r = .box cs) ∨ (∃ K V es, hp r = .mp K V es) → f r = some k → N.G r [] 0 q → Nc.G k [] 0 q) : ∀ (n : Nat) (x y : AV Ty El) (v : Value), RepA C N w v x → renC hp f n x = some y → RepA C Nc w v y := by
  intro n
  induction n with
  | zero => intro x y v _ h; simp [renC] at h
  | succ n ih =>
    intro x y v hv h
    have plain : (if rf 4 x then some x else none : Option (AV Ty El)) = some y → RepA C Nc w v y := by
      intro h
      split at h
      · rename_i hr
        simp only [Option.some.injEq] at h
        subst h
        exact hv.rfm hC hro (fun _ _ => rfl) 4 hr
      · cases h
    have kids : ∀ (cs ds : List (AV Ty El)) (vs : Array Value), omap (renC hp f n) cs = some ds → (∀ (j : Nat) v c, vs[j]? = some v → cs[j]? = some c → RepA C N w v c) → ∀ (j : Nat) v d, vs[j]? = some v → ds[j]? = some d → RepA C Nc w v d := by
      intro cs ds vs ho hvs j v d hv hd
      obtain ⟨_, h2⟩ := omap_inv ho
      obtain ⟨c, hc, hcd⟩ := h2 j d hd
      exact ih c d _ (hvs j v c hv hc) hcd
    cases x with
    | own r p ver =>
      simp only [renC] at h
      split at h
      · rename_i hc
        split at h
        · rename_i k hk
          simp only [Option.some.injEq] at h
          subst h
          exact .own _ _ _ _ (hcur r p ver v k hk hc hv.inv_own)
        · cases h
      · simp only [Option.some.injEq] at h; subst h; exact .dead _
    | view r p ver wd lo m =>
      simp only [renC] at h
      split at h
      · rename_i hc
        split at h
        · rename_i k hk
          simp only [Option.some.injEq] at h
          subst h
          cases hv with
          | view _ _ _ _ lo m n cap a hG hb => exact .view _ _ _ _ _ _ _ _ _ (hcur r p ver _ k hk hc hG) hb
        · cases h
      · simp only [Option.some.injEq] at h; subst h; exact .dead _
    | eptr r p ver wd i j =>
      simp only [renC] at h
      split at h
      · rename_i hc
        split at h
        · rename_i k hk
          simp only [Option.some.injEq] at h
          subst h
          cases hv with
          | eptr _ _ _ _ i j b n cap hG hi => exact .eptr _ _ _ _ _ _ _ _ _ (hcur r p ver _ k hk hc hG) hi
        · cases h
      · simp only [Option.some.injEq] at h; subst h; exact .dead _
    | ptr r off =>
      simp only [renC] at h
      split at h
      · rename_i cs hb
        split at h
        · rename_i k hk
          simp only [Option.some.injEq] at h
          subst h
          cases hv with
          | ptr _ b off hG => exact .ptr _ _ _ (hptr r k _ (.inl ⟨cs, hb⟩) hk hG)
        · cases h
      · simp only [Option.some.injEq] at h; subst h; exact .dead _
    | mapr r =>
      simp only [renC] at h
      split at h
      · rename_i K V es hb
        split at h
        · rename_i k hk
          simp only [Option.some.injEq] at h
          subst h
          cases hv with
          | mapr _ b hG => exact .mapr _ _ (hptr r k _ (.inr ⟨K, V, es, hb⟩) hk hG)
        · cases h
      · simp only [Option.some.injEq] at h; subst h; exact .dead _
    | agg cs =>
      simp only [renC] at h
      split at h
      · rename_i ds hds
        simp only [Option.some.injEq] at h
        subst h
        cases hv with
        | agg vs cs hl hh => exact .agg vs ds (by rw [hl, (omap_inv hds).1]) (kids cs ds vs hds hh)
      · cases h
    | tup cs =>
      simp only [renC] at h
      split at h
      · rename_i ds hds
        simp only [Option.some.injEq] at h
        subst h
        cases hv with
        | tup vs cs hl hh => exact .tup vs ds (by rw [hl, (omap_inv hds).1]) (kids cs ds vs hds hh)
      · cases h
    | fn g cs =>
      simp only [renC] at h
      split at h
      · rename_i ds hds
        simp only [Option.some.injEq] at h
        subst h
        cases hv with
        | fn g vs cs hl hh => exact .fn g vs ds (by rw [hl, (omap_inv hds).1]) (kids cs ds vs hds hh)
      · cases h
    | _ => exact plain h

/-- The renamed state. -/
theorem canon_hr (hC : CodOK P C) {N : Nm} {hp : Nat → AObj Ty El} {w : World} (hH : HR C N hp w) {tab : List (Option Nat)} (hinj : TabInj tab) {os : List (AObj Ty El)} (hlen : os.length = tab.length)
    (hobj : ∀ (k r : Nat), tab[k]? = some (some r) → ∃ o, os[k]? = some o ∧ canonObj hp (fun r => idxO r tab 0) r = some o) (hout : ∀ (k : Nat), tab[k]? = some none → os[k]? = some AObj.out) :
    HR C (canonN N hp w C tab os) (hpOf os) w ∧ (∀ r p v u k, idxO r tab 0 = some k → cur hp r p v = true → N.G r p v u → (canonN N hp w C tab os).G k p 0 u) ∧ (∀ r k q, (∃ cs, hp r = .box cs) ∨ (∃ K V es, hp r = .mp K V es) → idxO r tab 0 = some k → N.G r [] 0 q → (canonN N hp w C tab os).G k [] 0 q) := by
  have hrow : ∀ (k r : Nat), tab[k]? = some (some r) → ∀ T xs d vr vn, hp r = .row T xs d vr vn .no → hpOf os k = .row T xs d 0 0 .no := by
    intro k r ht T xs d vr vn hr
    obtain ⟨o, ho, hc⟩ := hobj k r ht
    rw [hpOf_get ho]
    simp only [canonObj, hr, Option.some.injEq] at hc
    exact hc.symm
  have hbox : ∀ (k r : Nat), tab[k]? = some (some r) → ∀ cs, hp r = .box cs → ∃ ds, hpOf os k = .box ds ∧ omap (renC hp (fun r => idxO r tab 0) 4) cs = some ds := by
    intro k r ht cs hr
    obtain ⟨o, ho, hc⟩ := hobj k r ht
    rw [hpOf_get ho]
    simp only [canonObj, hr] at hc
    split at hc
    · rename_i ds hds
      simp only [Option.some.injEq] at hc
      exact ⟨ds, hc.symm, hds⟩
    · cases hc
  have hat : ∀ (r k : Nat), idxO r tab 0 = some k → tab[k]? = some (some r) := fun r k h => by have := (idxO_spec h).2; simpa using this
  have hcur : ∀ r p v u k, idxO r tab 0 = some k → cur hp r p v = true → N.G r p v u → (canonN N hp w C tab os).G k p 0 u := fun r p v u k hk hc hG => canonN_G (f := fun r => idxO r tab 0) hH (hat r k hk) (hrow k r (hat r k hk)) hc hG
  have hmap : ∀ (k r : Nat), tab[k]? = some (some r) → ∀ K V es, hp r = .mp K V es → hpOf os k = .mp K V es := by
    intro k r ht K V es hr
    obtain ⟨o, ho, hc⟩ := hobj k r ht
    rw [hpOf_get ho]
    simp only [canonObj, hr, Option.some.injEq] at hc
    exact hc.symm
  have hptr : ∀ r k q, (∃ cs, hp r = .box cs) ∨ (∃ K V es, hp r = .mp K V es) → idxO r tab 0 = some k → N.G r [] 0 q → (canonN N hp w C tab os).G k [] 0 q := by
    intro r k q hr hk hG
    have ht := hat r k hk
    have hreg := hH.reg r [] 0 _ hG
    simp only [canonN, ht]
    rcases hr with ⟨cs, hr⟩ | ⟨K, V, es, hr⟩
    · rw [hr] at hreg
      obtain ⟨ds, e, _⟩ := hbox k r ht cs hr
      rw [e]
      exact ⟨rfl, rfl, hreg rfl rfl⟩
    · rw [hr] at hreg
      rw [hmap k r ht K V es hr]
      exact ⟨rfl, rfl, hreg rfl rfl⟩
  have cν : ∀ (k r : Nat), tab[k]? = some (some r) → (canonN N hp w C tab os).ν k = N.ν r := fun k r ht => by simp [canonN, ht]
  have cF : ∀ (k r : Nat), tab[k]? = some (some r) → ∀ b, (canonN N hp w C tab os).F k b ↔ N.F r b := fun k r ht b => by simp [canonN, ht]
  have cFi : ∀ (k b : Nat), (canonN N hp w C tab os).F k b → ∃ r, tab[k]? = some (some r) ∧ N.F r b := fun k b hb => by
    simp only [canonN] at hb
    split at hb
    · rename_i r ht; exact ⟨r, ht, hb⟩
    · exact hb.elim
  have cGi : ∀ (k : Nat) p v u, (canonN N hp w C tab os).G k p v u → ∃ r, tab[k]? = some (some r) ∧ objG C w (N.ν r) (hpOf os k) p v u := fun k p v u hg => by
    simp only [canonN] at hg
    split at hg
    · rename_i r ht; exact ⟨r, ht, hg⟩
    · exact hg.elim
  have obj : ∀ k, ObjOK C (canonN N hp w C tab os) w k (hpOf os k) := by
    intro k
    cases ht : tab[k]? with
    | none =>
      have : hpOf os k = .gone := by
        have : os.length ≤ k := by rw [hlen]; exact List.getElem?_eq_none_iff.1 ht
        simp [hpOf, List.getD, List.getElem?_eq_none this]
      rw [this]
      intro b hb
      obtain ⟨r, h1, _⟩ := cFi k b hb
      rw [ht] at h1; cases h1
    | some t =>
      cases t with
      | none =>
        rw [hpOf_get (hout k ht)]
        intro b hb
        obtain ⟨r, h1, _⟩ := cFi k b hb
        rw [ht] at h1; cases h1
      | some r =>
        obtain ⟨o, ho, hc⟩ := hobj k r ht
        have hor := hH.obj r
        unfold canonObj at hc
        split at hc
        · rename_i cs hr
          obtain ⟨ds, e, hds⟩ := hbox k r ht cs hr
          rw [e]
          rw [hr] at hor
          obtain ⟨b, arr, t, hv, hh, hs, hone, hcc, hF⟩ := hor
          obtain ⟨hdl, hdg⟩ := omap_inv hds
          refine ⟨b, arr, t, (cν k r ht).trans hv, hh, by rw [hdl]; exact hs, hone, fun j v d hj hd => ?_, fun b' => (cF k r ht b').trans (hF b')⟩
          obtain ⟨c, hc', hcd⟩ := hdg j d hd
          exact renC_sound (N := N) (Nc := canonN N hp w C tab os) hC (fun _ h => h) hcur hptr 4 c d v (hcc j v c hj hc') hcd
        · rename_i T xs d vr vn m hr
          split at hc
          · rw [hrow k r ht T xs d vr vn hr]
            rw [hr] at hor
            refine ⟨by rw [cν k r ht]; exact hor.1, ?_⟩
            rw [cν k r ht]
            exact (Deep.cast (N := N) (N' := canonN N hp w C tab os) hC (fun _ h => h) (fun _ _ => rfl) _ _ _ _ _ _ hor.2 (fun _ _ => rfl)).blkEq (cF k r ht)
          · cases hc
        · rename_i K V es hr
          rw [hmap k r ht K V es hr]
          rw [hr] at hor
          obtain ⟨b, arr, clk, hv, hh, hs, hcc, hF⟩ := hor
          have hpk : ∀ (T : Ty) (x : El T), rf 2 (packA C T (C.row T x)) = true := fun T x => by
            unfold packA
            have hall : ∀ c ∈ C.row T x, rf 1 c = true := fun c hc => rf_cell (hC.cell T x c hc) 0
            split
            · simp only [rf, List.all_eq_true]; exact hall
            · cases hrow : C.row T x with
              | nil => rfl
              | cons c cs => exact rf_cell (hC.cell T x c (by rw [hrow]; simp)) 1
          exact ⟨b, arr, clk, (cν k r ht).trans hv, hh, hs, fun j e p he hpp => ⟨RepA.rfm (N := N) (N' := canonN N hp w C tab os) (w' := w) hC (fun _ h => h) (fun _ _ => rfl) (hcc j e p he hpp).1 2 (hpk _ _), RepA.rfm (N := N) (N' := canonN N hp w C tab os) (w' := w) hC (fun _ h => h) (fun _ _ => rfl) (hcc j e p he hpp).2 2 (hpk _ _)⟩, fun b' => (cF k r ht b').trans (hF b')⟩
        · cases hc
  refine ⟨⟨obj, fun k p v u hg => ?_, fun k => ?_, fun k p v u hg => ?_, fun k k' b hb hb' => ?_, fun k b hb hr => ?_, fun b hb => hH.roLt b hb⟩, hcur, hptr⟩
  · obtain ⟨r, ht, h1⟩ := cGi k p v u hg
    rw [cν k r ht]; exact objG_reg h1
  · cases ht : tab[k]? with
    | none =>
      have : hpOf os k = .gone := by
        have : os.length ≤ k := by rw [hlen]; exact List.getElem?_eq_none_iff.1 ht
        simp [hpOf, List.getD, List.getElem?_eq_none this]
      rw [this]; trivial
    | some t =>
      cases t with
      | none => rw [hpOf_get (hout k ht)]; trivial
      | some r => exact objG_full (fun p v u h => by rw [cν k r ht] at h; simp only [canonN, ht]; exact h)
  · obtain ⟨r, ht, h1⟩ := cGi k p v u hg
    refine objG_one (obj k) (p := p) (v := v) ?_
    rw [cν k r ht]; exact h1
  · obtain ⟨r, ht, h1⟩ := cFi k b hb
    obtain ⟨r', ht', h1'⟩ := cFi k' b hb'
    have := hH.dist r r' b h1 h1'
    subst this
    exact hinj k k' r ht ht'
  · obtain ⟨r, ht, h1⟩ := cFi k b hb
    exact hH.roNot r b h1 hr
end
end Lx
/- Values brought into a shape. -/
set_option linter.unusedVariables false
set_option linter.unusedSimpArgs false
namespace Lx
open Go
section
variable {Ty : Type} {El : Ty → Type} {C : Cod Ty El} {P : Program}

def hpS (hp : Nat → AObj Ty El) (base : Nat) (c : Shd Ty El) : Nat → AObj Ty El := fun r => if r ∈ c.fz then .out else laid hp base c r

structure ShI (C : Cod Ty El) (N : Nm) (hp : Nat → AObj Ty El) (base : Nat) (w : World) (c : Shd Ty El) (N1 : Nm) : Prop where
  hr : HR C N1 (hpS hp base c) w
  le : Le N N1 w w
  ν : ∀ r, r < base → N1.ν r = N.ν r
  F : ∀ r b, N1.F r b → r < base ∧ N.F r b
  Fk : ∀ r b, r ∉ c.fz → N.F r b → N1.F r b
  roO : ∀ b, N1.ro b → N.ro b ∨ ∃ r, N.F r b
  bx : ∀ r o, look c.bx r = some o → ∃ ds cs, o = .box ds ∧ hp r = .box cs ∧ ds.length = cs.length
  fz : ∀ r ∈ c.fz, (∀ b, N.F r b → N1.ro b) ∧ ∃ T xs d vr vn m, hp r = .row T xs d vr vn m

theorem HR.reBox {N : Nm} {hp : Nat → AObj Ty El} {w : World} (h : HR C N hp w) {r : Nat} {cs ds : List (AV Ty El)} (hb : hp r = .box cs) (hl : ds.length = cs.length) (hc : ∀ (b : Nat) (arr : Array Value) (t : TypeId), N.ν r = .pointer (some ⟨b, 0, none⟩) → w.heap[b]? = some (.cells arr t (0, 0)) → arr.size = cs.length → ∀ (j : Nat) v d, arr[j]? = some v → ds[j]? = some d → RepA C N w v d) :
    HR C N (setH hp r (.box ds)) w := by
  refine ⟨fun k => ?_, fun k p v u hg => ?_, fun k => ?_, h.one, h.dist, h.roNot, h.roLt⟩
  · by_cases e : k = r
    · subst e
      rw [setH_self]
      have := h.obj k
      rw [hb] at this
      obtain ⟨b, arr, t, hv, hh, hs, h1, _, hF⟩ := this
      exact ⟨b, arr, t, hv, hh, by rw [hl]; exact hs, h1, hc b arr t hv hh hs, hF⟩
    · rw [setH_ne _ _ e]; exact h.obj k
  · have := h.reg k p v u hg
    by_cases e : k = r
    · subst e; rw [setH_self]; rw [hb] at this; exact this
    · rw [setH_ne _ _ e]; exact this
  · have := h.full k
    by_cases e : k = r
    · subst e; rw [setH_self]; rw [hb] at this; exact this
    · rw [setH_ne _ _ e]; exact this

theorem ShI.freeze (hC : CodOK P C) {N : Nm} {hp : Nat → AObj Ty El} {base : Nat} {w : World} (hgone : ∀ r, base ≤ r → hp r = .gone) {c : Shd Ty El} {N1 : Nm} (h : ShI C N hp base w c N1) {r : Nat} {T : Ty} {xs : List (El T)} {d vr vn : Nat} {m : Msk} (hr : hp r = .row T xs d vr vn m) :
    ∃ N2, ShI C N hp base w { c with fz := r :: c.fz } N2 ∧ Le N1 N2 w w ∧ ∀ b, N.F r b → N2.ro b := by
  by_cases hin : r ∈ c.fz
  · refine ⟨N1, ⟨?_, h.le, h.ν, h.F, fun k b hk hb => h.Fk k b (fun hk' => hk (List.mem_cons_of_mem _ hk')) hb, h.roO, h.bx, fun k hk => ?_⟩, Le.rfl', (h.fz r hin).1⟩
    · have : hpS hp base { c with fz := r :: c.fz } = hpS hp base c := by
        funext k
        unfold hpS
        by_cases e : k = r
        · subst e; simp [hin]
        · simp only [List.mem_cons, e, false_or]; rfl
      rw [this]; exact h.hr
    · simp only [List.mem_cons] at hk
      exact hk.elim (fun e => e ▸ h.fz r hin) (h.fz k)
  · have hlt : r < base := Classical.byContradiction fun hn => by rw [hgone r (by omega)] at hr; cases hr
    have hlk : look c.bx r = none := by
      cases hl : look c.bx r with
      | none => rfl
      | some o => obtain ⟨_, cs, _, hb, _⟩ := h.bx r o hl; rw [hr] at hb; cases hb
    have hat : hpS hp base c r = .row T xs d vr vn m := by simp [hpS, hin, laid, hlk, hlt, hr]
    have hs := Step.out hC h.hr (r := r) (by rw [hat]; simp) (fun b => N1.F r b) (fun b hb => hb)
    have he : hpS hp base { c with fz := r :: c.fz } = setH (hpS hp base c) r .out := by
      funext k
      by_cases e : k = r
      · subst e; simp [hpS, setH]
      · rw [setH_ne _ _ e]
        unfold hpS
        simp only [List.mem_cons, e, false_or]; rfl
    have hro : ∀ b, N.F r b → (N1.upd r (N1.ν r) (fun _ => False) (fun _ _ _ => False) (fun b => N1.F r b)).ro b := fun b hb => .inr (h.Fk r b hin hb)
    refine ⟨_, ⟨by rw [he]; exact h.hr.step hC hs, h.le.trans' (hs.le h.hr), fun k hk => ?_, fun k b hb => ?_, fun k b hk hb => ?_, fun b hb => ?_, h.bx, fun k hk => ?_⟩, hs.le h.hr, hro⟩
    · rw [← h.ν k hk]
      by_cases e : k = r
      · subst e; simp
      · simp [Nm.upd, e]
    · by_cases e : k = r
      · subst e; simp at hb
      · exact h.F k b (by simpa [Nm.upd, e] using hb)
    · have e : k ≠ r := fun e => hk (by simp [e])
      have := h.Fk k b (fun hk' => hk (List.mem_cons_of_mem _ hk')) hb
      simpa [Nm.upd, e] using this
    · rcases hb with hb | hb
      · exact h.roO b hb
      · exact .inr ⟨r, (h.F r b hb).2⟩
    · simp only [List.mem_cons] at hk
      rcases hk with e | hk
      · subst e; exact ⟨hro, T, xs, d, vr, vn, m, hr⟩
      · exact ⟨fun b hb => .inl ((h.fz k hk).1 b hb), (h.fz k hk).2⟩

theorem ShI.newRow (hC : CodOK P C) {N : Nm} {hp : Nat → AObj Ty El} {base : Nat} {w : World} (hgone : ∀ r, base ≤ r → hp r = .gone) {c : Shd Ty El} {N1 : Nm} (h : ShI C N hp base w c N1) (T : Ty) :
    ∃ N2, ShI C N hp base w { c with new := c.new ++ [.row T [] (C.hgt T) 0 0 .no] } N2 ∧ Le N1 N2 w w ∧ RepA C N2 w (.slice none 0 0) (.own (base + c.new.length) [] 0) := by
  have hnf : base + c.new.length ∉ c.fz := fun hm => by
    obtain ⟨_, _, _, _, _, _, hr⟩ := (h.fz _ hm).2
    rw [hgone _ (by omega)] at hr; cases hr
  have hlk : look c.bx (base + c.new.length) = none := by
    cases hl : look c.bx (base + c.new.length) with
    | none => rfl
    | some o => obtain ⟨_, cs, _, hb, _⟩ := h.bx _ o hl; rw [hgone _ (by omega)] at hb; cases hb
  have hg : hpS hp base c (base + c.new.length) = .gone := by
    have hx : ¬ base + c.new.length < base := by omega
    simp [hpS, hnf, laid, hlk, List.getD, hx]
  have hs := Step.row (r := base + c.new.length) (T := T) (xs := []) (d := C.hgt T) (vr := 0) (vn := 0) (m := .no) (ν := .slice none 0 0) (F := fun _ => False) (ro := fun _ => False) hC h.hr (fun _ _ _ => rfl) (Nat.le_refl _) rfl (fun _ => Deep.nil hC _ _ T)
    (fun p v' u hg' => by have := h.hr.reg _ p v' u hg'; rw [hg] at this; exact this.elim) (fun b hb => hb.elim) (fun b hb => hb.elim) (fun b hb => hb.elim) rfl rfl rfl
  have he : hpS hp base { c with new := c.new ++ [.row T [] (C.hgt T) 0 0 .no] } = setH (hpS hp base c) (base + c.new.length) (.row T [] (C.hgt T) 0 0 .no) := by
    funext k
    by_cases e : k = base + c.new.length
    · subst e
      rw [setH_self]
      have hx : ¬ base + c.new.length < base := by omega
      simp [hpS, hnf, laid, hlk, List.getD, hx]
    · rw [setH_ne _ _ e]
      unfold hpS laid
      by_cases hk : k < base
      · simp [hk]
      · have : k - base ≠ c.new.length := by omega
        simp only [hk, if_false, List.getD]
        by_cases hlt : k - base < c.new.length
        · rw [List.getElem?_append_left hlt]
        · rw [List.getElem?_eq_none (by simp; omega), List.getElem?_eq_none (by omega)]
  refine ⟨_, ⟨by rw [he]; exact h.hr.step hC hs, h.le.trans' (hs.le h.hr), fun k hk => ?_, fun k b hb => ?_, fun k b hk hb => ?_, fun b hb => ?_, h.bx, fun k hk => ⟨fun b hb => (hs.le h.hr).ro b ((h.fz k hk).1 b hb), (h.fz k hk).2⟩⟩, hs.le h.hr, .own _ _ _ _ (.inr ⟨rfl, .inl ⟨rfl, rfl, rfl⟩⟩)⟩
  · have e : k ≠ base + c.new.length := by omega
    rw [← h.ν k hk]; simp [Nm.upd, e]
  · by_cases e : k = base + c.new.length
    · subst e; simp at hb
    · exact h.F k b (by simpa [Nm.upd, e] using hb)
  · have hb' := h.Fk k b hk hb
    have e : k ≠ base + c.new.length := fun e => by have := (h.F k b hb').1; omega
    simpa [Nm.upd, e] using hb'
  · exact h.roO b (hb.resolve_right id)

theorem ShI.reBox (hC : CodOK P C) {N : Nm} {hp : Nat → AObj Ty El} {base : Nat} {w : World} (hH : HR C N hp w) (hgone : ∀ r, base ≤ r → hp r = .gone) {c : Shd Ty El} {N1 : Nm} (h : ShI C N hp base w c N1) {r : Nat} {cs ds : List (AV Ty El)} (hb : hp r = .box cs) (hl : ds.length = cs.length)
    (hc : ∀ (j : Nat) u c d, cs[j]? = some c → ds[j]? = some d → RepA C N w u c → RepA C N1 w u d) : ShI C N hp base w { c with bx := (r, .box ds) :: c.bx } N1 := by
  have hlt : r < base := Classical.byContradiction fun hn => by rw [hgone r (by omega)] at hb; cases hb
  have hnf : r ∉ c.fz := fun hm => by
    obtain ⟨_, _, _, _, _, _, hr⟩ := (h.fz _ hm).2
    rw [hb] at hr; cases hr
  have hat : ∃ es, hpS hp base c r = .box es ∧ es.length = cs.length := by
    simp only [hpS, hnf, if_false, laid, hlt, if_true]
    cases hl' : look c.bx r with
    | none => exact ⟨cs, hb, rfl⟩
    | some o =>
      obtain ⟨es, cs', e, hb', h1⟩ := h.bx r o hl'
      rw [hb] at hb'
      cases hb'
      exact ⟨es, e, h1⟩
  obtain ⟨es, hes, hel⟩ := hat
  have he : hpS hp base { c with bx := (r, .box ds) :: c.bx } = setH (hpS hp base c) r (.box ds) := by
    funext k
    by_cases e : k = r
    · subst e
      rw [setH_self]
      simp [hpS, hnf, laid, look]
    · rw [setH_ne _ _ e]
      have e' : ¬ r = k := fun h => e h.symm
      simp [hpS, laid, look, e']
  refine ⟨?_, h.le, h.ν, h.F, h.Fk, h.roO, fun k o hk => ?_, h.fz⟩
  · rw [he]
    refine h.hr.reBox hes (hl.trans hel.symm) (fun b arr t hν hh hs j v d hv hd => ?_)
    have ho := hH.obj r
    rw [hb] at ho
    obtain ⟨b', arr', t', hν', hh', hs', _, hc', _⟩ := ho
    rw [h.ν r hlt, hν'] at hν
    simp only [Value.pointer.injEq, Option.some.injEq, Addr.mk.injEq, and_true] at hν
    subst hν
    rw [hh'] at hh
    simp only [Option.some.injEq, Obj.cells.injEq] at hh
    obtain ⟨rfl, _⟩ := hh
    have hj : j < cs.length := by rw [← hl]; exact (List.getElem?_eq_some_iff.1 hd).1
    exact hc j v _ d (List.getElem?_eq_getElem hj) hd (hc' j v _ hv (List.getElem?_eq_getElem hj))
  · simp only [look] at hk
    split at hk
    · rename_i e
      simp only [Option.some.injEq] at hk
      subst hk; subst e
      exact ⟨ds, cs, rfl, hb, hl⟩
    · exact h.bx k o hk

/-- The slice that a current name is, frozen. -/
theorem shape_full (hC : CodOK P C) {N N2 : Nm} {hp : Nat → AObj Ty El} {w : World} (hH : HR C N hp w) (hro : ∀ b, N.ro b → N2.ro b) {r : Nat} {p : Path} {ver : Nat} {R : Row Ty El} {u : Value} (hF : ∀ b, N.F r b → N2.ro b) (hR : rowAt C hp r p ver = some R) (hG : N.G r p ver u) : RepA C N2 w u (.sl R.T R.xs) := by
  obtain ⟨_, _, _, _, _, _, _, _, _, _, _, B', hB', hd⟩ := rowAt_sound hC hH hR hG
  exact Deep.slR hC hro hd (fun b hb => hF b (hB' b hb))
theorem shape_view (hC : CodOK P C) {N N2 : Nm} {hp : Nat → AObj Ty El} {w : World} (hH : HR C N hp w) (hro : ∀ b, N.ro b → N2.ro b) {r : Nat} {p : Path} {ver lo m : Nat} {R : Row Ty El} {u : Value} (hF : ∀ b, N.F r b → N2.ro b) (hR : rowAt C hp r p ver = some R) (hv : RepA C N w u (.view r p ver (C.sz R.T) lo m)) : RepA C N2 w u (.sl R.T ((R.xs.drop lo).take m)) := by
  cases hv with
  | view _ _ _ _ lo m nn cp aa hG hb =>
    have hsl := shape_full hC hH hro hF hR hG
    have hs := view_read hC (SlR.of_sl hC hsl) hb
    refine RepA.of_SlR hC hs fun b o k cap' hv' hk => ?_
    simp only [Value.slice.injEq] at hv'
    obtain ⟨h1, rfl, _⟩ := hv'
    obtain ⟨A, cap2, he, hle, hz, hat⟩ := rowAt_head hC hH hR hG
    simp only [Value.slice.injEq] at he
    obtain ⟨rfl, rfl, rfl⟩ := he
    rw [if_neg (by omega)] at h1
    cases aa with
    | none => cases h1
    | some ad =>
      obtain ⟨b2, rfl, hFb⟩ := hat ad rfl
      simp only [Option.map_some, add_mk, Option.some.injEq, Addr.mk.injEq, and_true] at h1
      rw [← h1.1]
      exact hF b2 hFb

theorem castSl {N : Nm} {w : World} {S T : Ty} {xs : List (El S)} {ys : List (El T)} (h : castL C S T xs = some ys) {u : Value} (hu : RepA C N w u (.sl S xs)) : RepA C N w u (.sl T ys) := by
  obtain ⟨e, he⟩ := castL_inv h
  subst e
  subst he
  exact hu

mutual
theorem shapeV_sound (hC : CodOK P C) {N : Nm} {hp : Nat → AObj Ty El} {base : Nat} {w : World} (hH : HR C N hp w) (hgone : ∀ r, base ≤ r → hp r = .gone) : ∀ (n : Nat) (sh : Sh Ty) (v x : AV Ty El) (c c' : Shd Ty El) (N1 : Nm), shapeV C hp base n sh v c = some (x, c') → ShI C N hp base w c N1 →
    ∃ N2, ShI C N hp base w c' N2 ∧ Le N1 N2 w w ∧ ∀ u, RepA C N w u v → RepA C N2 w u x
  | 0, _, _, _, _, _, _, h, _ => by simp [shapeV] at h
  | n + 1, sh, v, x, c, c', N1, h, hI => by
    have stay : some (v, c) = some (x, c') → ∃ N2, ShI C N hp base w c' N2 ∧ Le N1 N2 w w ∧ ∀ u, RepA C N w u v → RepA C N2 w u x := by
      intro h
      simp only [Option.some.injEq, Prod.mk.injEq] at h
      obtain ⟨rfl, rfl⟩ := h
      exact ⟨N1, hI, Le.rfl', fun u hu => hu.mono hI.le⟩
    cases v with
    | own r p ver =>
      simp only [shapeV] at h
      split at h
      · split at h
        · rename_i R hR
          split at h
          · rename_i ys hy
            simp only [Option.some.injEq, Prod.mk.injEq] at h
            obtain ⟨rfl, rfl⟩ := h
            obtain ⟨T0, xs0, d0, vr0, hrow, _⟩ := rowAt_inv hR
            obtain ⟨N2, h2, hL, hF⟩ := hI.freeze hC hgone hrow
            exact ⟨N2, h2, hL, fun u hu => castSl hy (shape_full hC hH h2.le.ro hF hR hu.inv_own)⟩
          · cases h
        · cases h
      · exact stay h
    | view r p ver wd lo m =>
      simp only [shapeV] at h
      split at h
      · split at h
        · rename_i R hR
          split at h
          · rename_i hwd
            split at h
            · rename_i ys hy
              simp only [Option.some.injEq, Prod.mk.injEq] at h
              obtain ⟨rfl, rfl⟩ := h
              have hwd : wd = C.sz R.T := hwd
              subst hwd
              obtain ⟨T0, xs0, d0, vr0, hrow, _⟩ := rowAt_inv hR
              obtain ⟨N2, h2, hL, hF⟩ := hI.freeze hC hgone hrow
              exact ⟨N2, h2, hL, fun u hu => castSl hy (shape_view hC hH h2.le.ro hF hR hu)⟩
            · cases h
          · cases h
        · cases h
      · exact stay h
    | nils =>
      simp only [shapeV] at h
      split at h
      · simp only [Option.some.injEq, Prod.mk.injEq] at h
        obtain ⟨rfl, rfl⟩ := h
        exact ⟨N1, hI, Le.rfl', fun u hu => by cases hu; exact .sl0 _ _ _⟩
      · rename_i T
        simp only [Option.some.injEq, Prod.mk.injEq] at h
        obtain ⟨rfl, rfl⟩ := h
        obtain ⟨N2, h2, hL, hr⟩ := hI.newRow hC hgone T
        exact ⟨N2, h2, hL, fun u hu => by cases hu; exact hr⟩
      · exact stay h
    | ptr r off =>
      simp only [shapeV] at h
      split at h
      · rename_i l
        split at h
        · rename_i cs hb
          split at h
          · exact stay h
          · split at h
            · rename_i ds c1 hd
              simp only [Option.some.injEq, Prod.mk.injEq] at h
              obtain ⟨rfl, rfl⟩ := h
              obtain ⟨N2, h2, hL, hl, hr⟩ := shapeL_sound hC hH hgone n l cs ds c c1 N1 hd hI
              exact ⟨N2, h2.reBox hC hH hgone hb hl hr, hL, fun u hu => hu.mono h2.le⟩
            · cases h
        · cases h
      · exact stay h
    | agg cs =>
      simp only [shapeV] at h
      split at h
      · rename_i ds c1 hd
        simp only [Option.some.injEq, Prod.mk.injEq] at h
        obtain ⟨rfl, rfl⟩ := h
        obtain ⟨N2, h2, hL, hl, hr⟩ := shapeL_sound hC hH hgone n _ cs ds c c1 N1 hd hI
        refine ⟨N2, h2, hL, fun u hu => ?_⟩
        obtain ⟨vs, rfl, hl', hcs⟩ := hu.inv_agg
        refine .agg vs ds (hl'.trans hl.symm) fun j v d hv hd => ?_
        have hj : j < cs.length := by rw [← hl]; exact (List.getElem?_eq_some_iff.1 hd).1
        exact hr j v _ d (List.getElem?_eq_getElem hj) hd (hcs j v _ hv (List.getElem?_eq_getElem hj))
      · cases h
    | tup cs =>
      simp only [shapeV] at h
      split at h
      · rename_i ds c1 hd
        simp only [Option.some.injEq, Prod.mk.injEq] at h
        obtain ⟨rfl, rfl⟩ := h
        obtain ⟨N2, h2, hL, hl, hr⟩ := shapeL_sound hC hH hgone n _ cs ds c c1 N1 hd hI
        refine ⟨N2, h2, hL, fun u hu => ?_⟩
        obtain ⟨vs, rfl, hl', hcs⟩ := hu.inv_tup
        refine .tup vs ds (hl'.trans hl.symm) fun j v d hv hd => ?_
        have hj : j < cs.length := by rw [← hl]; exact (List.getElem?_eq_some_iff.1 hd).1
        exact hr j v _ d (List.getElem?_eq_getElem hj) hd (hcs j v _ hv (List.getElem?_eq_getElem hj))
      · cases h
    | _ => exact stay h
theorem shapeL_sound (hC : CodOK P C) {N : Nm} {hp : Nat → AObj Ty El} {base : Nat} {w : World} (hH : HR C N hp w) (hgone : ∀ r, base ≤ r → hp r = .gone) : ∀ (n : Nat) (shs : List (Sh Ty)) (vs xs : List (AV Ty El)) (c c' : Shd Ty El) (N1 : Nm), shapeL C hp base n shs vs c = some (xs, c') → ShI C N hp base w c N1 →
    ∃ N2, ShI C N hp base w c' N2 ∧ Le N1 N2 w w ∧ xs.length = vs.length ∧ ∀ (j : Nat) u v x, vs[j]? = some v → xs[j]? = some x → RepA C N w u v → RepA C N2 w u x
  | 0, _, _, _, _, _, _, h, _ => by simp [shapeL] at h
  | n + 1, shs, [], xs, c, c', N1, h, hI => by
    simp only [shapeL, Option.some.injEq, Prod.mk.injEq] at h
    obtain ⟨rfl, rfl⟩ := h
    exact ⟨N1, hI, Le.rfl', rfl, fun j u v x hv => by simp at hv⟩
  | n + 1, shs, v :: vs, xs, c, c', N1, h, hI => by
    simp only [shapeL] at h
    split at h
    · rename_i x c1 hx
      split at h
      · rename_i xs1 c2 hxs
        simp only [Option.some.injEq, Prod.mk.injEq] at h
        obtain ⟨rfl, rfl⟩ := h
        obtain ⟨N2, h2, hL, hr⟩ := shapeV_sound hC hH hgone n _ v x c c1 N1 hx hI
        obtain ⟨N3, h3, hL3, hl, hr3⟩ := shapeL_sound hC hH hgone n _ vs xs1 c1 c2 N2 hxs h2
        refine ⟨N3, h3, hL.trans' hL3, by simp [hl], fun j u v' x' hv hx' hu => ?_⟩
        cases j with
        | zero =>
          simp only [List.getElem?_cons_zero, Option.some.injEq] at hv hx'
          subst hv; subst hx'
          exact (hr u hu).mono hL3
        | succ j => exact hr3 j u v' x' (by simpa using hv) (by simpa using hx') hu
      · cases h
    · cases h
end
end
end Lx
/- The whole canonical form. -/
set_option linter.unusedVariables false
set_option linter.unusedSimpArgs false
namespace Lx
open Go
section
variable {Ty : Type} {El : Ty → Type} {C : Cod Ty El} {P : Program}

theorem visit_suf {hp : Nat → AObj Ty El} : ∀ (n : Nat) (l : List (AV Ty El)) (ns ns' : List Nat), visit hp n l ns = some ns' → ∃ suf, ns' = ns ++ suf ∧ suf.Nodup ∧ ∀ r ∈ suf, r ∉ ns
  | 0, _, _, _, h => by simp [visit] at h
  | n + 1, l, ns, ns', h => by
    have same : some ns = some ns' → ∃ suf, ns' = ns ++ suf ∧ suf.Nodup ∧ ∀ r ∈ suf, r ∉ ns := fun h => by
      simp only [Option.some.injEq] at h
      exact ⟨[], by simp [h], List.nodup_nil, fun r hr => by simp at hr⟩
    have add : ∀ (l : List (AV Ty El)) (r : Nat), ns.contains r = false → visit hp n l (ns ++ [r]) = some ns' → ∃ suf, ns' = ns ++ suf ∧ suf.Nodup ∧ ∀ r ∈ suf, r ∉ ns := fun l r hr h => by
      obtain ⟨suf, h1, h2, h3⟩ := visit_suf n l (ns ++ [r]) ns' h
      refine ⟨r :: suf, by simp [h1], List.nodup_cons.2 ⟨fun hm => h3 r hm (by simp), h2⟩, fun k hk => ?_⟩
      simp only [List.mem_cons] at hk
      rcases hk with rfl | hk
      · intro hm
        have : ns.contains k = true := by simpa using hm
        rw [this] at hr; cases hr
      · exact fun hm => h3 k hk (by simp [hm])
    cases l with
    | nil => exact same (by simpa only [visit] using h)
    | cons v vs =>
      cases v with
      | own r p ver =>
        simp only [visit] at h
        split at h
        · rename_i hc; exact add _ r hc.2 h
        · exact visit_suf n _ _ _ h
      | view r p ver w lo m =>
        simp only [visit] at h
        split at h
        · rename_i hc; exact add _ r hc.2 h
        · exact visit_suf n _ _ _ h
      | eptr r p ver w i j =>
        simp only [visit] at h
        split at h
        · rename_i hc; exact add _ r hc.2 h
        · exact visit_suf n _ _ _ h
      | ptr r off =>
        simp only [visit] at h
        split at h
        · exact visit_suf n _ _ _ h
        · rename_i hc
          split at h
          · exact add _ r (by simpa using hc) h
          · cases h
      | mapr r =>
        simp only [visit] at h
        split at h
        · exact visit_suf n _ _ _ h
        · rename_i hc
          exact add _ r (by simpa using hc) h
      | agg cs => exact visit_suf n _ _ _ (by simpa only [visit] using h)
      | tup cs => exact visit_suf n _ _ _ (by simpa only [visit] using h)
      | fn g cs => exact visit_suf n _ _ _ (by simpa only [visit] using h)
      | _ => exact visit_suf n _ _ _ (by simpa only [visit] using h)

/-- Frozen objects are out of the table: nothing hangs on them. -/
theorem renC_ag {hp hp2 : Nat → AObj Ty El} {f : Nat → Option Nat} (hag : ∀ r, hp2 r = hp r ∨ (f r = none ∧ hp2 r = .out)) : ∀ (n : Nat) (x y : AV Ty El), renC hp f n x = some y → renC hp2 f n x = some y := by
  have hcur : ∀ r p ver, f r ≠ none → cur hp2 r p ver = cur hp r p ver := fun r p ver hr => by
    rcases hag r with h | ⟨h, _⟩
    · unfold cur; rw [h]
    · exact absurd h hr
  have hcurF : ∀ r p ver, cur hp r p ver ≠ true → cur hp2 r p ver ≠ true := fun r p ver hr => by
    rcases hag r with h | ⟨_, h⟩
    · unfold cur at hr ⊢; rw [h]; exact hr
    · unfold cur; rw [h]; simp
  intro n
  induction n with
  | zero => intro x y h; simp [renC] at h
  | succ n ih =>
    intro x y h
    have kids : ∀ (cs ds : List (AV Ty El)), omap (renC hp f n) cs = some ds → omap (renC hp2 f n) cs = some ds := by
      intro cs
      induction cs with
      | nil => intro ds h; exact h
      | cons c cs ihc =>
        intro ds h
        simp only [omap] at h ⊢
        split at h
        · rename_i d hd
          rw [ih c d hd]
          split at h
          · rename_i ds' hds
            rw [ihc ds' hds]; exact h
          · cases h
        · cases h
    cases x with
    | own r p ver =>
      simp only [renC] at h ⊢
      split at h
      · rename_i hc
        split at h
        · rename_i k hk
          rw [if_pos (by rw [hcur r p ver (by simp [hk])]; exact hc)]
          simpa only [hk] using h
        · cases h
      · rename_i hc
        rw [if_neg (hcurF r p ver hc)]; exact h
    | view r p ver w lo m =>
      simp only [renC] at h ⊢
      split at h
      · rename_i hc
        split at h
        · rename_i k hk
          rw [if_pos (by rw [hcur r p ver (by simp [hk])]; exact hc)]
          simpa only [hk] using h
        · cases h
      · rename_i hc
        rw [if_neg (hcurF r p ver hc)]; exact h
    | eptr r p ver w i j =>
      simp only [renC] at h ⊢
      split at h
      · rename_i hc
        split at h
        · rename_i k hk
          rw [if_pos (by rw [hcur r p ver (by simp [hk])]; exact hc)]
          simpa only [hk] using h
        · cases h
      · rename_i hc
        rw [if_neg (hcurF r p ver hc)]; exact h
    | ptr r off =>
      simp only [renC] at h ⊢
      rcases hag r with e | ⟨e1, e2⟩
      · rw [e]; exact h
      · rw [e2]
        rw [e1] at h
        split at h
        · cases h
        · exact h
    | mapr r =>
      simp only [renC] at h ⊢
      rcases hag r with e | ⟨e1, e2⟩
      · rw [e]; exact h
      · rw [e2]
        rw [e1] at h
        split at h
        · cases h
        · exact h
    | agg cs =>
      simp only [renC] at h ⊢
      split at h
      · rename_i ds hds; rw [kids cs ds hds]; exact h
      · cases h
    | tup cs =>
      simp only [renC] at h ⊢
      split at h
      · rename_i ds hds; rw [kids cs ds hds]; exact h
      · cases h
    | fn g cs =>
      simp only [renC] at h ⊢
      split at h
      · rename_i ds hds; rw [kids cs ds hds]; exact h
      · cases h
    | _ => exact h

theorem omap_ag {α β : Type} {f g : α → Option β} (h : ∀ x y, f x = some y → g x = some y) : ∀ (l : List α) (m : List β), omap f l = some m → omap g l = some m
  | [], m, e => e
  | a :: l, m, e => by
    simp only [omap] at e ⊢
    split at e
    · rename_i b hb
      rw [h a b hb]
      split at e
      · rename_i m' hm
        rw [omap_ag h l m' hm]; exact e
      · cases e
    · cases e

theorem canonObj_ag {hp hp2 : Nat → AObj Ty El} {f : Nat → Option Nat} (hag : ∀ r, hp2 r = hp r ∨ (f r = none ∧ hp2 r = .out)) {r : Nat} (hr : hp2 r = hp r) {o : AObj Ty El} (h : canonObj hp f r = some o) : canonObj hp2 f r = some o := by
  unfold canonObj at h ⊢
  rw [hr]
  split at h
  · split at h
    · rename_i ds hds
      rw [omap_ag (renC_ag hag 4) _ _ hds]; exact h
    · cases h
  · exact h
  · exact h
  · cases h

structure CanonRes (C : Cod Ty El) (N N' : Nm) (hp : Nat → AObj Ty El) (w : World) (m : Nat) (vs xs : List (AV Ty El)) (h : List (AObj Ty El)) : Prop where
  hr : HR C N' (hpOf h) w
  len : xs.length = vs.length
  val : ∀ (j : Nat) v x, vs[j]? = some v → xs[j]? = some x → ∀ u, RepA C N w u v → RepA C N' w u x
  io : ∀ k, k < m → stays (hpOf h) k = true → stays hp k = true ∧ N'.ν k = N.ν k
  nog : ∀ k, k < m → hpOf h k ≠ .gone
  roI : ∀ b, N.ro b → N'.ro b
  roO : ∀ b, N'.ro b → N.ro b ∨ ∃ r, N.F r b
  blk : ∀ k b, N'.F k b → ∃ r, N.F r b

theorem tab_inj {m : Nat} {q : Nat → Bool} {suf : List Nat} (hnd : suf.Nodup) (hni : ∀ r ∈ suf, r ∉ (List.range m).filter q) : TabInj ((List.range m).map (fun r => if q r then some r else none) ++ suf.map some) := by
  have left : ∀ k, k < m → ∀ r, ((List.range m).map (fun r => if q r then some r else none) ++ suf.map some)[k]? = some (some r) → r = k ∧ q r = true := fun k hk r h => by
    rw [List.getElem?_append_left (by simpa using hk)] at h
    simp only [List.getElem?_map, List.getElem?_range hk, Option.map_some, Option.some.injEq] at h
    split at h
    · rename_i hq
      simp only [Option.some.injEq] at h
      subst h; exact ⟨rfl, hq⟩
    · cases h
  have right : ∀ k, ¬ k < m → ∀ r, ((List.range m).map (fun r => if q r then some r else none) ++ suf.map some)[k]? = some (some r) → suf[k - m]? = some r := fun k hk r h => by
    rw [List.getElem?_append_right (by simp; omega)] at h
    simpa [List.getElem?_map] using h
  intro k k' r h h'
  by_cases hk : k < m
  · obtain ⟨e1, hq⟩ := left k hk r h
    by_cases hk' : k' < m
    · exact e1.symm.trans (left k' hk' r h').1
    · have := right k' hk' r h'
      exact absurd (List.mem_filter.2 ⟨List.mem_range.2 (e1 ▸ hk), hq⟩) (hni r (List.mem_of_getElem? this))
  · have e1 := right k hk r h
    by_cases hk' : k' < m
    · obtain ⟨e2, hq⟩ := left k' hk' r h'
      exact absurd (List.mem_filter.2 ⟨List.mem_range.2 (e2 ▸ hk'), hq⟩) (hni r (List.mem_of_getElem? e1))
    · have e2 := right k' hk' r h'
      have := nodup_inj hnd e1 e2
      omega

theorem canonAll_sound (hC : CodOK P C) {N : Nm} {hp : Nat → AObj Ty El} {w : World} (hH : HR C N hp w) {base m : Nat} (hgone : ∀ r, base ≤ r → hp r = .gone) (hnog : ∀ k, k < m → hp k ≠ .gone) {shs : List (Sh Ty)} {vs xs : List (AV Ty El)} {h : List (AObj Ty El)} (hc : canonAll C hp base m shs vs = some (xs, h)) :
    ∃ N', CanonRes C N N' hp w m vs xs h := by
  unfold canonAll at hc
  split at hc
  · cases hc
  · rename_i vs1 c hsh
    simp only at hc
    split at hc
    · cases hc
    · rename_i ns hvis
      split at hc
      · rename_i xs' os hx hos
        split at hc
        · rename_i hfz
          simp only [Option.some.injEq, Prod.mk.injEq] at hc
          obtain ⟨rfl, rfl⟩ := hc
          have h00 : hpS hp base (⟨[], [], []⟩ : Shd Ty El) = hp := by
            funext k
            simp only [hpS, laid, look, List.not_mem_nil, if_false]
            split
            · rfl
            · rename_i hk; rw [hgone k (by omega)]; rfl
          have hI0 : ShI C N hp base w (⟨[], [], []⟩ : Shd Ty El) N := by
            refine ⟨by rw [h00]; exact hH, Le.rfl', fun r _ => rfl, fun r b hb => ⟨?_, hb⟩, fun r b _ hb => hb, fun b hb => .inl hb, fun r o ho => by simp [look] at ho, fun r hr => by simp at hr⟩
            refine Classical.byContradiction fun hn => ?_
            have ho := hH.obj r
            rw [hgone r (by omega)] at ho
            exact ho b hb
          obtain ⟨N2, hI, hL, hl1, hval⟩ := shapeL_sound hC hH hgone 40 shs vs vs1 _ c N hsh hI0
          obtain ⟨suf, hns, hnd, hni⟩ := visit_suf _ _ _ _ hvis
          have hdrop : ns.drop ((List.range m).filter (stays (laid hp base c))).length = suf := by rw [hns]; simp
          rw [hdrop] at hx hos hfz
          generalize htab : (List.range m).map (fun r => if stays (laid hp base c) r then some r else none) ++ suf.map some = tab at hx hos hfz
          have hinj : TabInj tab := by rw [← htab]; exact tab_inj hnd hni
          have hnfz : ∀ (k r : Nat), tab[k]? = some (some r) → r ∉ c.fz := fun k r hk hm => by
            have := List.all_eq_true.1 hfz r hm
            simp only [Option.isNone_iff_eq_none] at this
            exact idxO_none this (List.mem_of_getElem? hk)
          have hag : ∀ r, hpS hp base c r = laid hp base c r ∨ ((fun r => idxO r tab 0) r = none ∧ hpS hp base c r = .out) := fun r => by
            by_cases hr : r ∈ c.fz
            · refine .inr ⟨by simpa using List.all_eq_true.1 hfz r hr, by simp [hpS, hr]⟩
            · exact .inl (by simp [hpS, hr])
          obtain ⟨hlen, hat⟩ := omap_inv hos
          have hget : ∀ (k : Nat) t, tab[k]? = some t → ∃ o, os[k]? = some o ∧ (match t with | some r => canonObj (laid hp base c) (fun r => idxO r tab 0) r | none => some .out) = some o := fun k t hk => by
            have hlt : k < os.length := by rw [hlen]; exact (List.getElem?_eq_some_iff.1 hk).1
            obtain ⟨a, ha, hb⟩ := hat k os[k] (List.getElem?_eq_getElem hlt)
            rw [hk] at ha
            cases ha
            exact ⟨os[k], List.getElem?_eq_getElem hlt, hb⟩
          obtain ⟨hr, hcur, hptr⟩ := canon_hr hC hI.hr hinj (os := os) hlen
            (fun k r hk => by
              obtain ⟨o, h1, h2⟩ := hget k _ hk
              exact ⟨o, h1, canonObj_ag hag (by have := hnfz k r hk; simp [hpS, this]) h2⟩)
            (fun k hk => by
              obtain ⟨o, h1, h2⟩ := hget k _ hk
              simp only [Option.some.injEq] at h2
              rw [h1, h2])
          have htl : m ≤ tab.length := by rw [← htab]; simp
          have htk : ∀ k, k < m → tab[k]? = some (if stays (laid hp base c) k then some k else none) := fun k hk => by
            rw [← htab, List.getElem?_append_left (by simpa using hk)]
            simp [List.getElem?_map, List.getElem?_range hk]
          refine ⟨_, hr, ?_, fun j v x hv hx' u hu => ?_, fun k hk hst => ?_, fun k hk => ?_, fun b hb => hL.ro b hb, fun b hb => hI.roO b hb, fun k b hb => ?_⟩
          · rw [(omap_inv hx).1, hl1]
          · obtain ⟨v1, hv1, hr1⟩ := (omap_inv hx).2 j x hx'
            have h1 := hval j u v v1 hv hv1 hu
            exact renC_sound (N := N2) (Nc := canonN N2 (hpS hp base c) w C tab os) hC (fun _ h => h) hcur hptr 6 v1 x u h1 (renC_ag hag 6 _ _ hr1)
          · have hkb : k < base := Classical.byContradiction fun hn => hnog k hk (hgone k (by omega))
            have ht := htk k hk
            split at ht
            · rename_i hs
              refine ⟨?_, by rw [← hI.ν k hkb]; simp [canonN, ht]⟩
              unfold stays laid at hs
              cases hl : look c.bx k with
              | none => rw [hl] at hs; simp only [hkb, if_true] at hs; exact hs
              | some o =>
                obtain ⟨ds, cs, e, hb, _⟩ := hI.bx k o hl
                simp [stays, hb]
            · obtain ⟨o, h1, h2⟩ := hget k _ ht
              simp only [Option.some.injEq] at h2
              subst h2
              unfold stays at hst
              rw [hpOf_get h1] at hst
              cases hst
          · obtain ⟨o, h1, h2⟩ := hget k _ (htk k hk)
            rw [hpOf_get h1]
            split at h2
            · unfold canonObj at h2
              split at h2
              · split at h2
                · cases h2; simp
                · cases h2
              · split at h2
                · cases h2; simp
                · cases h2
              · cases h2; simp
              · cases h2
            · cases h2; simp
          · simp only [canonN] at hb
            split at hb
            · rename_i r ht; exact ⟨r, (hI.F r b hb).2⟩
            · exact hb.elim
        · cases hc
      · cases hc
end
end Lx
/- A whole run: from where the code stands to the call's return. -/
set_option linter.unusedVariables false
set_option linter.unusedSimpArgs false
namespace Lx
open Go
section
variable {Ty : Type} {El : Ty → Type} {C : Cod Ty El} {P : Program}

/-- From here the call returns, and what it leaves is R. -/
def Run (P : Program) (f : FuncId) (todo : List Item) (a : Act) (w : World) (R : Value → World → Prop) : Prop :=
  ∀ (b : Frame) (cs : List Frame), b.fn = f → b.kind = .normal → ∃ v w' fr, R v w' ∧ Steps P (lone (b.at a todo) cs w) (lone fr cs w') ∧ fr.fn = f ∧ fr.leaving P w' (.returned v)

theorem Run.step {f : FuncId} {todo todo' : List Item} {a : Act} {w : World} {R : Value → World → Prop} (hs : ∀ (b : Frame) cs, step P (lone (b.at a todo) cs w) = .next (lone (b.at a todo') cs w)) (h : Run P f todo' a w R) : Run P f todo a w R := by
  intro b cs hb hk
  obtain ⟨v, w', fr, hR, hst, hrest⟩ := h b cs hb hk
  exact ⟨v, w', fr, hR, .head (hs b cs) hst, hrest⟩

theorem Run.leave {f : FuncId} {fn : Func} (hf : P.funcs[f]? = some fn) {todo : List Item} {a : Act} {w : World} {R : Value → World → Prop} {v : Value} (ht : todo = [] ∨ ∃ k, todo = .code .ret :: k) (hd : a.defers = [])
    (hr : (results fn a.tmps).run P w = .ok v w) (hR : R v w) : Run P f todo a w R := by
  intro b cs hb hk
  refine ⟨v, w, { b.at a todo with mode := .returning }, hR, ?_, hb, rfl, hd, hk, fn, ?_, hr⟩
  · rcases ht with rfl | ⟨k, rfl⟩
    · exact .one step_end
    · exact .one step_ret
  · show P.funcs[b.fn]? = some fn
    rw [hb]; exact hf

theorem Run.code {f : FuncId} {c : Code} {k : List Item} {a : Act} {w : World} {R : Value → World → Prop} (h : c.wp P (fun e a' w' => e = .normal ∧ Run P f k a' w' R) a w) : Run P f (.code c :: k) a w R := by
  intro b cs hb hk
  obtain ⟨e, a', w', ⟨he, hq⟩, harr⟩ := h b k cs
  subst he
  obtain ⟨v, w2, fr, hR, hst, hrest⟩ := hq b cs hb hk
  exact ⟨v, w2, fr, hR, Steps.trans harr hst, hrest⟩

theorem Run.calls {f : FuncId} {fn : Func} {c : Code} {args : Array Value} {w : World} {R : Value → World → Prop} (hf : P.funcs[f]? = some fn) (hb : fn.body = some c)
    (h : Run P f [.code c] { tmps := args ++ Array.replicate (fn.ntmps - args.size) undef, defers := [] } w R) : Calls P f args w fun en w' => ∃ v, en = .returned v ∧ R v w' := by
  intro cs
  let b : Frame := { (default : Frame) with fn := f, kind := .normal }
  have henter : Frame.enter P f args .normal = b.at { tmps := args ++ Array.replicate (fn.ntmps - args.size) undef, defers := [] } [.code c] := by
    simp [Frame.enter, Frame.at, hf, hb, b]
  obtain ⟨v, w', fr, hR, hst, hfn, hl⟩ := h b cs rfl rfl
  rw [← henter] at hst
  exact ⟨.returned v, w', fr, ⟨v, rfl, hR⟩, hst, hfn, hl⟩

/-- What a returned call leaves. -/
def Post (C : Cod Ty El) (X : Cx) (res : AV Ty El) (H' : List (AObj Ty El)) (v : Value) (w' : World) : Prop :=
  ∃ N', HR C N' (hpOf H') w' ∧ RepA C N' w' v res ∧ (∀ k, k < X.m → stays (hpOf H') k = true → N'.ν k = X.ν0 k) ∧ (∀ b, X.ro0 b → N'.ro b) ∧ (∀ b, N'.ro b → X.ro0 b ∨ X.w0.heap.size ≤ b ∨ X.mine b) ∧ Fr X.w0 w' X.mine ∧
    (∀ k b, N'.F k b → X.w0.heap.size ≤ b ∨ X.mine b)

def Goes (R : RE Ty El) (f : FuncId) (todo : List Item) (tm : Nat → AV Ty El) (hp : Nat → AObj Ty El) (res : AV Ty El) (H' : List (AObj Ty El)) : Prop :=
  ∀ (X : Cx) (N : Nm) (a : Act) (w : World), X.n = R.fn.ntmps → X.m = R.m → SimN R.C X N tm hp a w → Run R.P f todo a w (Post R.C X res H')

def liveOf (R : RE Ty El) : List Item → List (Nat × Sh Ty)
  | .code (.region id _ _) :: _ => (cutAt R.cuts id).getD []
  | _ => []
def LeafOK (R : RE Ty El) (f : FuncId) (res : AV Ty El) (H' : List (AObj Ty El)) : Leaf Ty El → Prop
  | .ret v h => v = res ∧ h = H'
  | .go todo vals h => Goes R f todo (cutSt R.fn (liveOf R todo) vals h).tmF (cutSt R.fn (liveOf R todo) vals h).hpF res H'

/-- What stands ahead of a run: the program, the codings, the callees. -/
structure REOK (R : RE Ty El) (f : FuncId) : Prop where
  hC : CodOK R.P R.C
  hE : TabOK R.P R.C R.E
  mix : R.P.follows .mixedOrders = true
  fn : R.P.funcs[f]? = some R.fn

theorem results_run {fn : Func} {tmps : Array Value} {w : World} {vs : List Value} : ∀ {l : List ResultVar}, fn.results.toList = l →
    (l.mapM (fun (r : ResultVar) => match r with | .tmp t => (pure (tmps.getD t undef) : Sem Value) | .cell a t => do loadVar t (← asAddr (tmps.getD a undef)))).run P w = .ok vs w →
    (results fn tmps).run P w = .ok (if h : vs.length = 1 then vs[0] else .tuple vs.toArray) w := by
  intro l hl h
  unfold results
  have e : fn.results = l.toArray := by rw [← hl]
  rw [e, List.mapM_toArray]
  simp only [Sem.run_bind, Sem.run_map]
  have h' := h
  refine (congrArg (fun r => Result.andThen (Result.andThen r _) _) h').trans ?_
  simp only [Result.andThen_ok, Sem.run_pure]
  congr 1

theorem resVals_sound {R : RE Ty El} (hC : CodOK R.P R.C) {X : Cx} {N : Nm} {s : St Ty El} {a : Act} {w : World} (hS : SimN R.C X N s.tmF s.hpF a w) (hn : s.tm.length = X.n) : ∀ (l : List ResultVar) (vs : List (AV Ty El)), resVals R s l = some vs →
    ∃ us : List Value, (l.mapM (fun (r : ResultVar) => match r with | .tmp t => (pure (a.tmps.getD t undef) : Sem Value) | .cell p t => do loadVar t (← asAddr (a.tmps.getD p undef)))).run R.P w = .ok us w ∧ us.length = vs.length ∧
      ∀ (j : Nat) u v, us[j]? = some u → vs[j]? = some v → RepA R.C N w u v
  | [], vs, h => by
    simp only [resVals, Option.some.injEq] at h
    subst h
    exact ⟨[], by simp, rfl, fun j u v hu => by simp at hu⟩
  | r :: l, vs, h => by
    have hout : ∀ t, X.n ≤ t → s.tmF t = .dead := fun t ht => by
      have : s.tm.length ≤ t := hn ▸ ht
      simp [St.tmF, this]
    have glue : ∀ (u : Value) (v : AV Ty El) (vs' : List (AV Ty El)), RepA R.C N w u v → resVals R s l = some vs' → vs = v :: vs' →
        (match r with | .tmp t => (pure (a.tmps.getD t undef) : Sem Value) | .cell p t => do loadVar t (← asAddr (a.tmps.getD p undef))).run R.P w = .ok u w →
        ∃ us : List Value, ((r :: l).mapM (fun (r : ResultVar) => match r with | .tmp t => (pure (a.tmps.getD t undef) : Sem Value) | .cell p t => do loadVar t (← asAddr (a.tmps.getD p undef)))).run R.P w = .ok us w ∧ us.length = vs.length ∧
          ∀ (j : Nat) u v, us[j]? = some u → vs[j]? = some v → RepA R.C N w u v := by
      intro u v vs' hu hr hvs hrun
      subst hvs
      obtain ⟨us, h1, h2, h3⟩ := resVals_sound hC hS hn l vs' hr
      refine ⟨u :: us, ?_, by simp [h2], fun j u' v' hu' hv' => ?_⟩
      · rw [List.mapM_cons]
        simp only [Sem.run_bind]
        rw [hrun]
        simp only [Result.andThen_ok, Sem.run_bind]
        rw [h1]
        simp only [Result.andThen_ok, Sem.run_pure]
      · cases j with
        | zero => simp only [List.getElem?_cons_zero, Option.some.injEq] at hu' hv'; subst hu'; subst hv'; exact hu
        | succ j => exact h3 j u' v' (by simpa using hu') (by simpa using hv')
    cases r with
    | tmp t =>
      simp only [resVals] at h
      split at h
      · rename_i vs' hr
        simp only [Option.some.injEq] at h
        exact glue (a.tmps.getD t undef) (s.tmF t) vs' (hS.evalO hout (.tmp t)) hr h.symm (by simp)
      · cases h
    | cell p t =>
      simp only [resVals] at h
      split at h
      · rename_i v rd hl
        split at h
        · rename_i vs' hr
          simp only [Option.some.injEq] at h
          obtain ⟨u, hu1, hu2⟩ := loadA_sound hC hS.hr (hS.evalO hout (.tmp p)) hl
          refine glue u v vs' hu2 hr h.symm ?_
          have hu1' : (Instr.loadAt t (a.tmps.getD p undef)).run R.P w = .ok u w := hu1
          show (do loadVar t (← asAddr (a.tmps.getD p undef)) : Sem Value).run R.P w = .ok u w
          generalize a.tmps.getD p undef = q at hu1' ⊢
          cases q with
          | pointer o => cases o with
            | some ad => exact hu1'
            | none => simp [Instr.loadAt, Instr.sureAddr] at hu1'
          | _ => simp [Instr.loadAt, Instr.sureAddr] at hu1'
        · cases h
      · cases h

theorem setAll_get : ∀ (ls : List (Nat × Sh Ty)) (vs : List (AV Ty El)) (tm : List (AV Ty El)) (t : Nat), (setAll tm ls vs).getD t .dead = tm.getD t .dead ∨
    ∃ (j : Nat) (p : Nat × Sh Ty) (x : AV Ty El), ls[j]? = some p ∧ p.1 = t ∧ vs[j]? = some x ∧ (setAll tm ls vs).getD t .dead = x
  | [], vs, tm, t => .inl (by cases vs <;> rfl)
  | p :: ls, [], tm, t => .inl rfl
  | (t0, sh) :: ls, v :: vs, tm, t => by
    simp only [setAll]
    rcases setAll_get ls vs (setL tm t0 v) t with h | ⟨j, p, x, h1, h2, h3, h4⟩
    · rw [setL_getD] at h
      by_cases hc : t = t0 ∧ t0 < tm.length
      · rw [if_pos hc] at h
        exact .inr ⟨0, (t0, sh), v, rfl, hc.1.symm, rfl, h⟩
      · rw [if_neg hc] at h
        exact .inl h
    · exact .inr ⟨j + 1, p, x, by simpa using h1, h2, by simpa using h3, h4⟩
theorem setAll_length : ∀ (ls : List (Nat × Sh Ty)) (vs : List (AV Ty El)) (tm : List (AV Ty El)), (setAll tm ls vs).length = tm.length
  | [], vs, tm => by cases vs <;> rfl
  | p :: ls, [], tm => rfl
  | (t0, sh) :: ls, v :: vs, tm => by simp only [setAll]; rw [setAll_length ls vs, setL_length]

theorem retLeaf_sound {R : RE Ty El} {f : FuncId} (hR : REOK R f) {s : St Ty El} {lf : Leaf Ty El} {res : AV Ty El} {H' : List (AObj Ty El)} (h : retLeaf R s = some lf) (hlf : LeafOK R f res H' lf) (hn : s.tm.length = R.fn.ntmps)
    {todo : List Item} (ht : todo = [] ∨ ∃ k, todo = .code .ret :: k) : Goes R f todo s.tmF s.hpF res H' := by
  intro X N a w hXn hXm hS
  unfold retLeaf at h
  split at h
  · cases h
  · rename_i vs hv
    split at h
    · rename_i xs hh hc
      simp only [Option.some.injEq] at h
      subst h
      obtain ⟨rfl, rfl⟩ := hlf
      obtain ⟨us, h1, h2, h3⟩ := resVals_sound hR.hC hS (hn.trans hXn.symm) _ vs hv
      obtain ⟨N', hcr⟩ := canonAll_sound hR.hC hS.hr (fun r hr => by simp [St.hpF, hr]) (fun k hk => hS.nog k (hXm ▸ hk)) hc
      refine Run.leave hR.fn ht hS.defers (results_run rfl h1) ⟨N', hcr.hr, ?_, fun k hk hst => ?_, fun b hb => hcr.roI b (hS.roI b hb), fun b hb => ?_, hS.fr, fun k b hb => ?_⟩
      · have hval : ∀ (j : Nat) u x, us[j]? = some u → xs[j]? = some x → RepA R.C N' w u x := fun j u x hu hx => by
          have hj : j < vs.length := by rw [← h2]; exact (List.getElem?_eq_some_iff.1 hu).1
          have hvj : vs[j]? = some vs[j] := List.getElem?_eq_getElem hj
          exact hcr.val j vs[j] x hvj hx u (h3 j u vs[j] hu hvj)
        have hlen : us.length = xs.length := h2.trans hcr.len.symm
        by_cases h1' : us.length = 1
        · rw [dif_pos h1']
          have hx1 : xs.length = 1 := hlen ▸ h1'
          match xs, hx1, hval with
          | [x], _, hval => exact hval 0 us[0] x (List.getElem?_eq_getElem (by omega)) rfl
        · rw [dif_neg h1']
          have hone : one xs = .tup xs := by
            match xs, hlen with
            | [], _ => rfl
            | [x], hl => exact absurd hl h1'
            | x :: y :: l, _ => rfl
          rw [hone]
          exact .tup us.toArray xs (by simpa using hlen) fun j u x hu hx => hval j u x (by simpa using hu) hx
      · rw [hXm] at hk
        obtain ⟨h1', h2'⟩ := hcr.io k hk hst
        exact h2'.trans (hS.io k (hXm ▸ hk) h1')
      · rcases hcr.roO b hb with h | ⟨r, h⟩
        · exact hS.roO b h
        · exact .inr (hS.live r b h)
      · obtain ⟨r, h⟩ := hcr.blk k b hb
        exact hS.live r b h
    · cases h

theorem goLeaf_sound {R : RE Ty El} {f : FuncId} (hR : REOK R f) {s : St Ty El} {lf : Leaf Ty El} {res : AV Ty El} {H' : List (AObj Ty El)} {todo : List Item} (h : goLeaf R (liveOf R todo) todo s = some lf) (hlf : LeafOK R f res H' lf)
    (hn : s.tm.length = R.fn.ntmps) : Goes R f todo s.tmF s.hpF res H' := by
  intro X N a w hXn hXm hS
  unfold goLeaf at h
  split at h
  · rename_i xs hh hc
    simp only [Option.some.injEq] at h
    subst h
    obtain ⟨N', hcr⟩ := canonAll_sound hR.hC hS.hr (fun r hr => by simp [St.hpF, hr]) (fun k hk => hS.nog k (hXm ▸ hk)) hc
    refine hlf X N' a w hXn hXm ⟨hcr.hr, fun t ht => ?_, hS.size, hS.defers, hS.fr, fun r b hb => ?_, fun k hk hst => ?_, fun k hk => hcr.nog k (hXm ▸ hk), fun b hb => hcr.roI b (hS.roI b hb), fun b hb => ?_⟩
    · rcases setAll_get (liveOf R todo) xs (List.replicate R.fn.ntmps .dead) t with h1 | ⟨j, p, x, h1, h2, h3, h4⟩
      · have e : (cutSt R.fn (liveOf R todo) xs hh).tmF t = .dead := by
          show (setAll _ _ _).getD t .dead = _
          rw [h1, List.getD_eq_getElem?_getD, List.getElem?_replicate]
          split <;> rfl
        rw [e]; exact .dead _
      · have e : (cutSt R.fn (liveOf R todo) xs hh).tmF t = x := h4
        rw [e]
        refine hcr.val j (s.tmF t) x ?_ h3 _ (hS.tmps t ht)
        rw [List.getElem?_map, h1]
        simp [h2]
    · obtain ⟨r', h⟩ := hcr.blk r b hb
      exact hS.live r' b h
    · obtain ⟨h1', h2'⟩ := hcr.io k (hXm ▸ hk) hst
      exact h2'.trans (hS.io k hk h1')
    · rcases hcr.roO b hb with h | ⟨r, h⟩
      · exact hS.roO b h
      · exact .inr (hS.live r b h)
  · cases h

theorem aRun_sound {R : RE Ty El} {f : FuncId} (hR : REOK R f) {res : AV Ty El} {H' : List (AObj Ty El)} : ∀ (n : Nat) (first : Bool) (todo : List Item) (s : St Ty El) (lf : Leaf Ty El), aRun R n first todo s = some lf → LeafOK R f res H' lf →
    s.tm.length = R.fn.ntmps → Goes R f todo s.tmF s.hpF res H' := by
  intro n
  induction n with
  | zero => intro first todo s lf h; simp [aRun] at h
  | succ n ih =>
    intro first todo s lf h hlf hn
    have hop : ∀ {todo todo' : List Item} {s : St Ty El}, (∀ a w, ∀ (b : Frame) cs, step R.P (lone (b.at a todo) cs w) = .next (lone (b.at a todo') cs w)) → Goes R f todo' s.tmF s.hpF res H' → Goes R f todo s.tmF s.hpF res H' :=
      fun hs hg X N a w hXn hXm hS => Run.step (hs a w) (hg X N a w hXn hXm hS)
    cases todo with
    | nil => exact retLeaf_sound hR h hlf hn (.inl rfl)
    | cons it k =>
      cases it with
      | code c =>
        cases c with
        | skip => exact hop (fun _ _ _ _ => step_skip) (ih _ _ _ _ h hlf hn)
        | label l => exact hop (fun _ _ _ _ => step_label) (ih _ _ _ _ h hlf hn)
        | seq x y => exact hop (fun _ _ _ _ => step_seq) (ih _ _ _ _ h hlf hn)
        | block id c => exact hop (fun _ _ _ _ => step_block) (ih _ _ _ _ h hlf hn)
        | loop c => exact hop (fun _ _ _ _ => step_loop) (ih _ _ _ _ h hlf hn)
        | exit id =>
          simp only [aRun] at h
          split at h
          · rename_i k' hk'
            exact hop (fun _ _ _ _ => step_exit hk') (ih _ _ _ _ h hlf hn)
          · cases h
        | ret => exact retLeaf_sound hR h hlf hn (.inr ⟨k, rfl⟩)
        | cond c x y =>
          simp only [aRun] at h
          split at h
          · rename_i t hc
            have hout : ∀ {X : Cx}, X.n = R.fn.ntmps → ∀ t, X.n ≤ t → s.tmF t = .dead := fun hXn t ht => by
              have : s.tm.length ≤ t := by rw [hn, ← hXn]; exact ht
              simp [St.tmF, this]
            intro X N a w hXn hXm hS
            have hv := hS.evalO (hout hXn) c
            rw [hc] at hv
            have hb := hv.inv_bool
            refine Run.step (fun b cs => step_cond hb) ?_
            cases t with
            | true => exact ih _ _ _ _ h hlf hn X N a w hXn hXm hS
            | false => exact ih _ _ _ _ h hlf hn X N a w hXn hXm hS
          · cases h
        | region id ops draw =>
          simp only [aRun] at h
          split at h
          · rename_i live hlive
            have hl : live = liveOf R (.code (.region id ops draw) :: k) := by
              cases first with
              | true => simp at hlive
              | false => simp only [Bool.false_eq_true, if_false] at hlive; simp [liveOf, hlive]
            rw [hl] at h
            exact goLeaf_sound hR h hlf hn
          · intro X N a w hXn hXm hS
            refine Run.code (region_sound hR.hC hR.mix hR.hE (K := fun s _ => aRun R n false k s) hS (hn.trans hXn.symm) h fun a' w' N' s' lg hn' hS' hk => ⟨rfl, ?_⟩)
            exact ih _ _ _ _ hk hlf (hn'.trans hXn) X N' a' w' hXn hXm hS'
        | _ => simp [aRun] at h
      | inBlock id => exact hop (fun _ _ _ _ => step_inBlock) (ih _ _ _ _ h hlf hn)
      | inLoop c => exact hop (fun _ _ _ _ => step_inLoop) (ih _ _ _ _ h hlf hn)
      | _ => simp [aRun] at h

/-- A function's contract, from its run. -/
theorem callOK_of_goes {R : RE Ty El} {f : FuncId} (hR : REOK R f) {c : Code} (hb : R.fn.body = some c) {args : List (AV Ty El)} {H : List (AObj Ty El)} {res : AV Ty El} {H' : List (AObj Ty El)} (hm : R.m = H.length) (hH : H.all (fun o => match o with | .gone => false | _ => true) = true)
    (hargs : args.length ≤ R.fn.ntmps) (h : Goes R f [.code c] (initSt R.fn args H).tmF (initSt R.fn args H).hpF res H') : CallOK R.P R.C f args H res H' := by
  intro w N vs hHR hsz hrep
  let X : Cx := ⟨w, fun b => ∃ k, N.F k b, H.length, N.ν, N.ro, R.fn.ntmps⟩
  have hS : SimN R.C X N (initSt R.fn args H).tmF (initSt R.fn args H).hpF { tmps := vs ++ Array.replicate (R.fn.ntmps - vs.size) undef, defers := [] } w := by
    refine ⟨hHR, fun t ht => ?_, ?_, rfl, ⟨rfl, rfl, rfl, Nat.le_refl _, fun b _ _ => rfl⟩, fun r b hb => .inr ⟨r, hb⟩, fun k hk _ => rfl, fun k hk => ?_, fun b hb => hb, fun b hb => .inl hb⟩
    · show RepA _ _ _ _ ((args ++ List.replicate (R.fn.ntmps - args.length) undefA).getD t .dead)
      by_cases hta : t < args.length
      · have h1 : vs[t]? = some vs[t] := Array.getElem?_eq_getElem (by omega)
        have h2 : args[t]? = some args[t] := List.getElem?_eq_getElem hta
        have e1 : (vs ++ Array.replicate (R.fn.ntmps - vs.size) undef).getD t undef = vs[t] := by
          rw [Array.getD_eq_getD_getElem?, Array.getElem?_append_left (by omega), h1]; rfl
        have e2 : (args ++ List.replicate (R.fn.ntmps - args.length) undefA).getD t .dead = args[t] := by
          rw [List.getD_eq_getElem?_getD, List.getElem?_append_left hta, h2]; rfl
        show RepA _ _ _ ((vs ++ Array.replicate (R.fn.ntmps - vs.size) undef).getD t undef) _
        rw [e1, e2]
        exact hrep t _ _ h1 h2
      · have ht' : t < R.fn.ntmps := by
          have : t < (vs ++ Array.replicate (R.fn.ntmps - vs.size) undef).size := ht
          simp at this; omega
        have e1 : (vs ++ Array.replicate (R.fn.ntmps - vs.size) undef).getD t undef = undef := by
          rw [Array.getD_eq_getD_getElem?, Array.getElem?_append_right (by omega), Array.getElem?_replicate]
          split <;> rfl
        have e2 : (args ++ List.replicate (R.fn.ntmps - args.length) undefA).getD t .dead = undefA := by
          rw [List.getD_eq_getElem?_getD, List.getElem?_append_right (by omega), List.getElem?_replicate, if_pos (by omega)]; rfl
        show RepA _ _ _ ((vs ++ Array.replicate (R.fn.ntmps - vs.size) undef).getD t undef) _
        rw [e1, e2]
        exact .tup #[] [] rfl (fun j v c h => by simp at h)
    · show (vs ++ Array.replicate (R.fn.ntmps - vs.size) undef).size = R.fn.ntmps
      simp; omega
    · have hk' : k < H.length := hk
      show hpOf H k ≠ _
      have hg : hpOf H k = H[k] := by simp [hpOf, hk']
      rw [hg]
      have := List.all_eq_true.1 hH H[k] (List.getElem_mem hk')
      intro e
      rw [e] at this; simp at this
  have hrun := h X N _ w rfl hm.symm hS
  refine (Run.calls hR.fn hb hrun).mono ?_
  rintro en w' ⟨v, rfl, N', h1, h2, h3, h4, h5, h6, h7⟩
  exact ⟨v, N', rfl, h1, h2, h3, h4, h5, h6, h7⟩
end
end Lx
/- What a function's proof uses: trees and their leaves. -/
set_option linter.unusedVariables false
namespace Lx
open Go
section
variable {Ty : Type} {El : Ty → Type}

def Sat (R : RE Ty El) (f : FuncId) (res : AV Ty El) (H' : List (AObj Ty El)) (T : Option (Leaf Ty El)) : Prop := ∃ lf, T = some lf ∧ LeafOK R f res H' lf
variable {R : RE Ty El} {f : FuncId} {res : AV Ty El} {H' : List (AObj Ty El)}
theorem Sat.ifb {c : Bool} {A B : Option (Leaf Ty El)} (h1 : c = true → Sat R f res H' A) (h2 : c = false → Sat R f res H' B) : Sat R f res H' (ifb c A B) := by
  cases c with
  | true => exact h1 rfl
  | false => exact h2 rfl
theorem Sat.ret {v : AV Ty El} {h : List (AObj Ty El)} (hv : v = res) (hh : h = H') : Sat R f res H' (some (.ret v h)) := ⟨_, rfl, hv, hh⟩
theorem Sat.go {todo : List Item} {vals : List (AV Ty El)} {h : List (AObj Ty El)} (hg : Goes R f todo (cutSt R.fn (liveOf R todo) vals h).tmF (cutSt R.fn (liveOf R todo) vals h).hpF res H') : Sat R f res H' (some (.go todo vals h)) := ⟨_, rfl, hg⟩
theorem Sat.retB {a b : Bool} {h : List (AObj Ty El)} (hv : a = b) (hh : h = H') : Sat R f (.bool b) H' (some (.ret (.bool a) h)) := ⟨_, rfl, by rw [hv], hh⟩
theorem Sat.retI {a b : Int} {h : List (AObj Ty El)} (hv : a = b) (hh : h = H') : Sat R f (.int .i64 b) H' (some (.ret (.int .i64 a) h)) := ⟨_, rfl, by rw [hv], hh⟩
theorem Sat.no {T : Option (Leaf Ty El)} (h : False) : Sat R f res H' T := h.elim

/-- A run from a cut. -/
def Cut (R : RE Ty El) (f : FuncId) (id : Nat) (vals : List (AV Ty El)) (h : List (AObj Ty El)) (res : AV Ty El) (H' : List (AObj Ty El)) : Prop :=
  Goes R f (todoAt R.fn id) (cutSt R.fn (liveOf R (todoAt R.fn id)) vals h).tmF (cutSt R.fn (liveOf R (todoAt R.fn id)) vals h).hpF res H'
theorem Sat.cut {id : Nat} {vals : List (AV Ty El)} {h : List (AObj Ty El)} (hg : Cut R f id vals h res H') : Sat R f res H' (some (.go (todoAt R.fn id) vals h)) := ⟨_, rfl, hg⟩
theorem Cut.of (hR : REOK R f) {id : Nat} {vals : List (AV Ty El)} {h : List (AObj Ty El)} {live : List (Nat × Sh Ty)} {fuel : Nat} {T : Option (Leaf Ty El)} (hl : liveOf R (todoAt R.fn id) = live) (ht : aRun R fuel true (todoAt R.fn id) (cutSt R.fn live vals h) = T) (hs : Sat R f res H' T) : Cut R f id vals h res H' := by
  obtain ⟨lf, h1, h2⟩ := hs
  subst h1
  subst hl
  exact aRun_sound hR _ _ _ _ _ ht h2 (by simp [cutSt, setAll_length])
def fitsB (R : RE Ty El) (args : List (AV Ty El)) (H : List (AObj Ty El)) : Bool :=
  R.fn.body.isSome && (decide (R.m = H.length) && (decide (args.length ≤ R.fn.ntmps) && H.all (fun o => match o with | .gone => false | _ => true)))
theorem CallOK.of (hR : REOK R f) {args : List (AV Ty El)} {H : List (AObj Ty El)} {fuel : Nat} {T : Option (Leaf Ty El)} (hfit : fitsB R args H = true) (ht : aRun R fuel false (body0 R.fn) (initSt R.fn args H) = T) (hs : Sat R f res H' T) : CallOK R.P R.C f args H res H' := by
  obtain ⟨lf, h1, h2⟩ := hs
  subst h1
  simp only [fitsB, Bool.and_eq_true, decide_eq_true_eq] at hfit
  obtain ⟨hb, hm, hargs, hH⟩ := hfit
  obtain ⟨c, hb⟩ := Option.isSome_iff_exists.1 hb
  have hb0 : body0 R.fn = [.code c] := by simp [body0, hb]
  rw [hb0] at ht
  refine callOK_of_goes hR hb hm hH hargs (aRun_sound hR _ _ _ _ _ ht h2 ?_)
  simp [initSt]; omega
theorem wrap_ok {n : Int} (h1 : -9223372036854775808 ≤ n) (h2 : n < 9223372036854775808) : IntKind.wrap .i64 n = n := by
  unfold IntKind.wrap
  first | (simp [IntKind.bits, IntKind.signed]; omega) | (simp; omega) | trace_state
end
end Lx
/- A law: its arguments as data, what its call leaves. -/
set_option linter.unusedVariables false
set_option linter.unusedSimpArgs false
namespace Lx
open Go
section
variable {Ty : Type} {El : Ty → Type} {C : Cod Ty El} {P : Program}

/-- All that is there is read; nothing is the call's own. -/
def nmAll (w : World) : Nm := ⟨fun _ => undef, fun _ _ => False, fun _ _ _ _ => False, fun b => b < w.heap.size⟩
theorem hr_all (w : World) : HR C (nmAll w) (hpOf ([] : List (AObj Ty El))) w where
  obj := fun r => by simp only [hpOf, List.getD_nil]; exact fun b h => h
  reg := fun r p v u h => h.elim
  full := fun r => by simp only [hpOf, List.getD_nil]; trivial
  one := fun r p v u h => h.elim
  dist := fun r r' b h => h.elim
  roNot := fun r b h => h.elim
  roLt := fun b h => h

/-- What a reading of n cells gives. -/
def Rd (P : Program) (C : Cod Ty El) (t : TypeId) (n : Nat) (Φ : List (AV Ty El) → Prop) : Prop :=
  ∀ (H : Type) (enc : TypeId × Value → H) (w : World) (fuel : Nat) (cs : List Value) (x : DataW H × List MemPlace), DataW.trod enc P w 0 (fun _ => true) true fuel t cs = some x →
    cs.length = n ∧ ∃ L : List (AV Ty El), L.length = n ∧ Φ L ∧ ∀ (j : Nat) v c, cs[j]? = some v → L[j]? = some c → RepA C (nmAll w) w v c

theorem one_rep {w : World} {v : Value} {c : AV Ty El} (h : RepA C (nmAll w) w v c) : ∀ (j : Nat) v' c', [v][j]? = some v' → [c][j]? = some c' → RepA C (nmAll w) w v' c' := fun j v' c' h1 h2 => by
  match j with
  | 0 => simp only [List.getElem?_cons_zero, Option.some.injEq] at h1 h2; subst h1; subst h2; exact h
  | j + 1 => simp at h1
theorem Rd.int {t : TypeId} {k : IntKind} (ht : P.underlying t = some (.int k)) : Rd P C t 1 (fun L => ∃ n, L = [.int k n] ∧ (Lit.int k n).wf = true) := fun H enc w fuel cs x h => by
  obtain ⟨n, rfl, _, hw⟩ := DataW.trod_int ht h
  exact ⟨rfl, [.int k n], rfl, ⟨n, rfl, hw⟩, one_rep (.int k n)⟩
theorem Rd.str {t : TypeId} (ht : P.underlying t = some .string) : Rd P C t 1 (fun L => ∃ s : List UInt8, L = [.str s] ∧ s.length ≤ maxLen) := fun H enc w fuel cs x h => by
  obtain ⟨s, rfl, _, hs⟩ := DataW.trod_string ht h
  exact ⟨rfl, [.str s.data.toList], rfl, ⟨_, rfl, by simpa using hs⟩, one_rep (.str s _ rfl)⟩
theorem Rd.bool {t : TypeId} (ht : P.underlying t = some .bool) : Rd P C t 1 (fun L => ∃ b, L = [.bool b]) := fun H enc w fuel cs x h => by
  obtain ⟨b, rfl, _⟩ := DataW.trod_bool ht h
  exact ⟨rfl, [.bool b], rfl, ⟨b, rfl⟩, one_rep (.bool b)⟩

/-- .. of a struct's fields. -/
inductive RdL (P : Program) (C : Cod Ty El) : List Field → Nat → Nat → (List (AV Ty El) → Prop) → Prop
  | nil (off : Nat) : RdL P C [] off 0 (fun L => L = [])
  | cons (f : Field) (fs : List Field) (off n m : Nat) (Φ Ψ : List (AV Ty El) → Prop) (ho : f.offset = off) (h : Rd P C f.type n Φ) (hs : RdL P C fs (off + n) m Ψ) :
      RdL P C (f :: fs) off (n + m) (fun L => ∃ A B, L = A ++ B ∧ Φ A ∧ Ψ B)
theorem RdL.read {H : Type} {enc : TypeId × Value → H} {w : World} {fuel : Nat} {cs : List Value} : ∀ {fs : List Field} {off n : Nat} {Φ : List (AV Ty El) → Prop}, RdL P C fs off n Φ →
    (∀ f ∈ fs, ∃ y, DataW.trod enc P w 0 (fun _ => true) true fuel f.type ((cs.drop f.offset).take (P.cellsOf f.type)) = some y) →
    ∃ L : List (AV Ty El), L.length = n ∧ Φ L ∧ ∀ (j : Nat) v c, cs[off + j]? = some v → L[j]? = some c → RepA C (nmAll w) w v c := by
  intro fs off n Φ h
  induction h with
  | nil off => exact fun _ => ⟨[], rfl, rfl, fun j v c _ h => by simp at h⟩
  | cons f fs off n m Φ Ψ ho h hs ih =>
    intro hf
    obtain ⟨y, hy⟩ := hf f (List.mem_cons.2 (.inl rfl))
    obtain ⟨hl, A, hA, hΦ, hr⟩ := h H enc w fuel _ _ hy
    obtain ⟨B, hB, hΨ, hr'⟩ := ih (fun g hg => hf g (List.mem_cons.2 (.inr hg)))
    refine ⟨A ++ B, by simp [hA, hB], ⟨A, B, rfl, hΦ, hΨ⟩, fun j v c hv hc => ?_⟩
    by_cases hj : j < n
    · rw [List.getElem?_append_left (by omega)] at hc
      refine hr j v c ?_ hc
      have : n ≤ P.cellsOf f.type := by
        rw [← hl, List.length_take]; omega
      rw [List.getElem?_take_of_lt (by omega), List.getElem?_drop, ho]
      exact hv
    · rw [List.getElem?_append_right (by omega), hA] at hc
      refine hr' (j - n) v c ?_ hc
      rw [show off + n + (j - n) = off + j by omega]
      exact hv
theorem Rd.struct {t : TypeId} {fs : Array Field} {n : Nat} {Φ : List (AV Ty El) → Prop} (ht : P.underlying t = some (.struct fs)) (hn : P.cellsOf t = n) (h : RdL P C fs.toList 0 n Φ) : Rd P C t n Φ := fun H enc w fuel cs x hx => by
  obtain ⟨xs, m, rfl, _, hl, hlen, hf⟩ := DataW.trod_struct ht hx
  obtain ⟨L, h1, h2, h3⟩ := h.read (enc := enc) (w := w) (fuel := m) (cs := cs) (fun f hm => by
    obtain ⟨i, hi⟩ := List.getElem?_of_mem hm
    have hi' : fs[i]? = some f := by simpa using hi
    have hlt : i < fs.size := (Array.getElem?_eq_some_iff.1 hi').1
    rw [hf i f hi']
    exact ⟨xs[i]'(by omega), List.getElem?_eq_getElem (by omega)⟩)
  exact ⟨hl.trans hn, L, h1, h2, fun j v c hv hc => h3 j v c (by rw [Nat.zero_add]; exact hv) hc⟩

theorem Rd.slice (hC : CodOK P C) {t e : TypeId} {T : Ty} {Φ : List (AV Ty El) → Prop} {Q : El T → Prop} (ht : P.underlying t = some (.slice e)) (hn : P.cellsOf e = C.sz T) (he : Rd P C e (C.sz T) Φ)
    (hq : ∀ L, Φ L → ∃ x : El T, C.row T x = L ∧ Q x) : Rd P C t 1 (fun L => ∃ xs : List (El T), L = [.sl T xs] ∧ xs.length ≤ maxLen ∧ ∀ x ∈ xs, Q x) := fun H enc w fuel cs x hx => by
  rcases Go.Deep.open_slice ht hx with ⟨rfl, _⟩ | ⟨a, len, cap, m, n, D, Pl, rfl, _, hle, hcap, hm, _, hel⟩
  · exact ⟨rfl, [.sl T []], rfl, ⟨[], rfl, Nat.zero_le _, fun x hx => by cases hx⟩, one_rep (.sl0 T none 0)⟩
  · have hm' : m = cap := by simpa using hm
    refine ⟨rfl, ?_⟩
    rcases Nat.eq_zero_or_pos len with h0 | h0
    · subst h0
      exact ⟨[.sl T []], rfl, ⟨[], rfl, Nat.zero_le _, fun x hx => by cases hx⟩, one_rep (.sl0 T _ cap)⟩
    have hpos := hC.pos T
    have hone : ∀ i, i < len → ∃ y : El T, Q y ∧ ∀ (j : Nat) c, (C.row T y)[j]? = some c → ∃ u, w.cell? ((a.add (i * C.sz T)).add j) = some u ∧ RepA C (nmAll w) w u c := fun i hi => by
      obtain ⟨cs', h1, h2⟩ := hel i (by omega)
      rw [hn] at h1
      obtain ⟨_, hl, hc⟩ := World.cells?_some h1
      obtain ⟨_, L, hL, hΦ, hr⟩ := he H enc w n cs' _ h2
      obtain ⟨y, rfl, hQ⟩ := hq L hΦ
      refine ⟨y, hQ, fun j c hjc => ?_⟩
      have hj : j < C.sz T := RowI.sz hC hjc
      refine ⟨cs'[j]'(by omega), ?_, hr j _ c (List.getElem?_eq_getElem (by omega)) hjc⟩
      rw [hc j hj]
      exact List.getElem?_eq_getElem (by omega)
    haveI : Inhabited (El T) := ⟨C.dflt T⟩
    obtain ⟨X, hX⟩ := Go.Deep.choose_lt hone
    have hsp : a.spot = none := by
      obtain ⟨c, hc⟩ := RowI.getc hC (X 0) hpos
      obtain ⟨u, hu, _⟩ := (hX 0 h0).2 0 c hc
      have := World.cell?_spot hu
      simp only [Nat.zero_mul] at this
      have e0 : ∀ b : Addr, b.add 0 = b := fun b => by unfold Addr.add; rw [if_pos rfl]
      rw [e0, e0] at this
      exact this
    obtain ⟨b, o, sp⟩ := a
    simp only at hsp
    subst hsp
    refine ⟨[.sl T ((List.range len).map X)], rfl, ⟨_, rfl, by simp only [List.length_map, List.length_range]; omega, fun x hx => ?_⟩, one_rep ?_⟩
    · obtain ⟨i, hi, rfl⟩ := List.mem_map.1 hx
      exact (hX i (List.mem_range.1 hi)).1
    · have hb : b < w.heap.size := by
        obtain ⟨c, hc⟩ := RowI.getc hC (X 0) hpos
        obtain ⟨u, hu, _⟩ := (hX 0 h0).2 0 c hc
        simp only [Go.WideShapes.add_plain] at hu
        unfold World.cell? at hu
        split at hu
        · rename_i hh
          exact (Array.getElem?_eq_some_iff.1 hh).1
        · cases hu
      refine RepA.mkSl hC (by simp) hle (fun _ => hb) (fun i j c hi hc => ?_)
      have hg : ((List.range len).map X).getD i (C.dflt T) = X i := by simp [List.getD, hi]
      rw [hg] at hc
      obtain ⟨u, hu, hr⟩ := (hX i hi).2 j c hc
      rw [Go.WideShapes.add_plain, Go.WideShapes.add_plain, Nat.add_assoc] at hu
      exact ⟨u, hu, hr⟩

/-- An argument. -/
def Ar (P : Program) (C : Cod Ty El) (t : TypeId) (Φ : AV Ty El → Prop) : Prop :=
  ∀ (H : Type) (enc : TypeId × Value → H) (w : World) (base : Nat) (v : Value) (d : DataW H) (ps : List MemPlace), Value.okWide P w .any base t v → DataW.Trod enc P w 0 (fun _ => true) true t v d ps → ∃ x, RepA C (nmAll w) w v x ∧ Φ x
theorem Ar.str {t : TypeId} (ht : P.underlying t = some .string) : Ar P C t (fun x => ∃ s : List UInt8, x = .str s ∧ s.length ≤ maxLen) := fun H enc w base v d ps hv ⟨fuel, h⟩ => by
  obtain ⟨s, rfl⟩ := Go.WideShapes.okWide_string ht hv
  obtain ⟨s', hc, _, hs⟩ := DataW.trod_string ht h
  simp [Value.cells] at hc
  subst hc
  exact ⟨_, .str s _ rfl, _, rfl, by simpa using hs⟩
theorem Ar.int {t : TypeId} {k : IntKind} (ht : P.underlying t = some (.int k)) : Ar P C t (fun x => ∃ n, x = .int k n ∧ (Lit.int k n).wf = true) := fun H enc w base v d ps hv ⟨fuel, h⟩ => by
  obtain ⟨n, rfl⟩ := Go.WideShapes.okWide_int ht hv
  obtain ⟨n', hc, _, hs⟩ := DataW.trod_int ht h
  simp [Value.cells] at hc
  subst hc
  exact ⟨_, .int k n, n, rfl, hs⟩
theorem Ar.slice {t e : TypeId} {T : Ty} {Q : List (El T) → Prop} (ht : P.underlying t = some (.slice e)) (h : Rd P C t 1 (fun L => ∃ xs : List (El T), L = [.sl T xs] ∧ Q xs)) : Ar P C t (fun x => ∃ xs : List (El T), x = .sl T xs ∧ Q xs) := fun H enc w base v d ps hv ⟨fuel, hx⟩ => by
  obtain ⟨a, n, cap, rfl⟩ := Go.WideShapes.okWide_slice ht hv
  obtain ⟨_, L, _, ⟨xs, rfl, hq⟩, hr⟩ := h H enc w fuel _ _ hx
  exact ⟨_, hr 0 _ _ (by simp [Value.cells]) rfl, xs, rfl, hq⟩
theorem Ar.struct {t : TypeId} {fs : Array Field} {n : Nat} {Φ : List (AV Ty El) → Prop} (ht : P.underlying t = some (.struct fs)) (h : Rd P C t n Φ) : Ar P C t (fun x => ∃ L, x = .agg L ∧ Φ L) := fun H enc w base v d ps hv ⟨fuel, hx⟩ => by
  obtain ⟨cs, rfl, _⟩ := Go.WideShapes.okWide_struct ht hv
  obtain ⟨hl, L, hL, hΦ, hr⟩ := h H enc w fuel _ _ hx
  simp only [Value.cells] at hl hr
  exact ⟨_, .agg cs L (by simpa [hL] using hl) (fun j v c hv hc => hr j v c (by simpa using hv) hc), L, rfl, hΦ⟩

/-- All arguments. -/
def Ars (P : Program) (C : Cod Ty El) (ts : List TypeId) (Ψ : List (AV Ty El) → Prop) : Prop :=
  ∀ (H : Type) (enc : TypeId × Value → H) (w : World) (base : Nat) (vs : List Value) (ds : List (DataW H)) (ps : List MemPlace), (∀ (j : Nat) t v, ts[j]? = some t → vs[j]? = some v → Value.okWide P w .any base t v) →
    DataW.TrodAll enc P w 0 (fun _ => true) true ts vs ds ps → ∃ xs : List (AV Ty El), xs.length = vs.length ∧ (∀ (j : Nat) v x, vs[j]? = some v → xs[j]? = some x → RepA C (nmAll w) w v x) ∧ Ψ xs
theorem Ars.nil : Ars P C [] (fun xs => xs = []) := fun H enc w base vs ds ps hv h => by
  obtain ⟨rfl, rfl, rfl⟩ := Go.ChangeShapes.trodAll_nil h
  exact ⟨[], rfl, fun j v x h => by simp at h, rfl⟩
theorem Ars.cons {t : TypeId} {ts : List TypeId} {Φ : AV Ty El → Prop} {Ψ : List (AV Ty El) → Prop} (h : Ar P C t Φ) (hs : Ars P C ts Ψ) : Ars P C (t :: ts) (fun xs => ∃ x ys, xs = x :: ys ∧ Φ x ∧ Ψ ys) := fun H enc w base vs ds ps hv ht => by
  obtain ⟨v, vs', d, ds', p, q, rfl, rfl, rfl, h1, h2⟩ := Go.ChangeShapes.trodAll_cons ht
  obtain ⟨x, hr, hΦ⟩ := h H enc w base v d p (hv 0 t v rfl rfl) h1
  obtain ⟨xs, hl, hr', hΨ⟩ := hs H enc w base vs' ds' q (fun j t v h1 h2 => hv (j + 1) t v h1 h2) h2
  refine ⟨x :: xs, by simp [hl], fun j v' x' hv' hx' => ?_, x, xs, rfl, hΦ, hΨ⟩
  match j with
  | 0 => simp only [List.getElem?_cons_zero, Option.some.injEq] at hv' hx'; subst hv'; subst hx'; exact hr
  | j + 1 => exact hr' j v' x' (by simpa using hv') (by simpa using hx')

theorem fr_kept {w w' : World} (h : Fr w w' (fun _ => False)) (may : MemPlace → Prop) : w.keptBut w' may := by
  refine ⟨h.os, h.output, fun i hi => ?_⟩
  rw [h.block i hi (fun h => h)]
  cases w.heap[i]? with
  | none => trivial
  | some o => cases o with
    | cells c t fr => exact ⟨rfl, rfl, rfl, fun _ _ => rfl⟩
    | map es clk => exact .inr ⟨rfl, rfl⟩
    | _ => rfl
theorem fr_same {w w' : World} (h : Fr w w' (fun _ => False)) {p : MemPlace} (hp : p.block < w.heap.size) : w.sameAt w' p := by
  cases p with
  | cell b off => exact cell_heap (h.block b hp (fun h => h))
  | map b => exact h.block b hp (fun h => h)
theorem trodAll_stays {H : Type} {enc : TypeId × Value → H} (hl : laidOutB P = true) {W W' : World} {sp' : Nat → Bool} : ∀ {ts : List TypeId} {vs : List Value} {ds : List (DataW H)} {ps : List MemPlace}, (∀ t ∈ ts, P.readableRec t = true ∧ t < P.types.size) →
    DataW.TrodAll enc P W 0 (fun _ => true) true ts vs ds ps → (∀ p ∈ ps, W.sameAt W' p) → (∀ p ∈ ps, sp' p.block = true) → DataW.TrodAll enc P W' 0 sp' true ts vs ds ps
  | [], [], [], _, _, h, _, _ => h
  | t :: ts, v :: vs, d :: ds, _, ht, ⟨p, q, h1, h2, e⟩, hw, hs => by
    subst e
    refine ⟨p, q, Go.WideElems.Trod_stays hl (ht t (List.mem_cons.2 (.inl rfl))).1 (ht t (List.mem_cons.2 (.inl rfl))).2 h1 (fun x hx => hw x (List.mem_append_left _ hx)) (fun x hx => hs x (List.mem_append_left _ hx)), ?_, rfl⟩
    exact trodAll_stays hl (fun t h => ht t (List.mem_cons.2 (.inr h))) h2 (fun x hx => hw x (List.mem_append_right _ hx)) (fun x hx => hs x (List.mem_append_right _ hx))

theorem trodAll_len {H : Type} {enc : TypeId × Value → H} {W : World} {base : Nat} {sp : Nat → Bool} {hd : Bool} : ∀ {ts : List TypeId} {vs : List Value} {ds : List (DataW H)} {ps : List MemPlace}, DataW.TrodAll enc P W base sp hd ts vs ds ps → ds.length = ts.length
  | [], [], [], _, _ => rfl
  | _ :: _, _ :: _, _ :: _, _, ⟨_, _, _, h, _⟩ => by simp [trodAll_len h]

/-- A law's call, out of its contract. -/
theorem law_calls {s : ChangeSpec} {fn : Func} {g : FuncId} {Ψ : List (AV Ty El) → Prop} (hA : Ars P C fn.params.toList Ψ) (hcall : ∀ xs, Ψ xs → CallOK P C g xs [] (.bool true) [])
    (hl : laidOutB P = true) (hr : ∀ t ∈ fn.params.toList, P.readableRec t = true ∧ t < P.types.size) (hv0 : s.vars = [])
    {H : Type} (enc : TypeId × Value → H) (hargs : ∀ ds : List (DataW H), ds.length = fn.params.toList.length → (s.fn H (ds ++ [])).args = ds) (hvars : ∀ ds : List (DataW H), ds.length = fn.params.toList.length → (s.fn H (ds ++ [])).vars = [])
    (hres : ∀ (ds : List (DataW H)), ds.length = fn.params.toList.length → ∀ (W : World) (b : Nat) (sp : Nat → Bool) (hd : Bool), DataW.TrodAll enc P W b sp hd fn.resultTypes.toList ((Value.bool true).resultList fn.resultTypes.size) (s.fn H (ds ++ [])).results [])
    (W : World) (base : Nat) (args : Array Value) (ds gs : List (DataW H)) (before : List MemPlace)
    (hval : ∀ (j : Nat) t v, fn.params[j]? = some t → args[j]? = some v → Value.okWide P W .any base t v)
    (hW : DataW.Whole enc P fn.params.toList s.vars false W args.toList ds gs before) :
    Calls P g args W fun e W' => ∃ v, e = .returned v ∧ s.post enc P fn false true false false W args v W' := by
  have hW' := hW
  obtain ⟨p, q, hT, hV, hb, hfz, hnd⟩ := hW
  rw [hv0] at hV
  obtain ⟨rfl, rfl⟩ := Go.ChangeShapes.trodVars_none hV
  rw [List.append_nil] at hb
  subst hb
  obtain ⟨xs, hlen, hrep, hΨ⟩ := hA H enc W base args.toList ds before (fun j t v h1 h2 => hval j t v (by simpa using h1) (by simpa using h2)) hT
  refine (hcall xs hΨ W (nmAll W) args (hr_all W) (by simpa using hlen.symm) (fun j v x h1 h2 => hrep j v x (by simpa using h1) h2)).mono fun e W' h => ?_
  obtain ⟨v, N', rfl, _, hv, _, _, _, hfr, _⟩ := h
  cases hv
  have hfr : Fr W W' (fun _ => False) := ⟨hfr.os, hfr.tape, hfr.output, hfr.size, fun b hb _ => hfr.block b hb (fun h => h.elim fun _ h => h)⟩
  have hlt : ∀ p ∈ before, p.block < W.heap.size := fun p hp => hW'.lt p hp
  refine ⟨_, rfl, ds, [], before, [], before, [], hW', hres ds (trodAll_len hT) _ _ _ _, ?_, ?_, fr_kept hfr _, fun h => by cases h⟩
  · rw [hargs ds (trodAll_len hT)]
    exact trodAll_stays hl hr hT (fun p hp => fr_same hfr (hlt p hp)) (fun p hp => by simpa using hlt p hp)
  · rw [hv0, hvars ds (trodAll_len hT)]; rfl
end
end Lx
/- Keys of maps: texts; pairs of whole numbers. -/
set_option linter.unusedVariables false
set_option linter.unusedSimpArgs false
namespace Lx
open Go
section
variable {Ty : Type} {El : Ty → Type} {C : Cod Ty El} {P : Program}

theorem isB_cells (z : Value) (h : isB z = false) : z.cells = #[z] := by
  cases z <;> first | rfl | (simp [isB] at h)

theorem str_beq {s t : ByteArray} : (s == t) = (s.data.toList == t.data.toList) := by
  apply Bool.eq_iff_iff.2
  rw [MapKept.bytes_beq, beq_iff_eq]
  constructor
  · intro h; subst h; rfl
  · intro h
    obtain ⟨⟨l⟩⟩ := s
    obtain ⟨⟨m⟩⟩ := t
    simp at h
    subst h; rfl

theorem KeyOK.str {e : TypeId} {K : Ty} {f : El K → List UInt8} (hu : P.underlying e = some .string) (hrow : ∀ x, C.row K x = [.str (f x)]) (hag : C.agg K = false) (hq : ∀ x y, C.keq K x y = (f x == f y)) : KeyOK P C e K := by
  have hpk : ∀ x, packA C K (C.row K x) = .str (f x) := fun x => by simp [packA, hag, hrow]
  refine ⟨fun x => by simp [hq], fun w N em x v hv => ?_, fun w N x v hv es ys hl hes => ?_, fun w N x y u v hu' hv hxy => ?_⟩
  · rw [hpk] at hv
    obtain ⟨s, rfl, hs⟩ := hv.inv_str
    exact MapKept.run_checkKey hu (by simp [MapKept.IsKey]) em 9999
  · rw [hpk] at hv
    obtain ⟨s, rfl, hs⟩ := hv.inv_str
    have : ∀ (es : List MapEntry) (ys : List (El K)) (i : Nat), es.length = ys.length → (∀ (j : Nat) (a : MapEntry) y, es[j]? = some a → ys[j]? = some y → RepA C N w a.key (packA C K (C.row K y))) →
        Instr.findNow .string (.string s) es i = some ((ys.findIdx? (C.keq K x)).bind fun j => (es[j]?).map fun a => (i + j, a.val)) := by
      intro es
      induction es with
      | nil =>
        intro ys i hl _
        have : ys = [] := List.eq_nil_of_length_eq_zero hl.symm
        subst this; rfl
      | cons a es ih =>
        intro ys i hl hes
        cases ys with
        | nil => simp at hl
        | cons y ys =>
          have h0 := hes 0 a y rfl rfl
          rw [hpk] at h0
          obtain ⟨t, ht, hty⟩ := h0.inv_str
          have hsame : Instr.sameNow .string (.string s) a.key = some (f x == f y) := by rw [ht]; simp only [Instr.sameNow]; rw [str_beq, hs, hty]
          have ih' := ih ys (i + 1) (by simpa using hl) (fun j b z hb hz => hes (j + 1) b z (by simpa using hb) (by simpa using hz))
          unfold Instr.findNow
          rw [hsame, List.findIdx?_cons, hq]
          cases hxy : (f x == f y) with
          | true => simp
          | false =>
            simp only [Bool.false_eq_true, if_false]
            rw [ih']
            cases ys.findIdx? (C.keq K x) with
            | none => rfl
            | some j => simp [Nat.add_assoc, Nat.add_comm 1 j]
    have h := this es ys 0 hl hes
    simp only [Nat.zero_add] at h
    exact MapKept.run_findKey hu h
  · rw [hpk] at hu' hv
    obtain ⟨s, rfl, hs⟩ := hu'.inv_str
    obtain ⟨t, rfl, ht⟩ := hv.inv_str
    rw [hq] at hxy
    have : s = t := by
      have := eq_of_beq hxy
      have e : (s == t) = true := by rw [str_beq, hs, ht, this]; simp
      exact (MapKept.bytes_beq _ _).1 e
    subst this
    have hb : (s == s) = true := (MapKept.bytes_beq _ _).2 rfl
    unfold Instr.keyThatStays
    simp [Instr.sameBits, hb]

theorem run_eqPair (d : Nat) {e : TypeId} {k : IntKind} (he : P.underlying e = some (.int k)) (hc : P.cellsOf e = 1) (w : World) (a b a' b' : Int) : (Op.eqItems (d + 1) e (P.cellsOf e) #[.int k a, .int k b] #[.int k a', .int k b'] [0, 1]).run P w = .ok (a == a' && b == b') w := by
  have hp : P.plainKey e = true := by simp [Program.plainKey, he]
  have p0 := run_part_plain (P := P) (w := w) hp (xs := #[.int k a, .int k b]) (off := 0) (v := .int k a) rfl
  have p1 := run_part_plain (P := P) (w := w) hp (xs := #[.int k a, .int k b]) (off := 1) (v := .int k b) rfl
  have q0 := run_part_plain (P := P) (w := w) hp (xs := #[.int k a', .int k b']) (off := 0) (v := .int k a') rfl
  have q1 := run_part_plain (P := P) (w := w) hp (xs := #[.int k a', .int k b']) (off := 1) (v := .int k b') rfl
  have e0 := run_equalIn_int (P := P) w d e k k a a' he
  have e1 := run_equalIn_int (P := P) w d e k k b b' he
  simp only [Op.eqItems, hc, Nat.mul_one, Sem.run_bind, p0, q0, e0, Result.andThen_ok]
  cases h : (a == a') with
  | false => simp
  | true =>
    simp [p1, q1, e1]
    by_cases hb : b = b' <;> simp [hb]

theorem KeyOK.pair {e el : TypeId} {i : TypeInfo} {K : Ty} {f g : El K → Int} (hu : P.underlying e = some (.array 2 el)) (he : P.underlying el = some (.int .i64)) (hi : P.info? el = some i) (hc : P.cellsOf el = 1) (hrow : ∀ x, C.row K x = [.int .i64 (f x), .int .i64 (g x)]) (hag : C.agg K = true) (hq : ∀ x y, C.keq K x y = (f x == f y && g x == g y)) : KeyOK P C e K := by
  have hpk : ∀ x, packA C K (C.row K x) = .agg [.int .i64 (f x), .int .i64 (g x)] := fun x => by simp [packA, hag, hrow]
  have inv : ∀ {N : Nm} {w : World} {v : Value} {x : El K}, RepA C N w v (packA C K (C.row K x)) → v = .agg #[.int .i64 (f x), .int .i64 (g x)] := by
    intro N w v x hv
    rw [hpk] at hv
    obtain ⟨vs, rfl, hl, hvs⟩ := hv.inv_agg
    have h2 : vs.size = 2 := hl
    have e0 := (hvs 0 _ _ (Array.getElem?_eq_getElem (by omega)) rfl).inv_int
    have e1 := (hvs 1 _ _ (Array.getElem?_eq_getElem (by omega)) rfl).inv_int
    congr 1
    apply Array.ext_getElem?
    intro j
    match j with
    | 0 => rw [Array.getElem?_eq_getElem (by omega), e0]; rfl
    | 1 => rw [Array.getElem?_eq_getElem (by omega), e1]; rfl
    | j + 2 => rw [Array.getElem?_eq_none (by omega), Array.getElem?_eq_none (by simp)]
  have hp : P.plainKey el = true := by simp [Program.plainKey, he]
  have heq : ∀ (w : World) (a b a' b' : Int), (Op.equal e (.agg #[.int .i64 a, .int .i64 b]) (.agg #[.int .i64 a', .int .i64 b'])).run P w = .ok (a == a' && b == b') w := fun w a b a' b' => by
    show (Op.equalIn (9999 + 1) e _ _).run P w = _
    rw [run_equalIn_array (P := P) (w := w) 9999 _ _ hu hi]
    exact run_eqPair 9998 he hc w a b a' b'
  refine ⟨fun x => by simp [hq], fun w N em x v hv => ?_, fun w N x v hv es ys hl hes => ?_, fun w N x y u v hu' hv hxy => ?_⟩
  · rw [inv hv]
    unfold Instr.checkKey
    have p0 := run_part_plain (P := P) (w := w) hp (xs := #[.int .i64 (f x), .int .i64 (g x)]) (off := 0) (v := .int .i64 (f x)) rfl
    have p1 := run_part_plain (P := P) (w := w) hp (xs := #[.int .i64 (f x), .int .i64 (g x)]) (off := 1) (v := .int .i64 (g x)) rfl
    have c0 : ∀ n : Int, (Instr.checkKey em 9999 el (.int .i64 n)).run P w = .ok () w := fun n => MapKept.run_checkKey he (by simp [MapKept.IsKey]) em 9998
    simp only [Sem.run_bind, run_underlying hu, Result.andThen_ok]
    simp only [Std.Legacy.Range.forIn_eq_forIn_range', Std.Legacy.Range.size, Nat.sub_zero, Nat.add_one_sub_one, Nat.div_one, List.range', List.forIn_cons, List.forIn_nil, Sem.run_bind, run_sizeOf w hi, Result.andThen_ok, hc, Nat.zero_mul, Nat.mul_one, p0, p1, c0, Sem.run_pure]
  · rw [inv hv]
    have hfa : ∀ (es : List MapEntry) (ys : List (El K)) (i : Nat), es.length = ys.length → (∀ (j : Nat) (a : MapEntry) y, es[j]? = some a → ys[j]? = some y → RepA C N w a.key (packA C K (C.row K y))) →
        (Instr.findAsking e (.agg #[.int .i64 (f x), .int .i64 (g x)]) es i).run P w = .ok ((ys.findIdx? (C.keq K x)).bind fun j => (es[j]?).map fun a => (i + j, a.val)) w := by
      intro es
      induction es with
      | nil =>
        intro ys i hl _
        have : ys = [] := List.eq_nil_of_length_eq_zero hl.symm
        subst this; simp [Instr.findAsking]
      | cons a es ih =>
        intro ys i hl hes
        cases ys with
        | nil => simp at hl
        | cons y ys =>
          have h0 := inv (hes 0 a y rfl rfl)
          have ih' := ih ys (i + 1) (by simpa using hl) (fun j b z hb hz => hes (j + 1) b z (by simpa using hb) (by simpa using hz))
          unfold Instr.findAsking
          simp only [Sem.run_bind, h0, heq, Result.andThen_ok]
          rw [List.findIdx?_cons, hq]
          cases hxy : (f x == f y && g x == g y) with
          | true => simp
          | false =>
            simp only [Bool.false_eq_true, if_false]
            rw [ih']
            cases ys.findIdx? (C.keq K x) with
            | none => rfl
            | some j => simp [Nat.add_assoc, Nat.add_comm 1 j]
    have h := hfa es ys 0 hl hes
    simp only [Nat.zero_add] at h
    unfold Instr.findKey
    simp only [Sem.run_bind, run_underlying hu, Result.andThen_ok]
    cases es with
    | nil =>
      have : ys = [] := List.eq_nil_of_length_eq_zero hl.symm
      subst this
      simp [Instr.findNow]
    | cons a es =>
      have hn : Instr.findNow (.array 2 el) (.agg #[.int .i64 (f x), .int .i64 (g x)]) (a :: es) 0 = none := by
        unfold Instr.findNow
        simp [Instr.sameNow]
      simp only [hn]
      exact h
  · rw [inv hu', inv hv]
    rw [hq, Bool.and_eq_true] at hxy
    have e1 := eq_of_beq hxy.1
    have e2 := eq_of_beq hxy.2
    rw [e1, e2]
    unfold Instr.keyThatStays
    simp [Instr.sameBits]
end
end Lx
/- The types as Lean's, and how they lie in cells. -/
set_option linter.unusedVariables false
namespace Lx
open Go
abbrev Str := List UInt8
structure Kind where
  name : Str
  quick : Int
  slow : Int
  deriving DecidableEq, Inhabited
structure Point where
  name : Str
  x : Int
  y : Int
  deriving DecidableEq, Inhabited
structure Fld where
  what : Int
  number : Int
  value : Str
  deriving DecidableEq, Inhabited
structure Entry where
  name : Str
  fields : List Fld
  deriving DecidableEq, Inhabited
structure Chg where
  flight : Str
  what : Int
  number : Int
  value : Str
  deriving DecidableEq, Inhabited
structure Stp where
  x : Int
  y : Int
  low : Int
  high : Int
  frm : Int
  by_ : Int
  deriving DecidableEq, Inhabited
structure Cell where
  x : Int
  y : Int
  deriving DecidableEq, Inhabited
structure Flight where
  name : Str
  kind : Kind
  frm : Int
  by_ : Int
  level : Int
  route : List Str
  deriving DecidableEq, Inhabited
inductive Ty | u8 | bool | int | str | kind | point | fld | entry | chg | step | cell | pair | flight | lkind | lpoint | lfld | lentry | lchg
  deriving DecidableEq
abbrev El : Ty → Type
  | .u8 => Int
  | .bool => Bool
  | .int => Int
  | .str => Str
  | .kind => Kind
  | .point => Point
  | .fld => Fld
  | .entry => Entry
  | .chg => Chg
  | .step => Stp
  | .cell => Cell
  | .pair => Cell
  | .flight => Flight
  | .lkind => Kind
  | .lpoint => Point
  | .lfld => Fld
  | .lentry => Entry
  | .lchg => Chg
abbrev V := AV Ty El
abbrev O := AObj Ty El
def rowP : (T : Ty) → El T → List V
  | .u8, z => [.int .u8 z]
  | .bool, z => [.bool z]
  | .int, z => [.int .i64 z]
  | .str, z => [.str z]
  | .kind, z => [.str z.name, .int .i64 z.quick, .int .i64 z.slow]
  | .point, z => [.str z.name, .int .i64 z.x, .int .i64 z.y]
  | .fld, z => [.int .i64 z.what, .int .i64 z.number, .str z.value]
  | .entry, z => [.str z.name, .sl .fld z.fields]
  | .chg, z => [.str z.flight, .int .i64 z.what, .int .i64 z.number, .str z.value]
  | .step, z => [.int .i64 z.x, .int .i64 z.y, .int .i64 z.low, .int .i64 z.high, .int .i64 z.frm, .int .i64 z.by_]
  | .cell, z => [.int .i64 z.x, .int .i64 z.y]
  | .pair, z => [.int .i64 z.x, .int .i64 z.y]
  | .flight, z => [.str z.name, .str z.kind.name, .int .i64 z.kind.quick, .int .i64 z.kind.slow, .int .i64 z.frm, .int .i64 z.by_, .int .i64 z.level, .sl .str z.route]
  | .lkind, z => [.str z.name, .int .i64 z.quick, .int .i64 z.slow]
  | .lpoint, z => [.str z.name, .int .i64 z.x, .int .i64 z.y]
  | .lfld, z => [.int .i64 z.what, .int .i64 z.number, .str z.value]
  | .lentry, z => [.str z.name, .sl .lfld z.fields]
  | .lchg, z => [.str z.flight, .int .i64 z.what, .int .i64 z.number, .str z.value]
def un_u8 : List V → Option (Int) | [.int .u8 a] => some a | _ => none
def un_bool : List V → Option (Bool) | [.bool a] => some a | _ => none
def un_int : List V → Option (Int) | [.int .i64 a] => some a | _ => none
def un_str : List V → Option (Str) | [.str a] => some a | _ => none
def un_kind : List V → Option (Kind) | [.str a, .int .i64 b, .int .i64 c] => some ⟨a, b, c⟩ | _ => none
def un_point : List V → Option (Point) | [.str a, .int .i64 b, .int .i64 c] => some ⟨a, b, c⟩ | _ => none
def un_fld : List V → Option (Fld) | [.int .i64 a, .int .i64 b, .str c] => some ⟨a, b, c⟩ | _ => none
def un_entry : List V → Option (Entry) | [.str a, .sl .fld b] => some ⟨a, b⟩ | _ => none
def un_chg : List V → Option (Chg) | [.str a, .int .i64 b, .int .i64 c, .str d] => some ⟨a, b, c, d⟩ | _ => none
def un_step : List V → Option (Stp) | [.int .i64 a, .int .i64 b, .int .i64 c, .int .i64 d, .int .i64 e, .int .i64 f] => some ⟨a, b, c, d, e, f⟩ | _ => none
def un_cell : List V → Option (Cell) | [.int .i64 a, .int .i64 b] => some ⟨a, b⟩ | _ => none
def un_pair : List V → Option (Cell) | [.int .i64 a, .int .i64 b] => some ⟨a, b⟩ | _ => none
def un_flight : List V → Option (Flight) | [.str a, .str b, .int .i64 c, .int .i64 d, .int .i64 e, .int .i64 f, .int .i64 g, .sl .str h] => some ⟨a, ⟨b, c, d⟩, e, f, g, h⟩ | _ => none
def un_lkind : List V → Option (Kind) | [.str a, .int .i64 b, .int .i64 c] => some ⟨a, b, c⟩ | _ => none
def un_lpoint : List V → Option (Point) | [.str a, .int .i64 b, .int .i64 c] => some ⟨a, b, c⟩ | _ => none
def un_lfld : List V → Option (Fld) | [.int .i64 a, .int .i64 b, .str c] => some ⟨a, b, c⟩ | _ => none
def un_lentry : List V → Option (Entry) | [.str a, .sl .lfld b] => some ⟨a, b⟩ | _ => none
def un_lchg : List V → Option (Chg) | [.str a, .int .i64 b, .int .i64 c, .str d] => some ⟨a, b, c, d⟩ | _ => none
def unrowP : (T : Ty) → List V → Option (El T)
  | .u8 => un_u8
  | .bool => un_bool
  | .int => un_int
  | .str => un_str
  | .kind => un_kind
  | .point => un_point
  | .fld => un_fld
  | .entry => un_entry
  | .chg => un_chg
  | .step => un_step
  | .cell => un_cell
  | .pair => un_pair
  | .flight => un_flight
  | .lkind => un_lkind
  | .lpoint => un_lpoint
  | .lfld => un_lfld
  | .lentry => un_lentry
  | .lchg => un_lchg
def dfltP : (T : Ty) → El T
  | .u8 => (0 : Int)
  | .bool => false
  | .int => (0 : Int)
  | .str => ([] : Str)
  | .kind => (default : Kind)
  | .point => (default : Point)
  | .fld => (default : Fld)
  | .entry => (default : Entry)
  | .chg => (default : Chg)
  | .step => (default : Stp)
  | .cell => (default : Cell)
  | .pair => (default : Cell)
  | .flight => (default : Flight)
  | .lkind => (default : Kind)
  | .lpoint => (default : Point)
  | .lfld => (default : Fld)
  | .lentry => (default : Entry)
  | .lchg => (default : Chg)
def hgtP : Ty → Nat
  | .entry => 1
  | .flight => 1
  | .lentry => 1
  | _ => 0
def litP : Ty → Bool
  | .str | .int => true
  | _ => false
def u8P : (T : Ty) → Option (El T → Int)
  | .u8 => some (fun n => n)
  | _ => none
def aggP : Ty → Bool
  | .u8 => false
  | .bool => false
  | .int => false
  | .str => false
  | .kind => true
  | .point => true
  | .fld => true
  | .entry => true
  | .chg => true
  | .step => true
  | .cell => true
  | .pair => true
  | .flight => true
  | .lkind => true
  | .lpoint => true
  | .lfld => true
  | .lentry => true
  | .lchg => true
def keyP : Ty → Bool
  | .str | .pair => true
  | _ => false
def keqP : (T : Ty) → El T → El T → Bool
  | .str, a, b => a == b
  | .pair, a, b => a.x == b.x && a.y == b.y
  | _, _, _ => false
end Lx
/- The codings over the seat's program. -/
set_option linter.unusedVariables false
namespace Lx
open Go Go.Proofs
def tyP : TypeId → Option Ty
  | 5 => some .u8 | 4 => some .bool | 3 => some .int | 9 => some .str | 40 => some .kind | 160 => some .point | 94 => some .fld | 92 => some .entry | 51 => some .chg | 47 => some .step | 72 => some .cell | 170 => some .pair | 43 => some .flight | 274 => some .lkind | 276 => some .lpoint | 320 => some .lfld | 240 => some .lentry | 118 => some .lchg | _ => none
def CP : Cod Ty El := { deq := inferInstance, ty := tyP, row := rowP, unrow := unrowP, dflt := dfltP, hgt := hgtP, u8 := u8P, lit := litP, agg := aggP, key := keyP, keq := keqP }
def infoOk (P : Program) (C : Cod Ty El) (e : TypeId) (T : Ty) : Bool := match P.info? e with
  | some i => decide (i.size = (C.row T (C.dflt T)).length) && (decide (0 < i.bytes) && match i.zero with
    | some z => decide (z.cells.size = (C.row T (C.dflt T)).length)
    | none => false)
  | none => false
theorem infoOk_spec {P : Program} {C : Cod Ty El} {e : TypeId} {T : Ty} (h : infoOk P C e T = true) : ∃ i z, P.info? e = some i ∧ i.size = C.sz T ∧ i.zero = some z ∧ z.cells.size = C.sz T ∧ 0 < i.bytes := by
  unfold infoOk at h
  split at h
  · rename_i i hi
    simp only [Bool.and_eq_true, decide_eq_true_eq] at h
    obtain ⟨h1, h2, h3⟩ := h
    split at h3
    · rename_i z hz
      exact ⟨i, z, hi, h1, hz, of_decide_eq_true h3, h2⟩
    · cases h3
  · cases h
def zeroOk (P : Program) (C : Cod Ty El) (e : TypeId) (T : Ty) : Bool := match P.info? e with
  | some i => match i.zero with
    | some z => zOk z.cells.toList (C.row T (C.dflt T)) && (isB z == C.agg T)
    | none => false
  | none => false
theorem zeroOk_spec {P : Program} {C : Cod Ty El} {e : TypeId} {T : Ty} (h : zeroOk P C e T = true) : ∃ i z, P.info? e = some i ∧ i.zero = some z ∧ zOk z.cells.toList (C.row T (C.dflt T)) = true ∧ isB z = C.agg T ∧ (isB z = false → z.cells = #[z]) := by
  unfold zeroOk at h
  split at h
  · rename_i i hi
    split at h
    · rename_i z hz
      simp only [Bool.and_eq_true] at h
      exact ⟨i, z, hi, hz, h.1, eq_of_beq h.2, isB_cells z⟩
    · cases h
  · cases h
def hgtOk (n : Nat) : V → Bool
  | .sl U _ => decide (hgtP U < n)
  | _ => true
theorem CP_ok : CodOK Tryz.prog CP where
  len := fun T x => by cases T <;> rfl
  pos := fun T => by cases T <;> decide
  cell := fun T x c h => by
    have : (rowP T x).all cellOK = true := by cases T <;> rfl
    exact List.all_eq_true.1 this c h
  unrow := fun T L x h => by
    cases T <;> simp only [CP, unrowP] at h ⊢
    case u8 => unfold un_u8 at h; split at h <;> first | (simp only [Option.some.injEq] at h; subst h; rfl) | cases h
    case bool => unfold un_bool at h; split at h <;> first | (simp only [Option.some.injEq] at h; subst h; rfl) | cases h
    case int => unfold un_int at h; split at h <;> first | (simp only [Option.some.injEq] at h; subst h; rfl) | cases h
    case str => unfold un_str at h; split at h <;> first | (simp only [Option.some.injEq] at h; subst h; rfl) | cases h
    case kind => unfold un_kind at h; split at h <;> first | (simp only [Option.some.injEq] at h; subst h; rfl) | cases h
    case point => unfold un_point at h; split at h <;> first | (simp only [Option.some.injEq] at h; subst h; rfl) | cases h
    case fld => unfold un_fld at h; split at h <;> first | (simp only [Option.some.injEq] at h; subst h; rfl) | cases h
    case entry => unfold un_entry at h; split at h <;> first | (simp only [Option.some.injEq] at h; subst h; rfl) | cases h
    case chg => unfold un_chg at h; split at h <;> first | (simp only [Option.some.injEq] at h; subst h; rfl) | cases h
    case step => unfold un_step at h; split at h <;> first | (simp only [Option.some.injEq] at h; subst h; rfl) | cases h
    case cell => unfold un_cell at h; split at h <;> first | (simp only [Option.some.injEq] at h; subst h; rfl) | cases h
    case pair => unfold un_pair at h; split at h <;> first | (simp only [Option.some.injEq] at h; subst h; rfl) | cases h
    case flight => unfold un_flight at h; split at h <;> first | (simp only [Option.some.injEq] at h; subst h; rfl) | cases h
    case lkind => unfold un_lkind at h; split at h <;> first | (simp only [Option.some.injEq] at h; subst h; rfl) | cases h
    case lpoint => unfold un_lpoint at h; split at h <;> first | (simp only [Option.some.injEq] at h; subst h; rfl) | cases h
    case lfld => unfold un_lfld at h; split at h <;> first | (simp only [Option.some.injEq] at h; subst h; rfl) | cases h
    case lentry => unfold un_lentry at h; split at h <;> first | (simp only [Option.some.injEq] at h; subst h; rfl) | cases h
    case lchg => unfold un_lchg at h; split at h <;> first | (simp only [Option.some.injEq] at h; subst h; rfl) | cases h
  hgt := fun T x U zs h => by
    have : (rowP T x).all (hgtOk (hgtP T)) = true := by cases T <;> rfl
    exact of_decide_eq_true (List.all_eq_true.1 this (.sl U zs) h)
  info := fun e T h => by
    refine infoOk_spec ?_
    simp only [CP] at h
    unfold tyP at h
    split at h <;> first | (simp only [Option.some.injEq] at h; subst h; kernel_rfl) | cases h
  inj := fun e e' T h h' => by
    simp only [CP] at h h'
    unfold tyP at h h'
    split at h <;> first | (cases h; done) | (simp only [Option.some.injEq] at h; subst h; split at h' <;> first | rfl | (cases h'; done))
  u8 := fun T f h x => by cases T <;> simp [CP, u8P] at h; subst h; rfl
  typ := fun T => by cases T <;> first | exact ⟨5, rfl⟩ | exact ⟨4, rfl⟩ | exact ⟨3, rfl⟩ | exact ⟨9, rfl⟩ | exact ⟨40, rfl⟩ | exact ⟨160, rfl⟩ | exact ⟨94, rfl⟩ | exact ⟨92, rfl⟩ | exact ⟨51, rfl⟩ | exact ⟨47, rfl⟩ | exact ⟨72, rfl⟩ | exact ⟨170, rfl⟩ | exact ⟨43, rfl⟩ | exact ⟨274, rfl⟩ | exact ⟨276, rfl⟩ | exact ⟨320, rfl⟩ | exact ⟨240, rfl⟩ | exact ⟨118, rfl⟩
  zero := fun e T h => by
    refine zeroOk_spec ?_
    simp only [CP] at h
    unfold tyP at h
    split at h <;> first | (simp only [Option.some.injEq] at h; subst h; kernel_rfl) | cases h
  agg := fun T h => by cases T <;> first | rfl | (simp [CP, aggP] at h)
  keyd := fun e K h hk => by
    have hn : ∀ T, keyP T = true → T = .str ∨ T = .pair := fun T => by cases T <;> simp [keyP]
    simp only [CP] at h hk
    rcases hn K hk with rfl | rfl
    · have he : e = 9 := by
        unfold tyP at h
        split at h <;> first | rfl | (simp at h)
      subst he
      exact KeyOK.str (f := fun x => x) (by kernel_rfl) (fun _ => rfl) rfl (fun _ _ => rfl)
    · have he : e = 170 := by
        unfold tyP at h
        split at h <;> first | rfl | (simp at h)
      subst he
      obtain ⟨i, _, hi, _⟩ := infoOk_spec (C := ⟨inferInstance, tyP, rowP, unrowP, dfltP, hgtP, u8P, aggP, keyP, keqP, litP⟩) (e := 3) (T := .int) (P := Tryz.prog) (by kernel_rfl)
      exact KeyOK.pair (el := 3) (f := fun x : Cell => x.x) (g := fun x : Cell => x.y) (i := i) (by kernel_rfl) (by kernel_rfl) hi (by kernel_rfl) (fun _ => rfl) rfl (fun _ _ => rfl)
  u80 := fun T f h => by cases T <;> simp [CP, u8P] at h; rfl
theorem EOKnil : TabOK Tryz.prog CP ([] : Tab Ty El) := TabOK.nil
end Lx
/- The functions' numbers, by name. -/
namespace Lx
open Go
abbrev g_gosem_cut_init : FuncId := 2
abbrev g_laws_FnPlanPath : FuncId := 3
abbrev g_laws_FnPlanFits : FuncId := 4
abbrev g_laws_FnPlanOver : FuncId := 5
abbrev g_laws_FnExactPlanOver : FuncId := 6
abbrev g_laws_FnExactPlanPathOf : FuncId := 7
abbrev g_laws_FnPlanTake : FuncId := 8
abbrev g_laws_FnPlanMerge : FuncId := 9
abbrev g_laws_FnPlanPrint : FuncId := 10
abbrev g_laws_FnPlanTop : FuncId := 11
abbrev g_laws_FnExactPlanTake : FuncId := 12
abbrev g_laws_FnExactPlanMerge : FuncId := 13
abbrev g_laws_FnPlanText : FuncId := 14
abbrev g_laws_FnExactPlanTakeAll : FuncId := 15
abbrev g_spec_DrawPlanFlown : FuncId := 16
abbrev g_impl_PlanPathOf : FuncId := 17
abbrev g_spec_PlanPathOf : FuncId := 18
abbrev g_laws_wnPath : FuncId := 19
abbrev g_impl_PlanStands : FuncId := 20
abbrev g_laws_wnBehind : FuncId := 21
abbrev g_spec_DrawPlanChangeOk : FuncId := 22
abbrev g_impl_PlanChangeOk : FuncId := 23
abbrev g_spec_PlanChangeOk : FuncId := 24
abbrev g_impl_PlanTake : FuncId := 25
abbrev g_impl_PlanForm : FuncId := 26
abbrev g_impl_PlanRead : FuncId := 27
abbrev g_spec_PlanForm : FuncId := 28
abbrev g_spec_DrawPlanRead : FuncId := 29
abbrev g_spec_PlanRead : FuncId := 30
abbrev g_spec_DrawPlanOver : FuncId := 31
abbrev g_impl_PlanOver : FuncId := 32
abbrev g_spec_PlanOver : FuncId := 33
abbrev g_spec_PlanStands : FuncId := 34
abbrev g_spec_DrawPlanCells : FuncId := 35
abbrev g_impl_PlanCells : FuncId := 36
abbrev g_spec_PlanCells : FuncId := 37
abbrev g_laws_szPlanBook : FuncId := 38
abbrev g_laws_toPlanBook : FuncId := 39
abbrev g_laws_eqPlanBook : FuncId := 40
abbrev g_laws_eqPlanPath : FuncId := 41
abbrev g_laws_markPlanBook : FuncId := 42
abbrev g_laws_markPlanPath : FuncId := 43
abbrev g_laws_heldPlanPath : FuncId := 44
abbrev g_spec_DrawPlanTake : FuncId := 45
abbrev g_spec_PlanTake : FuncId := 46
abbrev g_laws_wnBook : FuncId := 47
abbrev g_impl_PlanBookOk : FuncId := 48
abbrev g_spec_PlanBookOk : FuncId := 49
abbrev g_laws_wnField : FuncId := 50
abbrev g_spec_DrawPlanMerge : FuncId := 51
abbrev g_impl_PlanMerge : FuncId := 52
abbrev g_spec_PlanMerge : FuncId := 53
abbrev g_impl_PlanNews : FuncId := 54
abbrev g_laws_wnChanges : FuncId := 55
abbrev g_spec_PlanNews : FuncId := 56
abbrev g_impl_PlanTakeAll : FuncId := 57
abbrev g_spec_DrawPlanTakeAll : FuncId := 58
abbrev g_spec_DrawPlanPrint : FuncId := 59
abbrev g_impl_PlanPrint : FuncId := 60
abbrev g_spec_PlanPrint : FuncId := 61
abbrev g_impl_PlanParse : FuncId := 62
abbrev g_spec_PlanTakeAll : FuncId := 63
abbrev g_laws_wnInts : FuncId := 64
abbrev g_impl_PlanAll : FuncId := 65
abbrev g_laws_wnStands : FuncId := 66
abbrev g_laws_wnFlight : FuncId := 67
abbrev g_laws_szPlanChange : FuncId := 68
abbrev g_laws_toPlanChange : FuncId := 69
abbrev g_laws_heldPlanBook : FuncId := 70
abbrev g_spec_DrawPlanParse : FuncId := 71
abbrev g_spec_PlanParse : FuncId := 72
abbrev g_laws_szPlanChangeS : FuncId := 73
abbrev g_laws_toPlanChangeS : FuncId := 74
abbrev g_laws_eqIntS : FuncId := 75
abbrev g_laws_eqPlanChangeS : FuncId := 76
abbrev g_laws_markPlanChangeS : FuncId := 77
abbrev g_laws_markIntS : FuncId := 78
abbrev g_laws_heldIntS : FuncId := 79
abbrev g_spec_l11Open : FuncId := 80
abbrev g_spec_l13Any : FuncId := 81
abbrev g_spec_l16Name : FuncId := 82
abbrev g_spec_l11Rd_pick : FuncId := 83
abbrev g_impl_PlanBook_stands : FuncId := 84
abbrev g_impl_PlanLevels : FuncId := 85
abbrev g_spec_PlanLevels : FuncId := 86
abbrev g_spec_l17Min : FuncId := 87
abbrev g_spec_l17Max : FuncId := 88
abbrev g_spec_l11Base : FuncId := 89
abbrev g_spec_l12Change : FuncId := 90
abbrev g_spec_l12SpoilChange : FuncId := 91
abbrev g_impl_PlanBaseOk : FuncId := 92
abbrev g_impl_PlanBase_change : FuncId := 93
abbrev g_spec_l11NameOk : FuncId := 94
abbrev g_spec_l11In : FuncId := 95
abbrev g_spec_PlanFits : FuncId := 96
abbrev g_impl_ownPlans : FuncId := 97
abbrev g_impl_PlanBook_lay : FuncId := 98
abbrev g_impl_isName : FuncId := 99
abbrev g_impl_within : FuncId := 100
abbrev g_strings_Contains : FuncId := 101
abbrev g_strconv_Itoa : FuncId := 102
abbrev g_strings_SplitN : FuncId := 103
abbrev g_impl_decimal : FuncId := 104
abbrev g_strings_Clone : FuncId := 105
abbrev g_slices_Index_g : FuncId := 106
abbrev g_spec_l12Odd : FuncId := 107
abbrev g_spec_l12Words : FuncId := 108
abbrev g_spec_l12Dec : FuncId := 109
abbrev g_spec_l12Bend : FuncId := 110
abbrev g_spec_l12Cut : FuncId := 111
abbrev g_spec_l12Number : FuncId := 112
abbrev g_spec_l11Rd_of : FuncId := 113
abbrev g_impl_PlanBase_point : FuncId := 114
abbrev g_spec_l11Point : FuncId := 115
abbrev g_spec_l13At : FuncId := 116
abbrev g_spec_l16Stands : FuncId := 117
abbrev g_spec_l12Value : FuncId := 118
abbrev g_spec_l11SpoilBase : FuncId := 119
abbrev g_spec_l12BadValue : FuncId := 120
abbrev g_impl_PlanBase_route : FuncId := 121
abbrev g_impl_leg : FuncId := 122
abbrev g_spec_PlanBaseOk : FuncId := 123
abbrev g_spec_l12RouteOk : FuncId := 124
abbrev g_spec_l17At : FuncId := 125
abbrev g_spec_l17Leg : FuncId := 126
abbrev g_laws_szPlanBase : FuncId := 127
abbrev g_laws_szPlanEntryS : FuncId := 128
abbrev g_laws_toPlanBase : FuncId := 129
abbrev g_laws_toPlanEntryS : FuncId := 130
abbrev g_laws_eqPlanBase : FuncId := 131
abbrev g_laws_eqPlanEntryS : FuncId := 132
abbrev g_laws_eqPlanStepS : FuncId := 133
abbrev g_laws_markPlanBase : FuncId := 134
abbrev g_laws_markPlanEntryS : FuncId := 135
abbrev g_laws_markPlanStepS : FuncId := 136
abbrev g_laws_heldPlanStepS : FuncId := 137
abbrev g_spec_l13Copy : FuncId := 138
abbrev g_spec_l13Put : FuncId := 139
abbrev g_laws_wnBase : FuncId := 140
abbrev g_spec_l13EntryOk : FuncId := 141
abbrev g_spec_l13Book : FuncId := 142
abbrev g_spec_l13Spoil : FuncId := 143
abbrev g_slices_Equal_PlanKind : FuncId := 144
abbrev g_slices_Equal_PlanPoint : FuncId := 145
abbrev g_spec_l13SameBase : FuncId := 146
abbrev g_impl_PlanBook_field : FuncId := 147
abbrev g_impl_PlanField_later : FuncId := 148
abbrev g_spec_l14Has : FuncId := 149
abbrev g_spec_l13Changes : FuncId := 150
abbrev g_strings_Builder_WriteString : FuncId := 151
abbrev g_strings_Builder_String : FuncId := 152
abbrev g_impl_PlanParse_1 : FuncId := 153
abbrev g_impl_textLines : FuncId := 154
abbrev g_impl_PlanBook_line : FuncId := 155
abbrev g_laws_heldPlanBase : FuncId := 156
abbrev g_laws_heldPlanEntryS : FuncId := 157
abbrev g_spec_l15Text : FuncId := 158
abbrev g_spec_l15Spoil : FuncId := 159
abbrev g_spec_l15Joined : FuncId := 160
abbrev g_spec_l11Many : FuncId := 161
abbrev g_spec_l15Lines : FuncId := 162
abbrev g_spec_l15Line : FuncId := 163
abbrev g_laws_eqPlanChange : FuncId := 164
abbrev g_laws_markText : FuncId := 165
abbrev g_impl_PlanBook_stands_1 : FuncId := 166
abbrev g_impl_decimals : FuncId := 167
abbrev g_strings_Split : FuncId := 168
abbrev g_impl_PlanBase_kind : FuncId := 169
abbrev g_impl_kindOk : FuncId := 170
abbrev g_impl_pointOk : FuncId := 171
abbrev g_impl_PlanBase_fits : FuncId := 172
abbrev g_spec_l11Kind : FuncId := 173
abbrev g_spec_l12TimeOk : FuncId := 174
abbrev g_impl_ownBase : FuncId := 175
abbrev g_impl_PlanBook_entry : FuncId := 176
abbrev g_slices_SortFunc_PlanEntry : FuncId := 177
abbrev g_impl_PlanBook_lay_1 : FuncId := 178
abbrev g_strings_Compare : FuncId := 179
abbrev g_slices_SortFunc_PlanField : FuncId := 180
abbrev g_impl_PlanBook_lay_2 : FuncId := 181
abbrev g_strings_Index : FuncId := 182
abbrev g_internal_strconv_Itoa : FuncId := 183
abbrev g_strings_genSplit : FuncId := 184
abbrev g_strings_Trim : FuncId := 185
abbrev g_strconv_Atoi : FuncId := 186
abbrev g_internal_stringslite_Clone : FuncId := 187
abbrev g_slices_IndexFunc_PlanPoint : FuncId := 188
abbrev g_impl_PlanBase_point_1 : FuncId := 189
abbrev g_spec_l16Value : FuncId := 190
abbrev g_spec_l11Copy : FuncId := 191
abbrev g_impl_dist : FuncId := 192
abbrev g_impl_floorDiv : FuncId := 193
abbrev g_slices_Reverse_2_int_2_int : FuncId := 194
abbrev g_spec_l11KindOk : FuncId := 195
abbrev g_spec_l11PointOk : FuncId := 196
abbrev g_spec_l17Abs : FuncId := 197
abbrev g_spec_l17Part : FuncId := 198
abbrev g_laws_szPlanKindS : FuncId := 199
abbrev g_laws_szPlanPointS : FuncId := 200
abbrev g_laws_szPlanEntry : FuncId := 201
abbrev g_laws_toPlanKindS : FuncId := 202
abbrev g_laws_toPlanPointS : FuncId := 203
abbrev g_laws_toPlanEntry : FuncId := 204
abbrev g_laws_eqPlanKindS : FuncId := 205
abbrev g_laws_eqPlanPointS : FuncId := 206
abbrev g_laws_eqPlanEntry : FuncId := 207
abbrev g_laws_eqPlanStep : FuncId := 208
abbrev g_laws_markPlanKindS : FuncId := 209
abbrev g_laws_markPlanPointS : FuncId := 210
abbrev g_laws_markPlanFieldS : FuncId := 211
abbrev g_spec_l13Field : FuncId := 212
abbrev g_spec_l13Later : FuncId := 213
abbrev g_strings_Builder_copyCheck : FuncId := 214
abbrev g_slices_SortFunc_PlanKind : FuncId := 215
abbrev g_impl_PlanBook_line_1 : FuncId := 216
abbrev g_slices_ContainsFunc_PlanPoint : FuncId := 217
abbrev g_impl_PlanBook_line_2 : FuncId := 218
abbrev g_slices_SortFunc_PlanPoint : FuncId := 219
abbrev g_impl_PlanBook_line_3 : FuncId := 220
abbrev g_laws_heldPlanKindS : FuncId := 221
abbrev g_laws_heldPlanPointS : FuncId := 222
abbrev g_laws_heldPlanFieldS : FuncId := 223
abbrev g_spec_l15Kind : FuncId := 224
abbrev g_spec_l15Point : FuncId := 225
abbrev g_spec_l15Set : FuncId := 226
abbrev g_slices_IndexFunc_PlanKind : FuncId := 227
abbrev g_impl_PlanBase_kind_1 : FuncId := 228
abbrev g_slices_IndexFunc_PlanEntry : FuncId := 229
abbrev g_impl_PlanBook_entry_1 : FuncId := 230
abbrev g_slices_pdqsortCmpFunc_impl_PlanEntry : FuncId := 231
abbrev g_math_bits_Len : FuncId := 232
abbrev g_internal_bytealg_CompareString : FuncId := 233
abbrev g_slices_pdqsortCmpFunc_impl_PlanField : FuncId := 234
abbrev g_internal_stringslite_Index : FuncId := 235
abbrev g_internal_strconv_FormatInt : FuncId := 236
abbrev g_strings_explode : FuncId := 237
abbrev g_strings_Count : FuncId := 238
abbrev g_strings_trimLeftByte : FuncId := 239
abbrev g_strings_trimRightByte : FuncId := 240
abbrev g_strings_makeASCIISet : FuncId := 241
abbrev g_strings_trimLeftASCII : FuncId := 242
abbrev g_strings_trimRightASCII : FuncId := 243
abbrev g_strings_trimLeftUnicode : FuncId := 244
abbrev g_strings_trimRightUnicode : FuncId := 245
abbrev g_internal_strconv_Atoi : FuncId := 246
abbrev g_strconv_toError : FuncId := 247
abbrev g_laws_szPlanKind : FuncId := 248
abbrev g_laws_szPlanPoint : FuncId := 249
abbrev g_laws_szPlanFieldS : FuncId := 250
abbrev g_laws_toPlanKind : FuncId := 251
abbrev g_laws_toPlanPoint : FuncId := 252
abbrev g_laws_toPlanFieldS : FuncId := 253
abbrev g_laws_eqPlanKind : FuncId := 254
abbrev g_laws_eqPlanPoint : FuncId := 255
abbrev g_laws_eqPlanFieldS : FuncId := 256
abbrev g_slices_pdqsortCmpFunc_impl_PlanKind : FuncId := 258
abbrev g_slices_pdqsortCmpFunc_impl_PlanPoint : FuncId := 259
abbrev g_slices_insertionSortCmpFunc_impl_PlanEntry : FuncId := 260
abbrev g_slices_heapSortCmpFunc_impl_PlanEntry : FuncId := 261
abbrev g_slices_breakPatternsCmpFunc_impl_PlanEntry : FuncId := 262
abbrev g_slices_choosePivotCmpFunc_impl_PlanEntry : FuncId := 263
abbrev g_slices_reverseRangeCmpFunc_impl_PlanEntry : FuncId := 264
abbrev g_slices_partialInsertionSortCmpFunc_impl_PlanEntry : FuncId := 265
abbrev g_slices_partitionEqualCmpFunc_impl_PlanEntry : FuncId := 266
abbrev g_slices_partitionCmpFunc_impl_PlanEntry : FuncId := 267
abbrev g_math_bits_Len32 : FuncId := 268
abbrev g_math_bits_Len64 : FuncId := 269
abbrev g_slices_insertionSortCmpFunc_impl_PlanField : FuncId := 271
abbrev g_slices_heapSortCmpFunc_impl_PlanField : FuncId := 272
abbrev g_slices_breakPatternsCmpFunc_impl_PlanField : FuncId := 273
abbrev g_slices_choosePivotCmpFunc_impl_PlanField : FuncId := 274
abbrev g_slices_reverseRangeCmpFunc_impl_PlanField : FuncId := 275
abbrev g_slices_partialInsertionSortCmpFunc_impl_PlanField : FuncId := 276
abbrev g_slices_partitionEqualCmpFunc_impl_PlanField : FuncId := 277
abbrev g_slices_partitionCmpFunc_impl_PlanField : FuncId := 278
abbrev g_internal_stringslite_IndexByte : FuncId := 279
abbrev g_internal_bytealg_Cutover : FuncId := 281
abbrev g_internal_bytealg_IndexRabinKarp_string : FuncId := 282
abbrev g_internal_strconv_small : FuncId := 283
abbrev g_internal_strconv_numDigits : FuncId := 284
abbrev g_internal_strconv_formatBase10 : FuncId := 285
abbrev g_internal_strconv_formatBits : FuncId := 286
abbrev g_unicode_utf8_RuneCountInString : FuncId := 287
abbrev g_unicode_utf8_DecodeRuneInString : FuncId := 288
abbrev g_strings_asciiSet_contains : FuncId := 290
abbrev g_strings_ContainsRune : FuncId := 291
abbrev g_unicode_utf8_DecodeLastRuneInString : FuncId := 292
abbrev g_internal_strconv_ParseInt : FuncId := 293
abbrev g_strconv_syntaxError : FuncId := 294
abbrev g_strconv_rangeError : FuncId := 295
abbrev g_strconv_baseError : FuncId := 296
abbrev g_strconv_bitSizeError : FuncId := 297
abbrev g_laws_szPlanField : FuncId := 298
abbrev g_laws_toPlanField : FuncId := 299
abbrev g_laws_eqPlanField : FuncId := 300
abbrev g_slices_insertionSortCmpFunc_impl_PlanKind : FuncId := 301
abbrev g_slices_heapSortCmpFunc_impl_PlanKind : FuncId := 302
abbrev g_slices_breakPatternsCmpFunc_impl_PlanKind : FuncId := 303
abbrev g_slices_choosePivotCmpFunc_impl_PlanKind : FuncId := 304
abbrev g_slices_reverseRangeCmpFunc_impl_PlanKind : FuncId := 305
abbrev g_slices_partialInsertionSortCmpFunc_impl_PlanKind : FuncId := 306
abbrev g_slices_partitionEqualCmpFunc_impl_PlanKind : FuncId := 307
abbrev g_slices_partitionCmpFunc_impl_PlanKind : FuncId := 308
abbrev g_slices_insertionSortCmpFunc_impl_PlanPoint : FuncId := 309
abbrev g_slices_heapSortCmpFunc_impl_PlanPoint : FuncId := 310
abbrev g_slices_breakPatternsCmpFunc_impl_PlanPoint : FuncId := 311
abbrev g_slices_choosePivotCmpFunc_impl_PlanPoint : FuncId := 312
abbrev g_slices_reverseRangeCmpFunc_impl_PlanPoint : FuncId := 313
abbrev g_slices_partialInsertionSortCmpFunc_impl_PlanPoint : FuncId := 314
abbrev g_slices_partitionEqualCmpFunc_impl_PlanPoint : FuncId := 315
abbrev g_slices_partitionCmpFunc_impl_PlanPoint : FuncId := 316
abbrev g_slices_siftDownCmpFunc_impl_PlanEntry : FuncId := 317
abbrev g_slices_nextPowerOfTwo : FuncId := 318
abbrev g_slices_xorshift_Next : FuncId := 319
abbrev g_slices_medianAdjacentCmpFunc_impl_PlanEntry : FuncId := 320
abbrev g_slices_medianCmpFunc_impl_PlanEntry : FuncId := 321
abbrev g_slices_siftDownCmpFunc_impl_PlanField : FuncId := 322
abbrev g_slices_medianAdjacentCmpFunc_impl_PlanField : FuncId := 323
abbrev g_slices_medianCmpFunc_impl_PlanField : FuncId := 324
abbrev g_internal_bytealg_hashStr_string : FuncId := 326
abbrev g_internal_strconv_log10Pow2 : FuncId := 327
abbrev g_internal_strconv_bool2_int : FuncId := 328
abbrev g_internal_strconv_isPowerOfTwo : FuncId := 329
abbrev g_math_bits_TrailingZeros : FuncId := 330
abbrev g_unicode_utf8_decodeRuneInStringSlow : FuncId := 331
abbrev g_strings_IndexRune : FuncId := 332
abbrev g_unicode_utf8_RuneStart : FuncId := 333
abbrev g_internal_strconv_ParseUint : FuncId := 334
abbrev g_errors_New : FuncId := 335
abbrev g_slices_siftDownCmpFunc_impl_PlanKind : FuncId := 336
abbrev g_slices_medianAdjacentCmpFunc_impl_PlanKind : FuncId := 337
abbrev g_slices_medianCmpFunc_impl_PlanKind : FuncId := 338
abbrev g_slices_siftDownCmpFunc_impl_PlanPoint : FuncId := 339
abbrev g_slices_medianAdjacentCmpFunc_impl_PlanPoint : FuncId := 340
abbrev g_slices_medianCmpFunc_impl_PlanPoint : FuncId := 341
abbrev g_slices_order2CmpFunc_impl_PlanEntry : FuncId := 342
abbrev g_slices_order2CmpFunc_impl_PlanField : FuncId := 343
abbrev g_math_bits_TrailingZeros32 : FuncId := 344
abbrev g_math_bits_TrailingZeros64 : FuncId := 345
abbrev g_strings_IndexByte : FuncId := 346
abbrev g_unicode_utf8_ValidRune : FuncId := 347
abbrev g_internal_strconv_lower : FuncId := 348
abbrev g_internal_strconv_underscoreOK : FuncId := 349
abbrev g_slices_order2CmpFunc_impl_PlanKind : FuncId := 350
abbrev g_slices_order2CmpFunc_impl_PlanPoint : FuncId := 351
abbrev g_gosem_cut_vars : FuncId := 385
end Lx
/- Meanings: how much an argument holds; the arguments made the program's own; answers held against each other. -/
set_option linter.unusedVariables false
set_option linter.unusedSimpArgs false
namespace Lx
open Go Go.Proofs
def szL (left : Int) (n : Nat) : Int := if left - n < 0 then -1 else left - n
def leftOk (left : Int) : Bool := decide (-1 ≤ left) && decide (left ≤ 4194304)
def lenOk (n : Nat) : Bool := decide (n ≤ 9223372036854775807)
def sumN {α : Type} (f : α → Nat) : List α → Nat
  | [] => 0
  | a :: l => f a + sumN f l
theorem sumN_cons {α : Type} (f : α → Nat) (a : α) (l : List α) : sumN f (a :: l) = f a + sumN f l := rfl
theorem lenOk_le {n : Nat} (h : lenOk n = true) : n ≤ 9223372036854775807 := of_decide_eq_true h
theorem szWrap {left : Int} {n : Nat} (hl : leftOk left = true) (hn : lenOk n = true) : IntKind.wrap .i64 (left - (n : Int)) = left - (n : Int) := by
  have := lenOk_le hn
  simp only [leftOk, Bool.and_eq_true, decide_eq_true_eq] at hl
  rw [wrap_ok] <;> omega
theorem szL_lt {left : Int} {n : Nat} (h : left - (n : Int) < 0) : szL left n = -1 := if_pos h
theorem szL_ge {left : Int} {n : Nat} (h : ¬ left - (n : Int) < 0) : szL left n = left - n := if_neg h
theorem szL_neg {left : Int} {n m : Nat} (h : left - (n : Int) < 0) : szL left (n + m) = -1 := if_pos (by omega)
theorem szL_add {left : Int} {n m : Nat} (h : ¬ left - (n : Int) < 0) : szL left (n + m) = szL (left - n) m := by
  unfold szL
  rw [show left - ((n + m : Nat) : Int) = left - (n : Int) - (m : Int) by omega]
theorem szL_zero {left : Int} (h : 0 ≤ left) : szL left 0 = left := by unfold szL; rw [if_neg (by omega)]; omega
theorem leftOk_sub {left : Int} {n : Nat} (hl : leftOk left = true) (h : ¬ left - (n : Int) < 0) : leftOk (left - n) = true := by
  simp only [leftOk, Bool.and_eq_true, decide_eq_true_eq] at hl ⊢
  omega
theorem set_fill {α : Type} {l : List α} {i d : Nat} {z : α} (h : i < l.length) : (l.take i ++ List.replicate (d + 1) z).set ((i : Int).toNat) l[i] = l.take (i + 1) ++ List.replicate d z := by
  rw [Int.toNat_natCast, List.set_append_right _ _ (by simp; omega), List.length_take, show i - min i l.length = 0 by omega, List.replicate_succ, List.set_cons_zero, List.take_succ_eq_append_getElem h, List.append_assoc]
  rfl
theorem makeOk {b n : Nat} (hb : b ≤ 256) (hn : n ≤ 1000000000) : (decide ((0 : Int) ≤ (n : Int)) && (decide ((n : Int) = (n : Int)) && decide ((b : Int) * (n : Int) ≤ 281474976710656))) = true := by
  have h : b * n ≤ 256 * 1000000000 := Nat.mul_le_mul hb hn
  have h2 : (b : Int) * (n : Int) = ((b * n : Nat) : Int) := by simp
  rw [h2, decide_eq_true (by omega), decide_eq_true rfl, decide_eq_true (by omega)]
  rfl
def w_PlanKind (name : Str) (quick : Int) (slow : Int) : Nat := name.length + (0)
def ok_PlanKind (name : Str) (quick : Int) (slow : Int) : Bool := lenOk name.length && (true)
def wS_PlanKind (l : List Kind) : Nat := l.length + sumN (fun z : Kind => w_PlanKind z.name z.quick z.slow) l
def okS_PlanKind (l : List Kind) : Bool := lenOk l.length && l.all (fun z : Kind => ok_PlanKind z.name z.quick z.slow)
def E_laws_szPlanKind : Ent Ty El := ⟨[.ro, .ro], 0, fun a h => match a, h with
  | [.agg [.str name, .int .i64 quick, .int .i64 slow], .int .i64 left], [] => some (ok_PlanKind name quick slow && leftOk left, .int .i64 (szL left (w_PlanKind name quick slow)), [])
  | _, _ => none⟩
def E_laws_szPlanKindS : Ent Ty El := ⟨[.ro, .ro], 0, fun a h => match a, h with
  | [.sl .lkind l, .int .i64 left], [] => some (okS_PlanKind l && leftOk left, .int .i64 (szL left (wS_PlanKind l)), [])
  | _, _ => none⟩
def w_PlanPoint (name : Str) (x : Int) (y : Int) : Nat := name.length + (0)
def ok_PlanPoint (name : Str) (x : Int) (y : Int) : Bool := lenOk name.length && (true)
def wS_PlanPoint (l : List Point) : Nat := l.length + sumN (fun z : Point => w_PlanPoint z.name z.x z.y) l
def okS_PlanPoint (l : List Point) : Bool := lenOk l.length && l.all (fun z : Point => ok_PlanPoint z.name z.x z.y)
def E_laws_szPlanPoint : Ent Ty El := ⟨[.ro, .ro], 0, fun a h => match a, h with
  | [.agg [.str name, .int .i64 x, .int .i64 y], .int .i64 left], [] => some (ok_PlanPoint name x y && leftOk left, .int .i64 (szL left (w_PlanPoint name x y)), [])
  | _, _ => none⟩
def E_laws_szPlanPointS : Ent Ty El := ⟨[.ro, .ro], 0, fun a h => match a, h with
  | [.sl .lpoint l, .int .i64 left], [] => some (okS_PlanPoint l && leftOk left, .int .i64 (szL left (wS_PlanPoint l)), [])
  | _, _ => none⟩
def w_PlanBase (ks : List Kind) (ps : List Point) : Nat := wS_PlanKind ks + (wS_PlanPoint ps + (0))
def ok_PlanBase (ks : List Kind) (ps : List Point) : Bool := okS_PlanKind ks && (okS_PlanPoint ps && (true))
def E_laws_szPlanBase : Ent Ty El := ⟨[.ro, .ro], 0, fun a h => match a, h with
  | [.agg [.sl .lkind ks, .sl .lpoint ps], .int .i64 left], [] => some (ok_PlanBase ks ps && leftOk left, .int .i64 (szL left (w_PlanBase ks ps)), [])
  | _, _ => none⟩
def w_PlanField (what : Int) (number : Int) (value : Str) : Nat := value.length + (0)
def ok_PlanField (what : Int) (number : Int) (value : Str) : Bool := lenOk value.length && (true)
def wS_PlanField (l : List Fld) : Nat := l.length + sumN (fun z : Fld => w_PlanField z.what z.number z.value) l
def okS_PlanField (l : List Fld) : Bool := lenOk l.length && l.all (fun z : Fld => ok_PlanField z.what z.number z.value)
def E_laws_szPlanField : Ent Ty El := ⟨[.ro, .ro], 0, fun a h => match a, h with
  | [.agg [.int .i64 what, .int .i64 number, .str value], .int .i64 left], [] => some (ok_PlanField what number value && leftOk left, .int .i64 (szL left (w_PlanField what number value)), [])
  | _, _ => none⟩
def E_laws_szPlanFieldS : Ent Ty El := ⟨[.ro, .ro], 0, fun a h => match a, h with
  | [.sl .lfld l, .int .i64 left], [] => some (okS_PlanField l && leftOk left, .int .i64 (szL left (wS_PlanField l)), [])
  | _, _ => none⟩
def w_PlanEntry (name : Str) (fields : List Fld) : Nat := name.length + (wS_PlanField fields + (0))
def ok_PlanEntry (name : Str) (fields : List Fld) : Bool := lenOk name.length && (okS_PlanField fields && (true))
def wS_PlanEntry (l : List Entry) : Nat := l.length + sumN (fun z : Entry => w_PlanEntry z.name z.fields) l
def okS_PlanEntry (l : List Entry) : Bool := lenOk l.length && l.all (fun z : Entry => ok_PlanEntry z.name z.fields)
def E_laws_szPlanEntry : Ent Ty El := ⟨[.ro, .ro], 0, fun a h => match a, h with
  | [.agg [.str name, .sl .lfld fields], .int .i64 left], [] => some (ok_PlanEntry name fields && leftOk left, .int .i64 (szL left (w_PlanEntry name fields)), [])
  | _, _ => none⟩
def E_laws_szPlanEntryS : Ent Ty El := ⟨[.ro, .ro], 0, fun a h => match a, h with
  | [.sl .lentry l, .int .i64 left], [] => some (okS_PlanEntry l && leftOk left, .int .i64 (szL left (wS_PlanEntry l)), [])
  | _, _ => none⟩
def w_PlanBook (ks : List Kind) (ps : List Point) (es : List Entry) : Nat := w_PlanBase ks ps + (wS_PlanEntry es + (0))
def ok_PlanBook (ks : List Kind) (ps : List Point) (es : List Entry) : Bool := ok_PlanBase ks ps && (okS_PlanEntry es && (true))
def E_laws_szPlanBook : Ent Ty El := ⟨[.ro, .ro], 0, fun a h => match a, h with
  | [.agg [.sl .lkind ks, .sl .lpoint ps, .sl .lentry es], .int .i64 left], [] => some (ok_PlanBook ks ps es && leftOk left, .int .i64 (szL left (w_PlanBook ks ps es)), [])
  | _, _ => none⟩
def tS_PlanKind (l : List Kind) : Bool := decide (l.length ≤ 1000000000) && true
def E_laws_toPlanKind : Ent Ty El := ⟨[.ro], 0, fun a h => match a, h with
  | [.agg [.str name, .int .i64 quick, .int .i64 slow]], [] => some (true, .agg [.str name, .int .i64 quick, .int .i64 slow], [])
  | _, _ => none⟩
def E_laws_toPlanKindS : Ent Ty El := ⟨[.ro], 1, fun a h => match a, h with
  | [.sl .lkind l], [] => some (tS_PlanKind l, .own 0 [] 0, [.row .kind l 0 0 0 .no])
  | _, _ => none⟩
def tS_PlanPoint (l : List Point) : Bool := decide (l.length ≤ 1000000000) && true
def E_laws_toPlanPoint : Ent Ty El := ⟨[.ro], 0, fun a h => match a, h with
  | [.agg [.str name, .int .i64 x, .int .i64 y]], [] => some (true, .agg [.str name, .int .i64 x, .int .i64 y], [])
  | _, _ => none⟩
def E_laws_toPlanPointS : Ent Ty El := ⟨[.ro], 1, fun a h => match a, h with
  | [.sl .lpoint l], [] => some (tS_PlanPoint l, .own 0 [] 0, [.row .point l 0 0 0 .no])
  | _, _ => none⟩
def t_PlanBase (ks : List Kind) (ps : List Point) : Bool := tS_PlanKind ks && (tS_PlanPoint ps && (true))
def E_laws_toPlanBase : Ent Ty El := ⟨[.ro], 2, fun a h => match a, h with
  | [.agg [.sl .lkind ks, .sl .lpoint ps]], [] => some (t_PlanBase ks ps, .agg [.own 0 [] 0, .own 1 [] 0], [.row .kind ks 0 0 0 .no, .row .point ps 0 0 0 .no])
  | _, _ => none⟩
def tS_PlanField (l : List Fld) : Bool := decide (l.length ≤ 1000000000) && true
def E_laws_toPlanField : Ent Ty El := ⟨[.ro], 0, fun a h => match a, h with
  | [.agg [.int .i64 what, .int .i64 number, .str value]], [] => some (true, .agg [.int .i64 what, .int .i64 number, .str value], [])
  | _, _ => none⟩
def E_laws_toPlanFieldS : Ent Ty El := ⟨[.ro], 1, fun a h => match a, h with
  | [.sl .lfld l], [] => some (tS_PlanField l, .own 0 [] 0, [.row .fld l 0 0 0 .no])
  | _, _ => none⟩
def t_PlanEntry (name : Str) (fields : List Fld) : Bool := tS_PlanField fields && (true)
def tS_PlanEntry (l : List Entry) : Bool := decide (l.length ≤ 1000000000) && l.all (fun z : Entry => t_PlanEntry z.name z.fields)
def E_laws_toPlanEntry : Ent Ty El := ⟨[.ro], 1, fun a h => match a, h with
  | [.agg [.str name, .sl .lfld fields]], [] => some (t_PlanEntry name fields, .agg [.str name, .own 0 [] 0], [.row .fld fields 0 0 0 .no])
  | _, _ => none⟩
def E_laws_toPlanEntryS : Ent Ty El := ⟨[.ro], 1, fun a h => match a, h with
  | [.sl .lentry l], [] => some (tS_PlanEntry l, .own 0 [] 0, [.row .entry l 1 0 0 .no])
  | _, _ => none⟩
def t_PlanBook (ks : List Kind) (ps : List Point) (es : List Entry) : Bool := tS_PlanKind ks && (tS_PlanPoint ps && (tS_PlanEntry es && (true)))
def E_laws_toPlanBook : Ent Ty El := ⟨[.ro], 3, fun a h => match a, h with
  | [.agg [.sl .lkind ks, .sl .lpoint ps, .sl .lentry es]], [] => some (t_PlanBook ks ps es, .agg [.own 0 [] 0, .own 1 [] 0, .own 2 [] 0], [.row .kind ks 0 0 0 .no, .row .point ps 0 0 0 .no, .row .entry es 1 0 0 .no])
  | _, _ => none⟩
def E_laws_eqPlanKind : Ent Ty El := ⟨[.ro, .ro], 0, fun a h => match a, h with
  | [.agg [.str name, .int .i64 quick, .int .i64 slow], .agg [.str name', .int .i64 quick', .int .i64 slow']], [] => some (true, .bool (decide ((⟨name, quick, slow⟩ : Kind) = ⟨name', quick', slow'⟩)), [])
  | _, _ => none⟩
def E_laws_eqPlanKindS : Ent Ty El := ⟨[.ro, .ro], 0, fun a h => match a, h with
  | [.sl .kind l, .sl .kind l'], [] => some (tS_PlanKind l, .bool (decide (l = l')), [])
  | _, _ => none⟩
def E_laws_eqPlanPoint : Ent Ty El := ⟨[.ro, .ro], 0, fun a h => match a, h with
  | [.agg [.str name, .int .i64 x, .int .i64 y], .agg [.str name', .int .i64 x', .int .i64 y']], [] => some (true, .bool (decide ((⟨name, x, y⟩ : Point) = ⟨name', x', y'⟩)), [])
  | _, _ => none⟩
def E_laws_eqPlanPointS : Ent Ty El := ⟨[.ro, .ro], 0, fun a h => match a, h with
  | [.sl .point l, .sl .point l'], [] => some (tS_PlanPoint l, .bool (decide (l = l')), [])
  | _, _ => none⟩
def E_laws_eqPlanBase : Ent Ty El := ⟨[.ro, .ro], 0, fun a h => match a, h with
  | [.agg [.sl .kind ks, .sl .point ps], .agg [.sl .kind ks', .sl .point ps']], [] => some (t_PlanBase ks ps, .bool ((decide (ks = ks') && (decide (ps = ps') && true))), [])
  | _, _ => none⟩
def E_laws_eqPlanField : Ent Ty El := ⟨[.ro, .ro], 0, fun a h => match a, h with
  | [.agg [.int .i64 what, .int .i64 number, .str value], .agg [.int .i64 what', .int .i64 number', .str value']], [] => some (true, .bool (decide ((⟨what, number, value⟩ : Fld) = ⟨what', number', value'⟩)), [])
  | _, _ => none⟩
def E_laws_eqPlanFieldS : Ent Ty El := ⟨[.ro, .ro], 0, fun a h => match a, h with
  | [.sl .fld l, .sl .fld l'], [] => some (tS_PlanField l, .bool (decide (l = l')), [])
  | _, _ => none⟩
def E_laws_eqPlanEntry : Ent Ty El := ⟨[.ro, .ro], 0, fun a h => match a, h with
  | [.agg [.str name, .sl .fld fields], .agg [.str name', .sl .fld fields']], [] => some (t_PlanEntry name fields, .bool (decide ((⟨name, fields⟩ : Entry) = ⟨name', fields'⟩)), [])
  | _, _ => none⟩
def E_laws_eqPlanEntryS : Ent Ty El := ⟨[.ro, .ro], 0, fun a h => match a, h with
  | [.sl .entry l, .sl .entry l'], [] => some (tS_PlanEntry l, .bool (decide (l = l')), [])
  | _, _ => none⟩
def E_laws_eqPlanBook : Ent Ty El := ⟨[.ro, .ro], 0, fun a h => match a, h with
  | [.agg [.sl .kind ks, .sl .point ps, .sl .entry es], .agg [.sl .kind ks', .sl .point ps', .sl .entry es']], [] => some (t_PlanBook ks ps es, .bool (((decide (ks = ks') && (decide (ps = ps') && true)) && (decide (es = es') && true))), [])
  | _, _ => none⟩
end Lx
