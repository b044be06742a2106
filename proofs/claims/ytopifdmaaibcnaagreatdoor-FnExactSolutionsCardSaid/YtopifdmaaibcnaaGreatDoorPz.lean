/- slices.SortFunc over a row of figures, (impl.grid).figures, impl.solutions, spec.moSorted and what hands back their first figure or all. No conditions beyond those of each theorem. -/
import Derived.Test.YtopifdmaaibcnaaGreatDoorHc0
import Derived.Test.YtopifdmaaibcnaaGreatDoorHc1
import Derived.Test.YtopifdmaaibcnaaGreatDoorHc2
import Derived.Test.YtopifdmaaibcnaaGreatDoorHc3
import Derived.Test.YtopifdmaaibcnaaGreatDoorHc4
import Derived.Test.YtopifdmaaibcnaaGreatDoorHc5
import Derived.Test.YtopifdmaaibcnaaGreatDoorHc6
import Derived.Test.YtopifdmaaibcnaaGreatDoorHc7
import Derived.Test.YtopifdmaaibcnaaGreatDoorHc8
import Derived.Test.YtopifdmaaibcnaaGreatDoorHc9
import Derived.Test.YtopifdmaaibcnaaGreatDoorHd
import Derived.Test.YtopifdmaaibcnaaGreatDoorHk
import Derived.Calls
import Derived.Shelf.SlSortCmp.WholeK
import Derived.Shelf.SlSortCmp.NoneTotal
import Derived.Sort.AssemblyPlain
import Derived.Deep.LoopGhost
import Derived.Deep.Draws
import Derived.Laws.IdiomCopy
namespace Go.Proofs.YtopifdmaaibcnaaGreatDoor.H
open Go.RowKit Go.Proofs.YtopifdmaaibcnaaGreatDoorW.PrintWords Go.Proofs.YtopifdmaaibcnaaGreatDoorW.PrintLast Go.Proofs.YtopifdmaaibcnaaGreatDoorW.PrintMore
attribute [local go_sem] max2_int min2_int max_two min_two max_three min_three max_four min_four
set_option linter.unusedVariables false
set_option linter.unusedSimpArgs false
set_option linter.unnecessarySimpa false
/-! What has been drawn is never undrawn: in no step of the machine. -/
section
open Go
variable {P : Program}
def DL (w w' : World) : Prop := w.drawn ≤ w'.drawn
theorem DL.rfl' (w : World) : DL w w := Nat.le_refl _
theorem DL.tr {a b c : World} (h : DL a b) (k : DL b c) : DL a c := Nat.le_trans h k
theorem ask_dl {α : Type} : ∀ (x : Ask α) (w : World), DL w (w.ask x).2
  | .done a, w => Nat.le_refl _
  | .ask what range k, w => by
    unfold World.ask
    simp only
    split
    · exact ask_dl (k 0) w
    · exact DL.tr (b := { w with drawn := w.drawn + 1 }) (Nat.le_succ _) (ask_dl _ _)
theorem sys_dl (w : World) (c : Sys) : DL w (w.sys c).2 := by
  unfold World.sys
  have h := ask_dl (Kernel.perform c w.os) w
  split
  · exact DL.rfl' _
  · next h2 => rw [h2] at h; exact h
theorem farStore_dl (w w' : World) (a : Addr) (v : Value) (b : Bool) (l : List Addr) (h : w.farStore P a v b = .ok (w', l)) : DL w w' := by
  unfold World.farStore at h
  split at h
  · split at h
    · next r hr =>
      cases h
      unfold World.viewStore at hr
      simp only [bind, Except.bind, pure, Except.pure] at hr
      repeat' first
        | (cases hr; done)
        | (cases hr; exact Nat.le_refl _)
        | split at hr
    · cases h
  · cases h
def rw_ {α : Type} : Result α → World
  | .ok _ w => w
  | .halt _ w => w
theorem run_dl {α : Type} (s : Sem α) : ∀ w : World, DL w (rw_ (s.run P w)) := by
  induction s with
  | pure a => intro w; exact DL.rfl' _
  | load m a k ih =>
    intro w
    simp only [Sem.run]
    split
    · exact ih _ _
    · split
      · exact ih _ _
      · exact DL.rfl' _
  | store m a v k ih =>
    intro w
    cases v <;> simp only [Sem.run]
    all_goals first
      | exact DL.rfl' _
      | (split
         · split
           · exact DL.rfl' _
           · exact DL.tr (b := w.setCell a _) (Nat.le_refl _) (ih _)
         · split
           · next h => exact DL.tr (farStore_dl _ _ _ _ _ _ h) (ih _)
           · exact DL.rfl' _)
  | new o k ih => intro w; exact DL.tr (b := { w with heap := w.heap.push o }) (Nat.le_refl _) (ih _ _)
  | shape r k ih => intro w; exact ih _ _
  | freeze a n k ih =>
    intro w
    refine DL.tr (b := w.freeze a n) ?_ (ih _)
    unfold World.freeze
    split <;> exact Nat.le_refl _
  | frozen a k ih => intro w; exact ih _ _
  | getObj r k ih =>
    intro w
    simp only [Sem.run]
    split
    · exact DL.rfl' _
    · exact ih _ _
    · exact DL.rfl' _
  | setObj r o k ih =>
    intro w
    simp only [Sem.run]
    split
    · exact DL.rfl' _
    · exact DL.tr (b := { w with heap := w.heap.setIfInBounds r o }) (Nat.le_refl _) (ih _)
    · exact DL.rfl' _
  | choose q k ih =>
    intro w
    simp only [Sem.run]
    split
    · exact ih _ _
    · exact DL.tr (b := { w with drawn := w.drawn + 1 }) (Nat.le_succ _) (ih _ _)
  | sys c k ih => intro w; exact DL.tr (sys_dl w c) (ih _ _)
  | program k ih => intro w; exact ih _ _
  | mark m k ih => intro w; exact ih _
  | halt h => intro w; exact DL.rfl' _
theorem run_ok {α : Type} {s : Sem α} {w w' : World} {a : α} (h : s.run P w = .ok a w') : DL w w' := by have := run_dl (P := P) s w; rw [h] at this; exact this
theorem run_halt {α : Type} {s : Sem α} {w w' : World} {a : Halt} (h : s.run P w = .halt a w') : DL w w' := by have := run_dl (P := P) s w; rw [h] at this; exact this
theorem runT_ok {α : Type} {s : Sem α} {w w' : World} {a : α} {es es' : Array Event} (h : s.runT P w es = (.ok a w', es')) : DL w w' := run_ok (by rw [← Sem.runT_fst P s w es, h])
theorem runT_halt {α : Type} {s : Sem α} {w w' : World} {a : Halt} {es es' : Array Event} (h : s.runT P w es = (.halt a w', es')) : DL w w' := run_halt (by rw [← Sem.runT_fst P s w es, h])
/-- a goroutine's step's world -/
def gsw : GStep → World
  | .go _ w _ => w
  | .comm _ _ _ _ w _ => w
  | .spawn _ _ w _ => w
  | .count _ w _ => w
  | .timer _ _ w _ => w
  | .alone _ _ w _ => w
  | .newcoro _ _ _ w _ => w
  | .coroswitch _ _ _ w _ => w
  | .collect _ w _ => w
  | .watch _ w _ => w
  | .ended _ w _ => w
theorem gsw_after (es : Array Event) (s : GStep) : gsw (s.after es) = gsw s := by cases s <;> rfl
theorem endThrow_dl (fr : Frame) (m : String) (w : World) : gsw (endThrow fr m w) = w := rfl
theorem dieOf_dl (fr : Frame) (a : List ByteArray) (m : String) (b : Bool) (w : World) : gsw (dieOf fr a m b w) = w := rfl
theorem endWith_dl (w : World) (fd : Nat) (t : ByteArray) (o : Outcome) : DL w (gsw (endWith w fd t o)) := by
  unfold endWith
  have h := sys_dl w (.write fd t)
  simp only
  split
  · next h2 => rw [h2] at h; split <;> exact h
  · next h2 => rw [h2] at h; exact h
  · next h2 => rw [h2] at h; exact h
theorem endPrinting_dl (fr : Frame) (v : Value) (w : World) : DL w (gsw (endPrinting P fr v w)) := by
  unfold endPrinting
  simp only
  split
  · exact DL.rfl' _
  · exact DL.rfl' _
theorem endFatal_dl (fr : Frame) (cs : List Frame) (d : Option Dying) (m : String) (w : World) : DL w (gsw (endFatal P fr cs d m w)) := by
  unfold endFatal
  simp only
  split
  · next h => exact run_ok h
  · next h => exact run_halt h
  · next h => exact run_halt h
theorem writeOn_dl (fr : Frame) (d : Dying) (f : Fatal) (w : World) : DL w (gsw (writeOn P fr d f w)) := by
  unfold writeOn
  simp only
  split
  · exact DL.rfl' _
  · split
    · next h => exact runT_ok h
    · next h => exact runT_halt h
    · next h => exact runT_halt h
    · next h => exact runT_halt h
theorem die_dl (fr : Frame) (d : Dying) (w : World) : DL w (gsw (die P fr d w)) := by
  unfold die
  split
  · exact writeOn_dl _ _ _ _
  · split
    · split
      · exact DL.rfl' _
      · exact endWith_dl _ _ _ _
    · simp only
      split
      · exact DL.rfl' _
      · split
        · next h => exact run_ok h
        · next h => exact run_halt h
      · rw [gsw_after]
        rw [Sem.runT_eq]
        simp only
        split
        · next h => exact run_ok h
        · next h => exact run_ok h
        · next h => exact run_halt h
        · next h => exact DL.tr (run_halt h) (endPrinting_dl _ _ _)
        · exact DL.rfl' _
      · exact DL.rfl' _
end
section
open Go
variable {P : Program}
theorem doReturn_dl (main : Bool) (fr : Frame) (cs : List Frame) (d : Option Dying) (v : Value) (w : World) : gsw (doReturn P main fr cs d v w) = w := by
  unfold doReturn
  repeat' first
    | rfl
    | (simp only; done)
    | split
theorem early_dl (fr : Frame) (cs : List Frame) (d : Option Dying) (g : Nat) (w : World) : DL w (gsw (early P fr cs d g w)) := by
  have nY : ∀ w' : World, DL w w' → DL w (gsw (match w'.heap[g]? with
    | some (.pending c elem) => .go { frame := fr, callers := cs, status := .running, dying := d } { w' with heap := w'.heap.setIfInBounds g (.cells c elem) }
    | _ => .ended (.stuck "early: the variable does not wait" (fr.pos P)) w')) := by
    intro w' h
    split
    · exact DL.tr h (Nat.le_refl _)
    · exact h
  unfold early
  simp only
  repeat' first
    | exact DL.rfl' _
    | exact nY _ (DL.rfl' _)
    | (next h => exact nY _ (run_ok h))
    | (next h => exact run_ok h)
    | (next h => exact run_halt h)
    | split
theorem ite_dl {c : Prop} [Decidable c] {w : World} {a b : GStep} (h1 : DL w (gsw a)) (h2 : DL w (gsw b)) : DL w (gsw (if c then a else b)) := by split <;> assumption
theorem callDeferred_dl (fr : Frame) (cs : List Frame) (d : Option Dying) (f : Deferred) (w : World) : DL w (gsw (callDeferred P fr cs d f w)) := by
  unfold callDeferred
  rw [Sem.runT_eq]
  refine ite_dl (DL.rfl' _) ?_
  · simp only [gsw_after]
    split
    all_goals (next h =>
      repeat' first
        | exact run_ok h
        | exact run_halt h
        | exact DL.tr (run_halt h) (endFatal_dl _ _ _ _ _)
        | split)
theorem unwind_dl (main : Bool) (fr : Frame) (cs : List Frame) (d : Option Dying) (w : World) : DL w (gsw (unwind P main fr cs d w)) := by
  unfold unwind
  split
  · rw [gsw_after, Sem.runT_eq]
    simp only
    split
    · next h => exact run_ok h
    · next h => exact run_halt h
  · exact callDeferred_dl _ _ _ _ _
  · split
    · exact DL.rfl' _
    · split
      · exact DL.rfl' _
      · split
        · exact DL.rfl' _
        · split
          · split
            · exact DL.rfl' _
            · split
              · next h => exact run_ok h
              · next h => exact run_halt h
              · next h => exact run_halt h
          · split
            · exact endPrinting_dl _ _ _
            · exact DL.rfl' _
    · split
      · rw [doReturn_dl]; exact DL.rfl' _
      · rw [gsw_after, Sem.runT_eq]
        simp only
        split
        · next h => rw [doReturn_dl]; exact run_ok h
        · next h => exact run_halt h
        · next h => exact run_halt h
theorem listen_run {α : Type} (b : Bool) (s : Sem α) (w : World) : (if b = true then s.runT P w #[] else (s.run P w, #[])).1 = s.run P w := by
  split
  · rw [Sem.runT_fst]
  · rfl
theorem apply_dl (listen : Bool) (fr : Frame) (cs : List Frame) (d : Option Dying) (s : Sem Next) (w : World) : DL w (gsw (stepG.apply P listen fr cs d s w)) := by
  unfold stepG.apply
  simp only [gsw_after]
  have hl := listen_run (P := P) listen s w
  generalize (if listen = true then s.runT P w #[] else (s.run P w, #[])) = R at hl ⊢
  obtain ⟨r, es⟩ := R
  simp only at hl ⊢
  subst hl
  generalize hr : s.run P w = r
  cases r with
  | ok n w' =>
    have hd := run_ok hr
    cases n
    all_goals first
      | exact hd
      | (dsimp only; split <;> exact hd)
      | (dsimp only; split <;> split <;> exact hd)
      | (dsimp only; exact ite_dl (by exact hd) (by exact hd))
  | halt h w' =>
    have hd := run_halt hr
    cases h
    all_goals first
      | exact hd
      | exact DL.tr hd (endFatal_dl _ _ _ _ _)
      | (rename_i u; cases u <;> first | exact hd | exact DL.tr hd (early_dl _ _ _ _ _))
end
section
open Go
variable {P : Program}
theorem oper_dl (listen : Bool) (fr : Frame) (cs : List Frame) (d : Option Dying) (w : World) : DL w (gsw (stepG.oper P listen fr cs d w)) := by
  unfold stepG.oper
  split
  · exact DL.rfl' _
  · split <;> exact apply_dl _ _ _ _ _ _
theorem leave_dl (main : Bool) (fr : Frame) (cs : List Frame) (d : Option Dying) (w : World) (c : Prop) [Decidable c] (jump : Option Code) : DL w (gsw (match fr.roundOf with
      | none => if c then .go { frame := { fr with mode := .returning }, callers := cs, status := .running, dying := d } w else .ended (.stuck "exit, goto: no such block or label" (fr.pos P)) w
      | some l =>
        GStep.after (seen P fr.fn (Sem.events P (Instr.endRound l jump) w #[])) <| match (Instr.endRound l jump).run P w with
        | .ok v w => doReturn P main fr cs d v w
        | .halt _ w => .ended (.stuck "range over a function: no such loop" (fr.pos P)) w)) := by
  split
  · exact ite_dl (DL.rfl' _) (DL.rfl' _)
  · rw [gsw_after]
    split
    · next h => rw [doReturn_dl]; exact run_ok h
    · next h => exact run_halt h
theorem elim_dl {α : Type} {w : World} (o : Option α) {a : GStep} {f : α → GStep} (h1 : DL w (gsw a)) (h2 : ∀ x, DL w (gsw (f x))) : DL w (gsw (o.elim a f)) := by
  cases o with
  | none => exact h1
  | some x => exact h2 x
theorem exec_dl (main listen : Bool) (fr : Frame) (cs : List Frame) (d : Option Dying) (w : World) : DL w (gsw (stepG.exec P main listen fr cs d w)) := by
  unfold stepG.exec
  simp only [Sem.runT_eq]
  split
  all_goals first
    | exact DL.rfl' _
    | exact leave_dl main fr cs d w _ _
    | exact oper_dl _ _ _ _ _
    | exact apply_dl _ _ _ _ _ _
    | exact elim_dl _ (leave_dl main fr cs d w _ _) (fun _ => DL.rfl' _)
    | exact elim_dl _ (DL.rfl' _) (fun _ => apply_dl _ _ _ _ _ _)
    | exact ite_dl (oper_dl _ _ _ _ _) (DL.rfl' _)
    | (split <;> exact DL.rfl' _)
    | (rw [gsw_after]
       split
       · next h => exact run_ok h
       · next h => exact run_halt h
       · rename Sem.run P _ w = Result.halt _ _ => h; exact run_halt h)
    | (rw [gsw_after]
       split
       · next h => first | exact DL.tr (run_ok h) (apply_dl _ _ _ _ _ _) | exact run_ok h
       · next h => exact run_halt h)
    | (refine ite_dl (DL.rfl' _) ?_
       split
       · next h => exact run_ok h
       · next h => exact run_halt h)
theorem stepG_dl (main : Bool) (g : Goroutine) (w : World) (listen : Bool) : DL w (gsw (stepG P main g w listen)) := by
  unfold stepG
  simp only
  split
  exact die_dl _ _ _
  exact exec_dl _ _ _ _ _ _
  exact unwind_dl _ _ _ _ _
/-- where a machine goes on from a world: what has been drawn -/
def ML (w : World) : Stepped → Prop
  | .next m => DL w m.world
  | .ended _ _ => True
theorem waitingAt_dl {rest : Rest} {cases : Array CommCase} {w w' : World} (h : waitingAt rest cases w = some w') : DL w w' := by
  unfold waitingAt at h
  split at h
  · split at h
    · cases h; exact Nat.le_refl _
    · cases h
  · cases h; exact Nat.le_refl _
theorem communicate_dl (rest : Rest) (gs : Array Goroutine) (i : Nat) (g : Goroutine) (cases : Array CommCase) (blocking : Bool) (shape : CommShape) (w : World) : ML w (communicate P rest gs i g cases blocking shape w).1 := by
  unfold communicate
  simp only []
  repeat' first
    | exact True.intro
    | exact DL.rfl' _
    | (rename waitingAt _ _ w = some _ => h; exact waitingAt_dl h)
    | (rename Sem.run P _ w = Result.ok _ _ => h1; rename Sem.run P _ _ = Result.ok _ _ => h2; have h3 := DL.tr (run_ok h1) (run_ok h2); exact h3)
    | (rename Sem.run P _ w = Result.ok _ _ => h1; rename Sem.run P _ _ = Result.halt _ _ => h2; have h3 := DL.tr (run_ok h1) (run_halt h2); exact h3)
    | (rename Sem.run P _ w = Result.ok _ _ => h1; have h3 := run_ok h1; exact h3)
    | split
theorem look_dl (gs : Array Goroutine) (rest : Rest) (w : World) : ML w (look P gs rest w) := by
  unfold look
  simp only []
  repeat' first
    | exact True.intro
    | exact DL.rfl' _
    | (rename Sem.run P _ w = Result.ok _ _ => h1; have h3 := run_ok h1; exact h3)
    | split
theorem drain_dl (w : World) (c : Nat) : DL w (drain w c).2 := by
  unfold drain
  split <;> exact Nat.le_refl _
theorem retime_dl (m : Machine) (k : Nat) (t : Timer) (a b : Nat) : DL m.world (retime m k t a b).2.world := by
  unfold retime
  simp only
  split
  · exact drain_dl _ _
  · exact DL.rfl' _
theorem named_dl {m m' : Machine} {var : Addr} {f : Nat → Timer → Value × Machine} {v : Value} (hf : ∀ k t, DL m.world (f k t).2.world) (h : timerOp.named m var f = .ok (v, m')) : DL m.world m'.world := by
  unfold timerOp.named at h
  split at h
  · next k _ =>
    have h2 := hf k (m.rest.timers.getD k default)
    rw [Except.ok.inj h] at h2
    exact h2
  · cases h
theorem opened_dl {m m' : Machine} {var : Addr} (h : timerOp.opened m var = some m') : DL m.world m'.world ∧ m'.rest = m.rest := by
  unfold timerOp.opened at h
  split at h
  · split at h
    · cases h; exact ⟨Nat.le_refl _, rfl⟩
    · cases h
  · cases h; exact ⟨Nat.le_refl _, rfl⟩
theorem timerOp_dl {m m' : Machine} {op : TimerOp} {v : Value} (h : timerOp m op = .ok (v, m')) : DL m.world m'.world := by
  unfold timerOp at h
  repeat' first
    | (cases h; done)
    | (cases h; exact Nat.le_refl _)
    | exact named_dl (fun _ _ => retime_dl _ _ _ _ _) h
    | (rename timerOp.opened m _ = some _ => h2; exact named_dl (fun _ _ => DL.tr (opened_dl h2).1 (retime_dl _ _ _ _ _)) h)
    | split at h
theorem communicate_dl' {rest : Rest} {gs : Array Goroutine} {i : Nat} {g : Goroutine} {cases : Array CommCase} {blocking : Bool} {shape : CommShape} {w : World} {m' : Machine} (h : (communicate P rest gs i g cases blocking shape w).1 = .next m') : DL w m'.world := by
  have h2 := communicate_dl (P := P) rest gs i g cases blocking shape w
  rw [h] at h2
  exact h2
theorem look_dl' {gs : Array Goroutine} {rest : Rest} {w : World} {m' : Machine} (h : look P gs rest w = .next m') : DL w m'.world := by
  have h2 := look_dl (P := P) gs rest w
  rw [h] at h2
  exact h2
theorem runT_dlm {m m' : Machine} {i : Nat} {b : Bool} (h : (runT P m i b).1 = .next m') : DL m.world m'.world := by
  simp only [runT] at h
  generalize m.gs.swapAt! _ _ = gg at h
  have hd := stepG_dl (P := P) (i == 0) gg.1 m.world b
  generalize stepG P _ gg.1 m.world b = s at h hd
  cases s <;> simp only [] at h <;> simp only [gsw] at hd
  all_goals repeat' first
    | (cases h; done)
    | (cases h; have h3 : DL m.world _ := hd; exact h3)
    | exact DL.tr hd (communicate_dl' h)
    | exact DL.tr hd (look_dl' h)
    | (rename timerOp _ _ = Except.ok _ => h3; have h4 := timerOp_dl h3; cases h; exact DL.tr hd h4)
    | (rename endThrow _ _ _ = _ => h3; unfold endThrow dieOf at h3; cases h3; cases h; exact hd)
    | split at h
theorem serve_dl {m m' : Machine} {k : Nat} (h : serve P m k = .next m') : DL m.world m'.world := by
  unfold serve at h
  simp only [] at h
  repeat' first
    | (cases h; done)
    | (cases h; exact Nat.le_refl _)
    | split at h
theorem askOn_dlg {m m' : Machine} {i : Nat} (h : askOn P m = .goroutine m' i) : DL m.world m'.world := by
  unfold askOn at h
  simp only [] at h
  repeat' first
    | (cases h; done)
    | (obtain ⟨hm, _⟩ := Move.goroutine.inj h
       subst hm
       (repeat (rename Sem.run P _ _ = Result.ok _ _ => hh; have hk := run_ok hh; clear hh; unfold DL at hk; (try simp only [Machine.advanceTo] at hk)))
       unfold DL
       (try simp only [Machine.advanceTo])
       omega)
    | split at h
theorem askOn_dlm {m m' : Machine} {o : Array MemOp} (h : askOn P m = .machine (.next m') o) : DL m.world m'.world := by
  unfold askOn at h
  simp only [] at h
  repeat' first
    | (cases h; done)
    | (have h9 := serve_dl (P := P) (Move.machine.inj h).1
       (repeat (rename Sem.run P _ _ = Result.ok _ _ => hh; have hk := run_ok hh; clear hh; unfold DL at hk; (try simp only [Machine.advanceTo] at hk)))
       unfold DL at h9 ⊢
       (try simp only at h9)
       omega)
    | (have hm := Stepped.next.inj (Move.machine.inj h).1
       subst hm
       (repeat (rename Sem.run P _ _ = Result.ok _ _ => hh; have hk := run_ok hh; clear hh; unfold DL at hk; (try simp only [Machine.advanceTo] at hk)))
       unfold DL
       (try simp only [Machine.advanceTo])
       omega)
    | split at h
theorem ask_dlg {m m' : Machine} {i : Nat} (h : ask P m = .goroutine m' i) : DL m.world m'.world := by
  unfold ask at h
  repeat' first
    | (cases h; done)
    | exact askOn_dlg h
    | (rename look P _ _ _ = _ => h2; rename Sem.run P _ _ = Result.ok _ _ => h1; exact DL.tr (run_ok h1) (DL.tr (look_dl' h2) (askOn_dlg h)))
    | (rename Sem.run P _ _ = Result.ok _ _ => h1; have h3 := askOn_dlg h; exact DL.tr (run_ok h1) h3)
    | split at h
theorem ask_dlm {m m' : Machine} {o : Array MemOp} (h : ask P m = .machine (.next m') o) : DL m.world m'.world := by
  unfold ask at h
  repeat' first
    | (cases h; done)
    | exact askOn_dlm h
    | (rename look P _ _ _ = _ => h2; rename Sem.run P _ _ = Result.ok _ _ => h1; exact DL.tr (run_ok h1) (DL.tr (look_dl' h2) (askOn_dlm h)))
    | (rename Sem.run P _ _ = Result.ok _ _ => h1; have h3 := askOn_dlm h; exact DL.tr (run_ok h1) h3)
    | (rename Sem.run P _ _ = Result.ok _ _ => h1; exact DL.tr (run_ok h1) (look_dl' (Move.machine.inj h).1))
    | split at h
theorem move_dlg {m m' : Machine} {i : Nat} (h : move P m = .goroutine m' i) : DL m.world m'.world := by
  unfold move at h
  repeat' first
    | (cases h; done)
    | (cases h; exact Nat.le_refl _)
    | (have h3 := ask_dlg h; exact h3)
    | split at h
theorem move_dlm {m m' : Machine} {o : Array MemOp} (h : move P m = .machine (.next m') o) : DL m.world m'.world := by
  unfold move at h
  repeat' first
    | (cases h; done)
    | (cases h; exact Nat.le_refl _)
    | (have h3 := ask_dlm h; exact h3)
    | split at h
theorem step_dl {m m' : Machine} (h : step P m = .next m') : DL m.world m'.world := by
  unfold step stepT at h
  split at h
  · next hm => exact DL.tr (move_dlg hm) (runT_dlm h)
  · next hm =>
    simp only at h
    subst h
    exact move_dlm hm
theorem runN_dl : ∀ (n : Nat) {m m' : Machine}, runN P n m = .next m' → DL m.world m'.world
  | 0, m, m', h => by cases h; exact Nat.le_refl _
  | n + 1, m, m', h => by
    unfold runN at h
    split at h
    · next hs => exact DL.tr (step_dl hs) (runN_dl n h)
    · next e hs => exact absurd h (hs m')
theorem steps_dl {m m' : Machine} (h : Steps P m m') : DL m.world m'.world := h.elim fun n hn => runN_dl n hn
/-- **A call's world has drawn no less than the world in which it was called.** -/
theorem calls_dl {f : FuncId} {args : Array Value} {w : World} {R : Ending → World → Prop} (h : Calls P f args w R) : Calls P f args w fun e w' => R e w' ∧ (e ≠ .outgrown → w.drawn ≤ w'.drawn) := by
  intro cs
  obtain ⟨e, w', fr, hR, hc, hf, hl⟩ := h cs
  refine ⟨e, w', fr, ⟨hR, fun he => ?_⟩, hc, hf, hl⟩
  cases e with
  | returned v => exact steps_dl hc
  | panicked c => exact steps_dl hc
  | outgrown => exact absurd rfl he
end
/-- a figure's value -/
structure FgV where
  w : Int
  h : Int
  A2 : Option Addr
  c2 : Nat
  l2 : List Int
  A3 : Option Addr
  c3 : Nat
  l3 : List Int
def fgC (q : FgV) : List Value := [.int .i64 q.w, .int .i64 q.h, .slice q.A2 q.l2.length q.c2, .slice q.A3 q.l3.length q.c3]
def fgP (q : FgV) : Int × Int × List Int × List Int := (q.w, q.h, q.l2, q.l3)
/-- rows of such values, whatever their lists -/
def kfg : Kd FgV where
  sz := 4
  E := []
  K := fun _ x cs => cs = fgC x
  M := fun _ _ _ x cs => cs = fgC x
  K_len := fun h => by rw [h]; rfl
  K_one := fun h u hu => by
    rw [h] at hu
    simp only [fgC, List.mem_cons, List.not_mem_nil, or_false] at hu
    rcases hu with rfl | rfl | rfl | rfl <;> rfl
  K_below := fun _ h => h
  K_of_M := fun h => h
  M_mono := fun _ h => h
  M_bound := fun h => h
  M_move := fun _ h => h
  M_lower := fun _ h => h
/-- a list of numbers: it came in, or it is the call's own -/
def LR (w0 : World) (b : Nat) (ok : Nat → Prop) (W : World) (A : Option Addr) (c : Nat) (l : List Int) : Prop := (Kd.C (Kd.int .i64) w0 A l.length l ∧ l.length ≤ c) ∨ Kd.R (Kd.int .i64) 3 W b ok (.slice A l.length c) l
section
variable {w0 W W' : World} {b : Nat} {ok : Nat → Prop} {A : Option Addr} {c : Nat} {l : List Int}
theorem LR.reads (h : LR w0 b ok W A c l) (HB : Below w0.heap.size w0 W) : Kd.C (Kd.int .i64) W A l.length l ∧ l.length ≤ c := by
  rcases h with h | h
  · exact ⟨Kd.C_below h.1 HB, h.2⟩
  · exact ⟨(Kd.R_reads' h).2.2, (Kd.R_reads' h).2.1⟩
theorem LR.below (h : LR w0 b ok W A c l) (hb : Below W.heap.size W W') : LR w0 b ok W' A c l := h.imp id (fun h => Kd.R_below h hb)
theorem LR.grown {row : Option Nat} (h : LR w0 b ok W A c l) (hg : W.grownBy W' row) (hr : ∀ g, row = some g → ∃ cs, W.heap[g]? = some (.cells cs 30 (0, 0))) : LR w0 b ok W' A c l := by
  refine h.imp id (fun h => ?_)
  cases row with
  | none => exact Kd.R_grown h hg (fun _ _ => by simp)
  | some g =>
    obtain ⟨cs, hc⟩ := hr g rfl
    exact Kd.R_mono (Kd.R_grown (Kd.R_types h hc (by decide)) hg (fun k hk e => hk.2 (Option.some.inj e))) (fun _ hk => hk.1)
theorem LR.set {g j : Nat} {cs : Array Value} {u : Value} (h : LR w0 b ok W A c l) (hg : W.heap[g]? = some (.cells cs 30 (0, 0))) : LR w0 b ok (W.setCell ⟨g, j, none⟩ u) A c l :=
  h.imp id (fun h => Kd.R_set h hg (by decide) j u)
end
structure FgOk (w0 : World) (b : Nat) (ok : Nat → Prop) (W : World) (q : FgV) : Prop where
  r2 : LR w0 b ok W q.A2 q.c2 q.l2
  r3 : LR w0 b ok W q.A3 q.c3 q.l3
section
variable {w0 W W' : World} {b : Nat} {ok : Nat → Prop} {q : FgV}
theorem FgOk.below (h : FgOk w0 b ok W q) (hb : Below W.heap.size W W') : FgOk w0 b ok W' q := ⟨h.r2.below hb, h.r3.below hb⟩
theorem FgOk.grown {row : Option Nat} (h : FgOk w0 b ok W q) (hg : W.grownBy W' row) (hr : ∀ g, row = some g → ∃ cs, W.heap[g]? = some (.cells cs 30 (0, 0))) : FgOk w0 b ok W' q := ⟨h.r2.grown hg hr, h.r3.grown hg hr⟩
theorem FgOk.set {g j : Nat} {cs : Array Value} {u : Value} (h : FgOk w0 b ok W q) (hg : W.heap[g]? = some (.cells cs 30 (0, 0))) : FgOk w0 b ok (W.setCell ⟨g, j, none⟩ u) q := ⟨h.r2.set hg, h.r3.set hg⟩
end
/-- the text order of two figures of a list, by their numbers -/
def fgF (k : Nat) (fs : List (Int × Int × List Int × List Int)) (x0 : Int × Int × List Int × List Int) (i j : Nat) : Int :=
  let x := fs.getD i x0
  let y := fs.getD j x0
  (impl_compareFigures.f k x.1 x.2.1 x.2.2.1 x.2.2.2 y.1 y.2.1 y.2.2.1 y.2.2.2).getD 0
/-- a list of figures as slices.SortFunc leaves it -/
def fgS (k : Nat) (fs : List (Int × Int × List Int × List Int)) : List (Int × Int × List Int × List Int) :=
  match fs with
  | [] => []
  | x0 :: r => (Sort.pdq (ltOf (fgF k (x0 :: r) x0)) (Array.range (r.length + 1)) 0 (r.length + 1) (Lib.bitLen (r.length + 1)) true true).toList.map fun i => (x0 :: r).getD i x0
/-- every two of them can be compared -/
def fgT (k : Nat) (fs : List (Int × Int × List Int × List Int)) : Prop := ∀ x ∈ fs, ∀ y ∈ fs, ∃ z, impl_compareFigures.f k x.1 x.2.1 x.2.2.1 x.2.2.2 y.1 y.2.1 y.2.2.1 y.2.2.2 = some z
/-- the figures of a list of sets -/
def figsF (k : Nat) (a0 a1 : Int) : List Int → Option (List (Int × Int × List Int × List Int))
  | [] => some []
  | s :: r => (impl_grid_figure.f k a0 a1 s).bind fun x => (figsF k a0 a1 r).bind fun l => some (x :: l)
open Classical in
/-- the solutions of a puzzle -/
noncomputable def solsF (k : Nat) (a0 a1 : Int) (l2 l3 : List Int) (d4 : Int) (d5 : Bool) (d6 : Int) : Option (List (Int × Int × List Int × List Int) × Bool) :=
  (impl_IsPuzzle.f k a0 a1 l2 l3 d4 d5 d6).bind fun b => if b = true then ((impl_way_with.f k a0 a1 l2 l3 d4 d5 d6 true).bind fun L => if L.length > 150 then some ([], false) else (figsF k a0 a1 L).bind fun fs => if fgT k fs then some (fgS k fs, true) else none) else some ([], false)
open Go.Sort in
/-- a world that has grown and drawn -/
theorem below_grow {W W' : World} (hb : Below W.heap.size W W') (hd : W.drawn ≤ W'.drawn) : ∃ q os, W' = grow (W.drewN q) os := by
  refine ⟨W'.drawn - W.drawn, W'.heap.extract W.heap.size W'.heap.size, ?_⟩
  obtain ⟨h1, h2, h3, h4, h5⟩ := hb
  cases W
  cases W'
  simp only [grow, World.drewN] at *
  subst h1 h2 h3
  congr 1
  · apply Array.ext_getElem?
    intro i
    rw [Array.getElem?_append]
    split
    · next hi => exact h5 i hi
    · next hi =>
      rw [Array.getElem?_extract]
      split
      · next hj => congr 1; omega
      · next hj => exact Array.getElem?_eq_none (by omega)
  · omega
/-- a figure's lists, in memory of the call's own -/
structure FgN (b : Nat) (ok : Nat → Prop) (W : World) (q : FgV) : Prop where
  r2 : Kd.R (Kd.int .i64) 3 W b ok (.slice q.A2 q.l2.length q.c2) q.l2
  r3 : Kd.R (Kd.int .i64) 3 W b ok (.slice q.A3 q.l3.length q.c3) q.l3
  ne : ∀ g, (Value.slice q.A2 q.l2.length q.c2).ownBlock = some g → some g ≠ (Value.slice q.A3 q.l3.length q.c3).ownBlock
theorem FgN.step {b : Nat} {ok : Nat → Prop} {W W' : World} {q : FgV} (h : FgN b ok W q) (hm : ∀ k, ok k → k < W.heap.size → W'.heap[k]? = W.heap[k]?) : FgN b ok W' q := ⟨Kd.R_step h.r2 hm, Kd.R_step h.r3 hm, h.ne⟩
theorem FgN.below {b : Nat} {ok : Nat → Prop} {W W' : World} {q : FgV} (h : FgN b ok W q) (hb : Below W.heap.size W W') : FgN b ok W' q := ⟨Kd.R_below h.r2 hb, Kd.R_below h.r3 hb, h.ne⟩
theorem FgN.apart {b : Nat} {ok : Nat → Prop} {W : World} {q : FgV} (h : FgN b ok W q) {g : Nat} {cs : Array Value} (hg : W.heap[g]? = some (.cells cs 30 (0, 0))) : FgN b (fun k => ok k ∧ k ≠ g) W q := ⟨Kd.R_types h.r2 hg (by decide), Kd.R_types h.r3 hg (by decide), h.ne⟩
theorem FgN.mono {b : Nat} {ok ok' : Nat → Prop} {W : World} {q : FgV} (h : FgN b ok W q) (hk : ∀ k, ok k → ok' k) : FgN b ok' W q := ⟨Kd.R_mono h.r2 hk, Kd.R_mono h.r3 hk, h.ne⟩
/-- two figures whose lists lie apart -/
def FgD (q r : FgV) : Prop := ∀ x y : Addr, (q.A2 = some x ∨ q.A3 = some x) → (r.A2 = some y ∨ r.A3 = some y) → x.block ≠ y.block
theorem FgD.symm {q r : FgV} (h : FgD q r) : FgD r q := fun x y hx hy e => h y x hy hx e.symm
theorem FgN.lt {b : Nat} {ok : Nat → Prop} {W : World} {q : FgV} (h : FgN b ok W q) (x : Addr) (hx : q.A2 = some x ∨ q.A3 = some x) : x.block < W.heap.size := by
  rcases hx with hx | hx
  · exact Kd.R_lt h.r2 _ (by rw [hx]; rfl)
  · exact Kd.R_lt h.r3 _ (by rw [hx]; rfl)
theorem FgN.ge {b : Nat} {ok : Nat → Prop} {W : World} {q : FgV} (h : FgN b ok W q) (x : Addr) (hx : q.A2 = some x ∨ q.A3 = some x) : b ≤ x.block := by
  rcases hx with hx | hx
  · exact Kd.R_base h.r2 _ (by rw [hx]; rfl)
  · exact Kd.R_base h.r3 _ (by rw [hx]; rfl)
/-- the comparison of two figures that can be read: what it lays and draws -/
theorem fg_cmp {k : Nat} {W : World} {b : Nat} {ok : Nat → Prop} {q r : FgV} {z : Int} (hq : FgN b ok W q) (hr : FgN b ok W r) (h : impl_compareFigures.f k q.w q.h q.l2 q.l3 r.w r.h r.l2 r.l3 = some z) :
    Calls Tryz.prog 76 #[.agg (fgC q).toArray, .agg (fgC r).toArray] W fun e w' => e = .returned (.int .i64 z) ∧ ∃ n os, w' = Sort.grow (W.drewN n) os := by
  obtain ⟨_, a1, a2⟩ := Kd.R_reads' hq.r2
  obtain ⟨_, a3, a4⟩ := Kd.R_reads' hq.r3
  obtain ⟨_, a5, a6⟩ := Kd.R_reads' hr.r2
  obtain ⟨_, a7, a8⟩ := Kd.R_reads' hr.r3
  refine (calls_dl (impl_compareFigures.calls k q.w q.h q.A2 q.c2 q.l2 q.A3 q.c3 q.l3 r.w r.h r.A2 r.c2 r.l2 r.A3 r.c3 r.l3 z W a2 a1 a4 a3 a6 a5 a8 a7 h)).mono ?_
  rintro e w' ⟨⟨rfl, hb⟩, hd⟩
  exact ⟨rfl, below_grow hb (hd (by simp))⟩
/-- the cells of a row of figures -/
theorem fg_cells {W : World} {base : Nat} {ok : Nat → Prop} {v : Value} {xs : List FgV} (h : Kd.R kfg 30 W base ok v xs) (hne : xs ≠ []) : ∃ g cap cur, v = .slice (some ⟨g, 0, none⟩) xs.length cap ∧ ok g ∧ base ≤ g ∧ W.heap[g]? = some (.cells cur 30 (0, 0)) ∧ xs.length ≤ cap ∧ cap ≤ maxLen ∧ cur.size = cap * 4 ∧ ∀ j (hj : j < xs.length) c, c < 4 → cur[j * 4 + c]? = (fgC xs[j])[c]? := by
  obtain ⟨hok, inner, ⟨hl, hv⟩, hrl, hr⟩ := h
  rcases hv with ⟨_, h0⟩ | ⟨g, cap, cur, rfl, hb, hh, h1, h2, h3, h4⟩
  · exact absurd (List.eq_nil_of_length_eq_zero h0) hne
  · refine ⟨g, cap, cur, rfl, hok g rfl, hb, hh, h1, h2, h3, fun j hj c hc => ?_⟩
    have e : (inner.drop (j * 4)).take 4 = fgC xs[j] := hr j xs[j] (List.getElem?_eq_getElem hj)
    have h5 : cur.toList.take (xs.length * 4) = inner := h4
    rw [← e, List.getElem?_take_of_lt hc, List.getElem?_drop, ← h5, List.getElem?_take_of_lt (show j * 4 + c < xs.length * 4 by omega), Array.getElem?_toList]
theorem fg_of_cells {W : World} {base : Nat} {ok : Nat → Prop} {g cap : Nat} {cur : Array Value} {xs : List FgV} (hg : ok g) (hb : base ≤ g) (hh : W.heap[g]? = some (.cells cur 30 (0, 0))) (h1 : xs.length ≤ cap) (h2 : cap ≤ maxLen) (h3 : cur.size = cap * 4) (hc : ∀ j (hj : j < xs.length) c, c < 4 → cur[j * 4 + c]? = (fgC xs[j])[c]?) : Kd.R kfg 30 W base ok (.slice (some ⟨g, 0, none⟩) xs.length cap) xs := by
  have hl : (cur.toList.take (xs.length * 4)).length = xs.length * 4 := by
    have e : cur.toList.length = cur.size := Array.length_toList
    rw [List.length_take, e]
    omega
  refine ⟨fun k hk => ?_, cur.toList.take (xs.length * 4), ⟨hl, .inr ⟨g, cap, cur, rfl, hb, hh, h1, h2, h3, rfl⟩⟩, hl, fun j p hp => ?_⟩
  · obtain rfl : g = k := by simpa [Value.ownBlock] using hk
    exact hg
  · obtain ⟨hj, rfl⟩ := List.getElem?_eq_some_iff.1 hp
    show ((cur.toList.take (xs.length * 4)).drop (j * 4)).take 4 = fgC xs[j]
    apply List.ext_getElem?
    intro c
    by_cases h4 : c < 4
    · rw [List.getElem?_take_of_lt h4, List.getElem?_drop, List.getElem?_take_of_lt (show j * 4 + c < xs.length * 4 by omega), Array.getElem?_toList]
      exact hc j hj c h4
    · rw [List.getElem?_take_eq_none (by omega)]
      exact (List.getElem?_eq_none (show (fgC xs[j]).length ≤ c from by simp [fgC]; omega)).symm
open Go.Sort in
/-- the block of a row, in a world of the sort's -/
theorem sw_far {α : Type} [Inhabited α] {enc : α → List Value} {k : Nat} {w : World} {blk off m : Nat} {dk : Array α} {os : Array Obj} {j : Nat} (hj : j < w.heap.size) (hne : j ≠ blk) : (sortWorldK enc k w blk off m dk os).heap[j]? = w.heap[j]? := by
  unfold sortWorldK
  rw [heap_grow_old _ _ (by simpa [putRowK, size_putRow] using hj)]
  unfold putRowK putRow mapBlock
  simp only [heap_ahead]
  rw [Array.getElem?_modify, if_neg (fun e => hne e.symm)]
open Go.Sort in
theorem sw_at {α : Type} [Inhabited α] {enc : α → List Value} {k : Nat} {w : World} {blk off m : Nat} {dk : Array α} {os : Array Obj} {cur : Array Value} {e : TypeId} {fr : Nat × Nat} (hb : w.heap[blk]? = some (.cells cur e fr)) : (sortWorldK enc k w blk off m dk os).heap[blk]? = some (.cells (putCells id off (flatK enc k dk) cur) e fr) := by
  have hlt : blk < w.heap.size := (Array.getElem?_eq_some_iff.1 hb).1
  unfold sortWorldK
  rw [heap_grow_old _ _ (by simpa [putRowK, size_putRow] using hlt)]
  unfold putRowK putRow mapBlock
  simp only [heap_ahead]
  rw [Array.getElem?_modify, if_pos rfl, hb]
  rfl
theorem sw_below {α : Type} [Inhabited α] {enc : α → List Value} {k : Nat} {w : World} {blk off m : Nat} {dk : Array α} {os : Array Obj} {b : Nat} (hb : b ≤ blk) (hbs : b ≤ w.heap.size) : Below b w (sortWorldK enc k w blk off m dk os) :=
  ⟨rfl, rfl, rfl, by unfold sortWorldK; simp [Go.Sort.putRowK], fun j hj => sw_far (by omega) (by omega)⟩
/-- the figure at a number of a row -/
def fgAt (qs : List FgV) (q0 : FgV) (i : Nat) : FgV := qs.getD i q0
def fgE (qs : List FgV) (q0 : FgV) (i : Nat) : List Value := fgC (fgAt qs q0 i)
theorem fgE_len (qs : List FgV) (q0 : FgV) (i : Nat) : (fgE qs q0 i).length = 4 := rfl
theorem fgE_one (qs : List FgV) (q0 : FgV) (i : Nat) : ∀ v ∈ fgE qs q0 i, v.oneCell' = true := by
  intro v hv
  simp only [fgE, fgC, List.mem_cons, List.not_mem_nil, or_false] at hv
  rcases hv with rfl | rfl | rfl | rfl <;> rfl
theorem fgAt_mem {qs : List FgV} {q0 : FgV} (h0 : q0 ∈ qs) (i : Nat) : fgAt qs q0 i ∈ qs := by
  unfold fgAt
  rw [List.getD_eq_getElem?_getD]
  by_cases h : i < qs.length
  · rw [List.getElem?_eq_getElem h]; exact List.getElem_mem h
  · rw [List.getElem?_eq_none (by omega)]; exact h0
theorem fgE_at (qs : List FgV) (q0 : FgV) {i : Nat} (h : i < qs.length) : fgAt qs q0 i = qs[i] := by
  unfold fgAt
  rw [List.getD_eq_getElem?_getD, List.getElem?_eq_getElem h]
  rfl
theorem cmpB_lt : ∀ a b : List UInt8, Lib.compareBytes a b < 0 ↔ a < b
  | [], [] => by simp [Lib.compareBytes]
  | [], _ :: _ => by simp [Lib.compareBytes]
  | _ :: _, [] => by simp [Lib.compareBytes]
  | a :: r, b :: s => by
    rw [Lib.compareBytes, List.cons_lt_cons_iff]
    by_cases h : a < b
    · rw [if_pos h]; simp [h]
    · rw [if_neg h]
      by_cases h2 : b < a
      · rw [if_pos h2]
        have : a ≠ b := fun e => by subst e; exact h h2
        simp [h, this]
      · rw [if_neg h2, cmpB_lt r s]
        have : a = b := UInt8.le_antisymm (UInt8.not_lt.1 h2) (UInt8.not_lt.1 h)
        simp [h, this]
theorem fgF_swo (k : Nat) (fs : List (Int × Int × List Int × List Int)) (x0 : Int × Int × List Int × List Int) (h0 : x0 ∈ fs) (hT : fgT k fs) : Sort.SWO (ltOf (fgF k fs x0)) := by
  have hm : ∀ i, fs.getD i x0 ∈ fs := fun i => by
    rw [List.getD_eq_getElem?_getD]
    by_cases h : i < fs.length
    · rw [List.getElem?_eq_getElem h]; exact List.getElem_mem h
    · rw [List.getElem?_eq_none (by omega)]; exact h0
  have ht : ∀ x ∈ fs, ∃ t, impl_figureText.f k x.1 x.2.1 x.2.2.1 x.2.2.2 = some t := by
    intro x hx
    obtain ⟨z, hz⟩ := hT x hx x hx
    unfold impl_compareFigures.f at hz
    obtain ⟨t, h1, _⟩ := Option.bind_eq_some_iff.mp hz
    exact ⟨t, h1⟩
  have key : ∀ i j, ∃ t u : ByteArray, impl_figureText.f k (fs.getD i x0).1 (fs.getD i x0).2.1 (fs.getD i x0).2.2.1 (fs.getD i x0).2.2.2 = some t ∧ impl_figureText.f k (fs.getD j x0).1 (fs.getD j x0).2.1 (fs.getD j x0).2.2.1 (fs.getD j x0).2.2.2 = some u ∧ ltOf (fgF k fs x0) i j = decide (t.data.toList < u.data.toList) := by
    intro i j
    obtain ⟨t, h1⟩ := ht _ (hm i)
    obtain ⟨u, h2⟩ := ht _ (hm j)
    refine ⟨t, u, h1, h2, ?_⟩
    unfold ltOf fgF impl_compareFigures.f strings_Compare.f
    simp only [h1, h2, Option.bind_some, Option.getD_some]
    rw [decide_eq_decide]
    exact cmpB_lt _ _
  have tx : ∀ i, ∃ t : List UInt8, ∀ j, ∃ u : List UInt8, ltOf (fgF k fs x0) i j = decide (t < u) := fun i => by
    obtain ⟨t, h1⟩ := ht _ (hm i)
    refine ⟨t.data.toList, fun j => ?_⟩
    obtain ⟨t', u, e1, _, e⟩ := key i j
    obtain rfl : t' = t := Option.some.inj (e1.symm.trans h1)
    exact ⟨_, e⟩
  refine ⟨fun i => ?_, fun i j l h1 h2 => ?_, fun i j l h1 h2 => ?_⟩
  · obtain ⟨t, u, e1, e2, e⟩ := key i i
    obtain rfl : t = u := Option.some.inj (e1.symm.trans e2)
    rw [e]
    simp [List.lt_irrefl]
  · obtain ⟨t, u, e1, e2, e⟩ := key i j
    obtain ⟨u', v, e3, e4, e'⟩ := key j l
    obtain ⟨t', v', e5, e6, e''⟩ := key i l
    obtain rfl : u = u' := Option.some.inj (e2.symm.trans e3)
    obtain rfl : t = t' := Option.some.inj (e1.symm.trans e5)
    obtain rfl : v = v' := Option.some.inj (e4.symm.trans e6)
    rw [e] at h1
    rw [e'] at h2
    rw [e'']
    exact decide_eq_true (List.lt_trans (of_decide_eq_true h1) (of_decide_eq_true h2))
  · obtain ⟨t, u, e1, e2, e⟩ := key i j
    obtain ⟨u', v, e3, e4, e'⟩ := key j l
    obtain ⟨t', v', e5, e6, e''⟩ := key i l
    obtain rfl : u = u' := Option.some.inj (e2.symm.trans e3)
    obtain rfl : t = t' := Option.some.inj (e1.symm.trans e5)
    obtain rfl : v = v' := Option.some.inj (e4.symm.trans e6)
    rw [e] at h1
    rw [e'] at h2
    rw [e'']
    have a1 := List.not_lt.1 (of_decide_eq_false h1)
    have a2 := List.not_lt.1 (of_decide_eq_false h2)
    exact decide_eq_false (List.not_lt.2 (List.le_trans a2 a1))
def sortFg_ren : Go.Shelf.Ren := ⟨fun | 6 => 94 | 15 => 119 | 14 => 118 | 28 => 144 | 29 => 145 | 20 => 136 | 21 => 137 | 22 => 138 | 23 => 139 | 24 => 140 | 25 => 141 | 26 => 142 | 27 => 143 | 46 => 156 | 47 => 157 | 48 => 158 | 49 => 159 | 50 => 160 | 57 => 164 | n => n, fun | 22 => 43 | 24 => 30 | 25 => 89 | 3 => 3 | 39 => 133 | 0 => 0 | 53 => 157 | 55 => 55 | 4 => 4 | 46 => 151 | 45 => 150 | 50 => 28 | 5 => 5 | 9 => 9 | 66 => 166 | 70 => 170 | 76 => 173 | 77 => 52 | n => n, fun | n => n⟩
theorem sortFg : SlLaysF0.n6 Tryz.prog sortFg_ren := {
  mixed := by kernel_rfl
  f6 := ⟨ "slices.SortFunc[[]loop.example/g01233/impl.Figure,loop.example/g01233/impl.Figure]", by kernel_rfl, Tryz.func94.trans (congrArg some (by kernel_rfl))⟩
  f14 := ⟨ "slices.pdqsortCmpFunc[loop.example/g01233/impl.Figure]", by kernel_rfl, Tryz.func118.trans (congrArg some (by kernel_rfl))⟩
  f15 := Tryz.func119.trans (congrArg some (by kernel_rfl))
  f20 := ⟨ "slices.insertionSortCmpFunc[loop.example/g01233/impl.Figure]", by kernel_rfl, Tryz.func136.trans (congrArg some (by kernel_rfl))⟩
  f21 := ⟨ "slices.heapSortCmpFunc[loop.example/g01233/impl.Figure]", by kernel_rfl, Tryz.func137.trans (congrArg some (by kernel_rfl))⟩
  f22 := ⟨ "slices.breakPatternsCmpFunc[loop.example/g01233/impl.Figure]", by kernel_rfl, Tryz.func138.trans (congrArg some (by kernel_rfl))⟩
  f23 := ⟨ "slices.choosePivotCmpFunc[loop.example/g01233/impl.Figure]", by kernel_rfl, Tryz.func139.trans (congrArg some (by kernel_rfl))⟩
  f24 := ⟨ "slices.reverseRangeCmpFunc[loop.example/g01233/impl.Figure]", by kernel_rfl, Tryz.func140.trans (congrArg some (by kernel_rfl))⟩
  f25 := ⟨ "slices.partialInsertionSortCmpFunc[loop.example/g01233/impl.Figure]", by kernel_rfl, Tryz.func141.trans (congrArg some (by kernel_rfl))⟩
  f26 := ⟨ "slices.partitionEqualCmpFunc[loop.example/g01233/impl.Figure]", by kernel_rfl, Tryz.func142.trans (congrArg some (by kernel_rfl))⟩
  f27 := ⟨ "slices.partitionCmpFunc[loop.example/g01233/impl.Figure]", by kernel_rfl, Tryz.func143.trans (congrArg some (by kernel_rfl))⟩
  f28 := Tryz.func144.trans (congrArg some (by kernel_rfl))
  f29 := Tryz.func145.trans (congrArg some (by kernel_rfl))
  f46 := ⟨ "slices.siftDownCmpFunc[loop.example/g01233/impl.Figure]", by kernel_rfl, Tryz.func156.trans (congrArg some (by kernel_rfl))⟩
  f47 := Tryz.func157.trans (congrArg some (by kernel_rfl))
  f48 := Tryz.func158.trans (congrArg some (by kernel_rfl))
  f49 := ⟨ "slices.medianAdjacentCmpFunc[loop.example/g01233/impl.Figure]", by kernel_rfl, Tryz.func159.trans (congrArg some (by kernel_rfl))⟩
  f50 := ⟨ "slices.medianCmpFunc[loop.example/g01233/impl.Figure]", by kernel_rfl, Tryz.func160.trans (congrArg some (by kernel_rfl))⟩
  f57 := ⟨ "slices.order2CmpFunc[loop.example/g01233/impl.Figure]", by kernel_rfl, Tryz.func164.trans (congrArg some (by kernel_rfl))⟩
  t0 := Tryz.underlying0
  a0 := Tryz.isAgg0
  z0 := Tryz.sizeOf0
  v0 := Tryz.zeroValue0
  t3 := Tryz.underlying3
  a3 := Tryz.isAgg3
  z3 := Tryz.sizeOf3
  v3 := Tryz.zeroValue3
  t4 := Tryz.underlying4
  a4 := Tryz.isAgg4
  z4 := Tryz.sizeOf4
  v4 := Tryz.zeroValue4
  t5 := Tryz.underlying5
  a5 := Tryz.isAgg5
  z5 := Tryz.sizeOf5
  v5 := Tryz.zeroValue5
  t9 := Tryz.underlying9
  a9 := Tryz.isAgg9
  z9 := Tryz.sizeOf9
  v9 := Tryz.zeroValue9
  t22 := Tryz.underlying43
  a22 := Tryz.isAgg43
  z22 := Tryz.sizeOf43
  v22 := Tryz.zeroValue43
  t25 := Tryz.underlying89
  a25 := Tryz.isAgg89
  z25 := Tryz.sizeOf89
  v25 := Tryz.zeroValue89
  t39 := Tryz.underlying133
  a39 := Tryz.isAgg133
  z39 := Tryz.sizeOf133
  v39 := Tryz.zeroValue133
  t45 := Tryz.underlying150
  a45 := Tryz.isAgg150
  z45 := Tryz.sizeOf150
  v45 := Tryz.zeroValue150
  t46 := Tryz.underlying151
  a46 := Tryz.isAgg151
  z46 := Tryz.sizeOf151
  v46 := Tryz.zeroValue151
  t50 := Tryz.underlying28
  a50 := Tryz.isAgg28
  z50 := Tryz.sizeOf28
  v50 := Tryz.zeroValue28
  t53 := Tryz.underlying157
  a53 := Tryz.isAgg157
  z53 := Tryz.sizeOf157
  v53 := Tryz.zeroValue157
  t55 := Tryz.underlying55
  a55 := Tryz.isAgg55
  z55 := Tryz.sizeOf55
  v55 := Tryz.zeroValue55
  t66 := Tryz.underlying166
  a66 := Tryz.isAgg166
  z66 := Tryz.sizeOf166
  v66 := Tryz.zeroValue166
  t70 := Tryz.underlying170
  a70 := Tryz.isAgg170
  z70 := Tryz.sizeOf170
  v70 := Tryz.zeroValue170
  t76 := Tryz.underlying173
  a76 := Tryz.isAgg173
  z76 := Tryz.sizeOf173
  v76 := Tryz.zeroValue173
  t77 := Tryz.underlying52
  a77 := Tryz.isAgg52
  z77 := Tryz.sizeOf52
  v77 := Tryz.zeroValue52 }
open Go.Sort in
theorem fg_holds {W : World} {g cap : Nat} {cur : Array Value} {qs : List FgV} {q0 : FgV} (hh : W.heap[g]? = some (.cells cur 30 (0, 0))) (hc : ∀ j (hj : j < qs.length) c, c < 4 → cur[j * 4 + c]? = (fgC qs[j])[c]?) : HoldsK (fgE qs q0) 4 W g 0 (Array.range qs.length) := by
  intro t ht
  have ht' : t < qs.length * 4 := by simpa using ht
  have hj : t / 4 < qs.length := by omega
  have e1 : t / 4 * 4 + t % 4 = t := by omega
  have e2 := hc (t / 4) hj (t % 4) (by omega)
  rw [e1] at e2
  have e3 : (Array.range qs.length)[t / 4]! = t / 4 := by
    rw [getElem!_pos _ _ (by simpa using hj)]
    simp
  have e4 : (flatK (fgE qs q0) 4 (Array.range qs.length))[t]! = (fgC qs[t / 4])[t % 4]! := by
    rw [get_flatK _ _ _ _ (by simpa using ht'), e3, fgE, fgE_at _ _ hj]
  have hl : t % 4 < (fgC qs[t / 4]).length := show t % 4 < 4 by omega
  have e5 : (fgC qs[t / 4])[t % 4]? = some (fgC qs[t / 4])[t % 4]! := by
    rw [List.getElem?_eq_getElem hl, getElem!_pos (fgC qs[t / 4]) (t % 4) hl]
  constructor
  · unfold World.cell?
    simp only [hh, Nat.zero_add]
    show cur[t]? = _
    rw [e2, e5, e4]
    rfl
  · unfold World.frozen?
    simp [hh]
open Go.Sort in
theorem fg_put {W : World} {g cap : Nat} {cur : Array Value} {qs : List FgV} {q0 : FgV} {d : Array Nat} (hd : d.size = qs.length) (h1 : qs.length ≤ cap) (h3 : cur.size = cap * 4) : ∀ j (hj : j < (d.toList.map (fgAt qs q0)).length) c, c < 4 → (putCells id 0 (flatK (fgE qs q0) 4 d) cur)[j * 4 + c]? = (fgC (d.toList.map (fgAt qs q0))[j])[c]? := by
  intro j hj c hc
  have hj' : j < d.size := by simpa using hj
  have hl : c < (fgC (fgAt qs q0 d[j])).length := show c < 4 from hc
  have e1 : (j * 4 + c) / 4 = j := by omega
  have e2 : (j * 4 + c) % 4 = c := by omega
  unfold putCells
  rw [Array.getElem?_mapIdx, Array.getElem?_eq_getElem (show j * 4 + c < cur.size by omega), Option.map_some, if_pos ⟨Nat.zero_le _, by simp; omega⟩, Nat.sub_zero, get_flatK _ _ _ _ (by omega), e1, e2, List.getElem_map, Array.getElem_toList, getElem!_pos d j hj']
  show some ((fgC (fgAt qs q0 d[j]))[c]!) = _
  rw [List.getElem?_eq_getElem hl, getElem!_pos (fgC (fgAt qs q0 d[j])) c hl]
open Go.Sort in
/-- slices.SortFunc over a row of figures of the call's own -/
theorem fg_sortf {k : Nat} {W : World} {base b : Nat} {ok ok2 : Nat → Prop} {v : Value} {qs : List FgV} (HR : Kd.R kfg 30 W base ok v qs) (HQ : ∀ q ∈ qs, FgN b ok2 W q) (hT : fgT k (qs.map fgP)) (hne : qs ≠ []) (hlen : qs.length < 4611686018427387904) (hb : b ≤ base) :
    Calls Tryz.prog 94 #[v, .func (.func 76) #[] #[]] W fun e w' => e = .returned (.tuple #[]) ∧ ∃ qs', qs'.map fgP = fgS k (qs.map fgP) ∧ qs'.Perm qs ∧ Kd.R kfg 30 w' base ok v qs' ∧ (∀ q ∈ qs', FgN b ok2 w' q) ∧ Below base W w' := by
  obtain ⟨g, cap, cur, rfl, hg, hbg, hh, h1, h2, h3, hc⟩ := fg_cells HR hne
  obtain ⟨q0, qr, rfl⟩ : ∃ q0 qr, qs = q0 :: qr := by
    cases qs with
    | nil => exact absurd rfl hne
    | cons a r => exact ⟨a, r, rfl⟩
  have hlt : g < W.heap.size := (Array.getElem?_eq_some_iff.1 hh).1
  have hx0 : fgP q0 ∈ (q0 :: qr).map fgP := by simp
  have hO := fgF_swo k ((q0 :: qr).map fgP) (fgP q0) hx0 hT
  have hat : ∀ i, ((q0 :: qr).map fgP).getD i (fgP q0) = fgP (fgAt (q0 :: qr) q0 i) := fun i => by
    unfold fgAt
    rw [List.getD_eq_getElem?_getD, List.getD_eq_getElem?_getD, List.getElem?_map]
    cases (q0 :: qr)[i]? <;> rfl
  have hfar : ∀ {dk : Array Nat} {m : Nat} {os : Array Obj}, ∀ q ∈ q0 :: qr, FgN b (fun j => ok2 j ∧ j ≠ g) (sortWorldK (fgE (q0 :: qr) q0) 4 W g 0 m dk os) q := fun q hq => ((HQ q hq).apart hh).step fun j hj hlt => sw_far hlt hj.2
  have hcmp : CmpLays Tryz.prog 76 #[] (fgE (q0 :: qr) q0) 4 (fgF k ((q0 :: qr).map fgP) (fgP q0)) g 0 (Array.range (q0 :: qr).length).size W := by
    intro m os dk _ x y
    have m1 := fgAt_mem (qs := q0 :: qr) (q0 := q0) (by simp) x
    have m2 := fgAt_mem (qs := q0 :: qr) (q0 := q0) (by simp) y
    obtain ⟨z, hz⟩ := hT _ (List.mem_map_of_mem m1) _ (List.mem_map_of_mem m2)
    have e : fgF k ((q0 :: qr).map fgP) (fgP q0) x y = z := by
      unfold fgF
      simp only [hat]
      rw [hz]
      rfl
    rw [e]
    exact fg_cmp (hfar _ m1) (hfar _ m2) hz
  have hcon := AnyQ.slices_SortFunc_eq (P := Tryz.prog) sortFg 4 Tryz.isAgg30 Tryz.sizeOf30 (fgE (q0 :: qr) q0) (fgE_len _ _) (fgE_one _ _) _ hO 76 #[] g 0 cap (Array.range (q0 :: qr).length) W (enters_of Tryz.func76 (by kernel_rfl) rfl) hcmp (fg_holds (cap := cap) hh hc) hlt (by simpa using hlen)
  have hp := pdq_sorts (ltOf (fgF k ((q0 :: qr).map fgP) (fgP q0))) hO (Array.range (q0 :: qr).length) 0 (Array.range (q0 :: qr).length).size (Lib.bitLen (Array.range (q0 :: qr).length).size) true true (Nat.zero_le _) (Nat.le_refl _) (Or.inl rfl)
  have hsz : (Array.range (q0 :: qr).length).size = (q0 :: qr).length := by simp
  rw [hsz] at hcon hp
  generalize hd : pdq (ltOf (fgF k ((q0 :: qr).map fgP) (fgP q0))) (Array.range (q0 :: qr).length) 0 (q0 :: qr).length (Lib.bitLen (q0 :: qr).length) true true = d at hcon hp
  have hds : d.size = (q0 :: qr).length := hp.1.1.trans hsz
  refine hcon.mono ?_
  rintro e w' ⟨rfl, n, os, rfl⟩
  have hl2 : (d.toList.map (fgAt (q0 :: qr) q0)).length = (q0 :: qr).length := by rw [List.length_map, Array.length_toList, hds]
  refine ⟨rfl, d.toList.map (fgAt (q0 :: qr) q0), ?_, ?_, ?_, ?_, sw_below hbg (Nat.le_of_lt (Nat.lt_of_le_of_lt hbg hlt))⟩
  · show _ = (Sort.pdq (ltOf (fgF k ((q0 :: qr).map fgP) (fgP q0))) (Array.range ((qr.map fgP).length + 1)) 0 ((qr.map fgP).length + 1) (Lib.bitLen ((qr.map fgP).length + 1)) true true).toList.map fun i => ((q0 :: qr).map fgP).getD i (fgP q0)
    rw [List.length_map, show qr.length + 1 = (q0 :: qr).length from rfl, hd, List.map_map]
    exact List.map_congr_left fun i _ => (hat i).symm
  · have e1 : d.extract 0 (q0 :: qr).length = d := by rw [← hds]; exact Array.extract_size
    have e2 : (Array.range (q0 :: qr).length).extract 0 (q0 :: qr).length = Array.range (q0 :: qr).length := by
      conv => lhs; rw [show (q0 :: qr).length = (Array.range (q0 :: qr).length).size by simp]
      simp
    have e3 : (Array.range (q0 :: qr).length).toList.map (fgAt (q0 :: qr) q0) = q0 :: qr := by
      apply List.ext_getElem
      · simp
      · intro i h1 h2
        rw [List.getElem_map, Array.getElem_toList, Array.getElem_range, fgE_at _ _ h2]
    have := hp.1.2.2
    rw [e1, e2] at this
    have h2 := this.map (fgAt (q0 :: qr) q0)
    rw [e3] at h2
    exact h2
  · have := fg_of_cells (xs := d.toList.map (fgAt (q0 :: qr) q0)) hg hbg (sw_at (enc := fgE (q0 :: qr) q0) (k := 4) (off := 0) (m := n) (dk := d) (os := os) hh) (by rw [hl2]; exact h1) h2 (by simp [putCells, h3]) (fg_put (W := W) (g := g) hds h1 h3)
    rw [hl2] at this
    exact this
  · intro q hq
    obtain ⟨i, _, rfl⟩ := List.mem_map.1 hq
    exact (hfar _ (fgAt_mem (by simp) i)).mono fun _ h => h.1
theorem figsF_cons {k : Nat} {a0 a1 s : Int} {r : List Int} {fs : List (Int × Int × List Int × List Int)} (h : figsF k a0 a1 (s :: r) = some fs) : ∃ x1 x2 x3 x4 l, impl_grid_figure.f k a0 a1 s = some (x1, x2, x3, x4) ∧ figsF k a0 a1 r = some l ∧ fs = (x1, x2, x3, x4) :: l := by
  rw [figsF] at h
  obtain ⟨⟨x1, x2, x3, x4⟩, h1, h⟩ := Option.bind_eq_some_iff.mp h
  obtain ⟨l, h2, h⟩ := Option.bind_eq_some_iff.mp h
  exact ⟨x1, x2, x3, x4, l, h1, h2, (Option.some.inj h).symm⟩
theorem figsF_len {k : Nat} {a0 a1 : Int} : ∀ {L : List Int} {fs : List (Int × Int × List Int × List Int)}, figsF k a0 a1 L = some fs → fs.length = L.length
  | [], fs, h => by
    cases h
    rfl
  | s :: r, fs, h => by
    obtain ⟨x1, x2, x3, x4, l, _, h2, rfl⟩ := figsF_cons h
    rw [List.length_cons, List.length_cons, figsF_len h2]
theorem fg_new (w : World) (o : Obj) : (w.alloc o).heap[w.heap.size]? = some o := by
  show (w.heap.push o)[w.heap.size]? = some o
  simp
theorem fg_size (w : World) (o : Obj) : (w.alloc o).heap.size = w.heap.size + 1 := by simp
theorem fg_info : (Tryz.prog.info? 30).map (fun i => (i.zero, i.size, i.bytes)) = some (some (.agg #[.int .i64 0, .int .i64 0, .slice none 0 0, .slice none 0 0]), 4, 64) := by kernel_rfl
theorem fg_one (W : World) (b : Nat) (okp : Nat → Prop) (y : FgV) : Reps (kfg.M W b okp) kfg.sz [y] (fgC y) := Reps.snoc (p := y) (c := fgC y) (Reps.none _ _) rfl rfl
theorem fg_row {W : World} {h0 : Nat} {ok : Nat → Prop} {v : Value} {xs : List FgV} (h : Kd.R kfg 30 W h0 ok v xs) : ∀ g, v.ownBlock = some g → ∃ cs, W.heap[g]? = some (.cells cs 30 (0, 0)) := by
  intro g hg
  obtain ⟨_, _, _, q, hq, cs, hc⟩ := (Kd.R_bound h).1 g hg
  have e : q = 30 := by simpa [kfg] using hq
  exact ⟨cs, e ▸ hc⟩
theorem FgN.grown {b : Nat} {ok : Nat → Prop} {W W' : World} {q : FgV} {row : Option Nat} (h : FgN b ok W q) (hg : W.grownBy W' row) (hr : ∀ g, row = some g → ∃ cs, W.heap[g]? = some (.cells cs 30 (0, 0))) : FgN b ok W' q := by
  cases row with
  | none => exact ⟨Kd.R_grown h.r2 hg (fun _ _ => by simp), Kd.R_grown h.r3 hg (fun _ _ => by simp), h.ne⟩
  | some g =>
    obtain ⟨cs, hc⟩ := hr g rfl
    have h' := h.apart hc
    exact ⟨Kd.R_mono (Kd.R_grown h'.r2 hg (fun k hk e => hk.2 (Option.some.inj e))) (fun _ hk => hk.1), Kd.R_mono (Kd.R_grown h'.r3 hg (fun k hk e => hk.2 (Option.some.inj e))) (fun _ hk => hk.1), h.ne⟩
theorem fgd_new {b : Nat} {ok ok2 ok3 : Nat → Prop} {W W3 : World} {q : FgV} {x1 x2 : Int} {A2 A3 : Option Addr} {c2 c3 n2 n3 : Nat} {l2 l3 : List Int} (h : FgN b ok W q) (h2 : Kd.R (Kd.int .i64) 3 W3 W.heap.size ok2 (.slice A2 n2 c2) l2) (h3 : Kd.R (Kd.int .i64) 3 W3 W.heap.size ok3 (.slice A3 n3 c3) l3) : FgD q ⟨x1, x2, A2, c2, l2, A3, c3, l3⟩ := by
  intro x y hx hy e
  have h1 := h.lt x hx
  have h4 : W.heap.size ≤ y.block := by
    rcases hy with hy | hy
    · exact Kd.R_base h2 _ (by rw [show A2 = some y from hy]; rfl)
    · exact Kd.R_base h3 _ (by rw [show A3 = some y from hy]; rfl)
  omega
section
variable {P : Program} {ops : Array Oper} {Q : Exit → Act → World → Prop}
theorem goesV_ {oi : Oper} {N : Option Tmp} {a : Act} {w : World} {K : Act → World → Prop} {f : FuncId} {fn : Func} {o : Operand} {ar : Array Operand} {ts : Array TypeId} (hf : P.funcs[f]? = some fn) (hname : (fn.name == "runtime.NumGoroutine") = false) (hb : fn.body.isSome = true) (args : Array Value)
    (hw : Region.wanted oi (yielded ops a.tmps) = true) (hN : oi.dst = N) (hop : oi.op = .call { callee := .value o, args := ar, argTypes := ts }) (hov : a.eval o = .func (.func f) #[] #[]) (hargs : ar.map a.eval = args)
    (h : Calls P f args w fun e w' => ∃ v, e = .returned v ∧ K (a.put N v) w') : if Region.wanted oi (yielded ops a.tmps) = true then Oper.wp P oi a w K Q else K (a.put N undef) w := by
  refine call_ f args hw hN ?_ h
  have he := enters_ hf hname hb args w
  unfold execOp
  simp [hop, resolve, Deferred.ofValue, invoke, hov, hargs, he]
end
set_option maxHeartbeats 8000000 in
set_option maxRecDepth 100000 in
theorem figures_calls (k : Nat) (a0 a1 : Int) (A : Option Addr) (c : Nat) (L : List Int) (fs : List (Int × Int × List Int × List Int)) (w : World) (hT : TzTab w) (hr : Kd.C (Kd.int .u64) w A L.length L) (hc : L.length ≤ c) (hf : figsF k a0 a1 L = some fs) (hC : fgT k fs) (hl : L.length ≤ 1000000) :
    Calls Tryz.prog 64 #[.agg #[.int .i64 a0, .int .i64 a1], .slice A L.length c] w fun e w' => ∃ v qs, e = .returned v ∧ qs.map fgP = fgS k fs ∧ Kd.R kfg 30 w' w.heap.size (fun _ => True) v qs ∧ (∀ q ∈ qs, FgN w.heap.size (fun _ => True) w' q) ∧ qs.Pairwise FgD ∧ Below w.heap.size w w' := by
  have HT := Aside0.mk hT
  have HR := Aside0.mk hr
  have HF := Aside0.mk hf
  have HC := Aside0.mk hC
  clear hT hr hf hC
  have hu1 := Tryz.underlying30
  have hu2 := Tryz.underlying60
  go_enter Tryz.func64, Tryz.ntmps64
  go_wp2_with fail
  have HB0 : Aside0 (Below w.heap.size w ((w.alloc (Obj.cells #[Value.int IntKind.i64 a0, Value.int IntKind.i64 a1] 60)).alloc (Obj.cells #[] 30))) := ⟨below_alloc (below_alloc (Below.refl _ _) _) _⟩
  have HX0 : Aside0 (((w.alloc (Obj.cells #[Value.int IntKind.i64 a0, Value.int IntKind.i64 a1] 60)).alloc (Obj.cells #[] 30)).heap[w.heap.size]? = some (.cells #[.int .i64 a0, .int .i64 a1] 60 (0, 0))) := ⟨blk_alloc (fg_new w _) _⟩
  have HL0 : Aside0 (Kd.R kfg 30 ((w.alloc (Obj.cells #[Value.int IntKind.i64 a0, Value.int IntKind.i64 a1] 60)).alloc (Obj.cells #[] 30)) w.heap.size (fun k => k ≠ w.heap.size) (.slice (some ⟨w.heap.size + 1, 0, none⟩) 0 0) []) := ⟨fg_of_cells (xs := []) (cap := 0) (cur := #[]) (by omega) (by omega) (by have e := fg_new (w.alloc (Obj.cells #[Value.int IntKind.i64 a0, Value.int IntKind.i64 a1] 60)) (Obj.cells #[] 30); rwa [fg_size] at e) (Nat.le_refl _) (by decide) rfl (fun j hj => absurd hj (by simp))⟩
  go_loopg [5, 11] L.length (fun gg v5 v11 w' => ∃ (i : Nat) (qs : List FgV) (fr : List (Int × Int × List Int × List Int)), i ≤ L.length ∧ L.length - i ≤ gg ∧ v11 = .int .i64 i ∧ Aside0 (Kd.R kfg 30 w' w.heap.size (fun k => k ≠ w.heap.size) v5 qs) ∧ Aside0 (w'.heap[w.heap.size]? = some (.cells #[.int .i64 a0, .int .i64 a1] 60 (0, 0))) ∧ Aside0 (∀ q ∈ qs, FgN w.heap.size (fun _ => True) w' q) ∧ Aside0 (figsF k a0 a1 (L.drop i) = some fr) ∧ Aside0 (qs.map fgP ++ fr = fs ∧ qs.length = i ∧ qs.Pairwise FgD) ∧ Aside0 (Below w.heap.size w w'))
  case atStart => exact ⟨0, [], fs, Nat.zero_le _, by omega, rfl, HL0, HX0, ⟨by simp⟩, HF, ⟨⟨rfl, rfl, List.Pairwise.nil⟩⟩, HB0⟩
  case round =>
    clear HL0 HX0 HB0 HF
    obtain ⟨i, qs, fr, hi, hg, rfl, HL, HX, HQ, HF, HE, HB⟩ := hrel
    by_cases hlt : i < L.length
    · have hltz : (i : Int) < (L.length : Int) := by omega
      have hlt' := Aside0.mk hlt
      have hrd : rd L (i : Int) = L[i] := by unfold rd; rw [Int.toNat_natCast, List.getD_eq_getElem?_getD, List.getElem?_eq_getElem hlt]; rfl
      obtain ⟨x1, x2, x3, x4, fr2, hx, hf2, hfr⟩ := figsF_cons (List.drop_eq_getElem_cons hlt ▸ HF.out)
      rw [← hrd] at hx
      have HX1 : Aside0 (impl_grid_figure.f k a0 a1 (rd L (i : Int)) = some (x1, x2, x3, x4)) := ⟨hx⟩
      have HF2 := Aside0.mk hf2
      have HFR := Aside0.mk hfr
      obtain ⟨ad, rfl, hcell⟩ := Kd.at_int (Kd.C_below HR.out HB.out) (i : Int) (by omega) (by omega)
      rw [Int.toNat_natCast] at hcell
      have HLn := Aside0.mk (show (qs.length + 1) * 64 ≤ 140737488355328 by have := HE.out.2.1; omega)
      have g0 : wr.cell? ⟨w.heap.size, 0, none⟩ = some (.int .i64 a0) := (blk_cell HX.out 0).trans rfl
      have g1 : wr.cell? ⟨w.heap.size, 1, none⟩ = some (.int .i64 a1) := (blk_cell HX.out 1).trans rfl
      clear hx hf2 hfr hrd hlt HF
      go_wp2_with (first
        | (go_at_call 43; (with_reducible refine (impl_grid_figure.calls k a0 a1 (rd L (i : Int)) x1 x2 x3 x4 _ (tz_below HT.out HB.out) HX1.out).mono ?_); rintro e w3 ⟨v2, v3, rfl, ho2, ho3, hb3⟩; obtain ⟨A2, c2, rfl⟩ := Kd.R_slice ho2; obtain ⟨A3, c3, rfl⟩ := Kd.R_slice ho3; have HX3 := Aside0.mk (blk_below HX.out hb3); have HB3 := Aside0.mk (below_step HB.out hb3); have HL3 := Aside0.mk (Kd.R_below HL.out hb3); have HM := Aside0.mk (show FgN w.heap.size (fun _ => True) w3 ⟨x1, x2, A2, c2, x3, A3, c3, x4⟩ from ⟨Kd.R_mono (Kd.R_lower ho2 (below_size HB.out)) (fun _ _ => trivial), Kd.R_mono (Kd.R_lower ho3 (below_size HB.out)) (fun _ _ => trivial), fun g hg => ho2.1 g hg⟩); have HQ3 := Aside0.mk (fun q hq => (HQ.out q hq).below hb3); have HD3 := Aside0.mk (show ∀ q ∈ qs, FgD q ⟨x1, x2, A2, c2, x3, A3, c3, x4⟩ from fun q hq => fgd_new (HQ.out q hq) ho2 ho3); clear ho2 ho3 hb3 HX HL HQ HB g0 g1)
        | ((with_reducible refine gate_builtin (b := .append) (xs := #[.tmp 15, .tmp 19]) rfl ?_); at_builtin; refine Kd.R_append kfg (w0 := w) w.heap.size rfl (.tmp 15) (.tmp 19) 43 30 (.agg #[.int .i64 0, .int .i64 0, .slice none 0 0, .slice none 0 0]) 64 rfl Tryz.underlying43 fg_info rfl (by decide) (by omega) u5 qs (⟨x1, x2, A2, c2, x3, A3, c3, x4⟩ : FgV) (fgC ⟨x1, x2, A2, c2, x3, A3, c3, x4⟩) (fun k => k ≠ w.heap.size) (fun _ => False) rfl rfl ?aP (fun _ hk => hk.elim) ?aF ?aO ?aB ?aS ?aL ?_; (case aP => exact rfl); (case aB => exact HB3.out); (case aF => exact fun k hk e => by have := blk_lt HX3.out; omega); (case aO => exact HL3.out); (case aS => exact below_size HB3.out); (case aL => have := HLn.out; omega); intro v5 w5 ho5 hb5 hg5 hat5; have nB : some w.heap.size ≠ u5.ownBlock := fun e => HL3.out.1 w.heap.size e.symm rfl; have HX5 := Aside0.mk (blk_grown HX3.out hg5 nB); have hrow := fg_row HL3.out; have HM5 := Aside0.mk (HM.out.grown hg5 hrow); have HQ5 := Aside0.mk (fun q hq => (HQ3.out q hq).grown hg5 hrow); have HL5 := Aside0.mk ho5; have HB5 := Aside0.mk hb5; clear ho5 hb5 hg5 hat5 hrow nB HX3 HB3 HL3 HM HQ3))
      have HLT := hlt'.out
      go_roundg (L.length - (i + 1))
      case measure => omega
      case rel =>
        refine ⟨i + 1, qs ++ [⟨x1, x2, A2, c2, x3, A3, c3, x4⟩], fr2, HLT, by omega, by go_num, HL5, HX5, ⟨fun q hq => ?_⟩, HF2, ⟨?_, ?_⟩, HB5⟩
        · simp only [List.mem_append, List.mem_cons, List.not_mem_nil, or_false] at hq
          rcases hq with hq | rfl
          · exact HQ5.out q hq
          · exact HM5.out
        · rw [← HE.out.1, HFR.out]; simp [fgP]
        · refine ⟨by have := HE.out.2.1; simp; omega, List.pairwise_append.2 ⟨HE.out.2.2, List.pairwise_singleton _ _, fun q hq r hr => ?_⟩⟩
          rw [List.mem_singleton.1 hr]
          exact HD3.out q hq
    · have hltz : ¬ (i : Int) < (L.length : Int) := by omega
      obtain rfl : i = L.length := by omega
      obtain rfl : [] = fr := by have := HF.out; rw [List.drop_length] at this; exact Option.some.inj this
      obtain ⟨hm, hn, hap⟩ := HE.out
      rw [List.append_nil] at hm
      obtain ⟨A5, c5, rfl⟩ := Kd.R_slice HL.out
      by_cases hne : qs = []
      · subst hne
        have hS : ∀ W, Calls Tryz.prog 94 #[.slice A5 L.length c5, .func (.func 76) #[] #[]] W fun e w' => e = .returned (.tuple #[]) ∧ w' = W := fun W => by
          rw [← hn]
          exact AnyF.slices_SortFunc_none (P := Tryz.prog) sortFg A5 c5 (.func (.func 76) #[] #[]) W
        have HS := Aside0.mk hS
        clear hS
        go_wp2_with (go_at_call 94; refine (HS.out _).mono ?_; rintro e w' ⟨rfl, rfl⟩)
        go_ret
        subst hm
        exact ⟨_, [], rfl, rfl, hn ▸ Kd.R_mono HL.out (fun _ _ => trivial), by simp, List.Pairwise.nil, HB.out⟩
      · have hS := fg_sortf (k := k) HL.out HQ.out (by rw [hm]; exact HC.out) hne (by omega) (Nat.le_refl _)
        rw [hn] at hS
        have HS := Aside0.mk hS
        have HM := Aside0.mk hm
        clear hS hm
        go_wp2_with (go_at_call 94; refine HS.out.mono ?_; rintro e w' ⟨rfl, qs', hm', hp', hR', hQ', hB'⟩; have HZ := Aside0.mk (And.intro hm' (And.intro hR' (And.intro hQ' hB'))); have HZp := Aside0.mk ((hp'.pairwise_iff (fun h => FgD.symm h)).2 hap); clear hm' hp' hR' hQ' hB')
        go_ret
        exact ⟨_, qs', rfl, by rw [← HM.out]; exact HZ.out.1, Kd.R_mono HZ.out.2.1 (fun _ _ => trivial), HZ.out.2.2.1, HZp.out, HB.out.trans HZ.out.2.2.2⟩
theorem FgN.lower {b b' : Nat} {ok : Nat → Prop} {W : World} {q : FgV} (h : FgN b ok W q) (hb : b' ≤ b) : FgN b' ok W q := ⟨Kd.R_lower h.r2 hb, Kd.R_lower h.r3 hb, h.ne⟩
theorem fg_new2 (w : World) (o o' : Obj) : ((w.alloc o).alloc o').heap[w.heap.size + 1]? = some o' := by
  have e := fg_new (w.alloc o) o'
  rwa [fg_size] at e
set_option maxHeartbeats 4000000 in
set_option maxRecDepth 100000 in
/-- what a puzzle holds, but for the number of squares -/
theorem way_calls (a0 a1 : Int) (A2 : Option Addr) (c2 : Nat) (l2 : List Int) (A3 : Option Addr) (c3 : Nat) (l3 : List Int) (d4 : Int) (d5 : Bool) (d6 : Int) (w : World) :
    Calls Tryz.prog 62 #[.agg #[.int .i64 a0, .int .i64 a1, .slice A2 l2.length c2, .slice A3 l3.length c3, .int .i64 d4, .bool d5, .int .i64 d6]] w fun e w' => e = .returned (.agg #[.int .i64 a0, .int .i64 a1, .slice A2 l2.length c2, .slice A3 l3.length c3, .int .i64 d4, .bool d5]) ∧ Below w.heap.size w w' := by
  have hu1 := Tryz.underlying30
  have hu3 := Tryz.underlying32
  have hu4 := Tryz.underlying80
  go_enter Tryz.func62, Tryz.ntmps62
  go_wp2_with fail
  refine bodyPost_ret (results_cell_row rfl _ _ (w.heap.size + 1) 80 #[.int .i64 a0, .int .i64 a1, .slice A2 l2.length c2, .slice A3 l3.length c3, .int .i64 d4, .bool d5] (0, 0) _ rfl (fg_new2 _ _ _) Tryz.underlying80 rfl (by kernel_rfl)) rfl ?_
  exact ⟨rfl, below_alloc (below_alloc (Below.refl _ _) _) _⟩
set_option maxHeartbeats 8000000 in
set_option maxRecDepth 100000 in
theorem solutions_calls (k : Nat) (a0 a1 : Int) (A2 : Option Addr) (c2 : Nat) (l2 : List Int) (A3 : Option Addr) (c3 : Nat) (l3 : List Int) (d4 : Int) (d5 : Bool) (d6 : Int) (fs : List (Int × Int × List Int × List Int)) (ok : Bool) (w : World) (hT : TzTab w) (hr2 : Kd.C (Kd.int .i64) w A2 l2.length l2) (hc2 : l2.length ≤ c2) (hr3 : Kd.C (Kd.int .i64) w A3 l3.length l3) (hc3 : l3.length ≤ c3) (h : solsF k a0 a1 l2 l3 d4 d5 d6 = some (fs, ok)) :
    Calls Tryz.prog 37 #[.agg #[.int .i64 a0, .int .i64 a1, .slice A2 l2.length c2, .slice A3 l3.length c3, .int .i64 d4, .bool d5, .int .i64 d6]] w fun e w' => ∃ v qs, e = .returned (.tuple #[v, .bool ok]) ∧ qs.map fgP = fs ∧ Kd.R kfg 30 w' w.heap.size (fun _ => True) v qs ∧ (∀ q ∈ qs, FgN w.heap.size (fun _ => True) w' q) ∧ qs.Pairwise FgD ∧ Below w.heap.size w w' := by
  have HT := Aside0.mk hT
  have HR2 := Aside0.mk hr2
  have HR3 := Aside0.mk hr3
  clear hT hr2 hr3
  unfold solsF at h
  obtain ⟨b, hb, h⟩ := Option.bind_eq_some_iff.mp h
  have HP := Aside0.mk hb
  clear hb
  have hu1 := Tryz.underlying30
  have hu2 := Tryz.underlying60
  have hu3 := Tryz.underlying32
  have hu4 := Tryz.underlying80
  have HX0 : Aside0 ((w.alloc (Obj.cells #[.int .i64 a0, .int .i64 a1, .slice A2 l2.length c2, .slice A3 l3.length c3, .int .i64 d4, .bool d5, .int .i64 d6] 32)).heap[w.heap.size]? = some (.cells #[.int .i64 a0, .int .i64 a1, .slice A2 l2.length c2, .slice A3 l3.length c3, .int .i64 d4, .bool d5, .int .i64 d6] 32 (0, 0))) := ⟨fg_new w _⟩
  have HB0 : Aside0 (Below w.heap.size w (w.alloc (Obj.cells #[.int .i64 a0, .int .i64 a1, .slice A2 l2.length c2, .slice A3 l3.length c3, .int .i64 d4, .bool d5, .int .i64 d6] 32))) := ⟨below_alloc (Below.refl _ _) _⟩
  cases b with
  | false =>
    rw [if_neg (by simp)] at h
    obtain ⟨rfl, rfl⟩ := Prod.mk.inj (Option.some.inj h)
    clear h
    go_enter Tryz.func37, Tryz.ntmps37
    go_wp2_with (go_at_call 61; (with_reducible refine (impl_IsPuzzle.calls k a0 a1 A2 c2 l2 A3 c3 l3 d4 d5 d6 false _ (Kd.C_alloc HR2.out _) hc2 (Kd.C_alloc HR3.out _) hc3 HP.out).mono ?_); rintro e w1 ⟨rfl, hb1⟩; have HX := Aside0.mk (blk_below HX0.out hb1); have HB := Aside0.mk (below_step HB0.out hb1); have HXd := Aside0.mk (blk_below HX.out (below_drew1 (Below.refl w1.heap.size w1))); clear hb1 HX0 HB0)
    go_ret2
    exact ⟨_, [], rfl, rfl, Kd.R_nil _ _ _ _ _, by simp, List.Pairwise.nil, HB.out⟩
  | true =>
    rw [if_pos rfl] at h
    obtain ⟨L, hw, h⟩ := Option.bind_eq_some_iff.mp h
    have HW := Aside0.mk hw
    clear hw
    go_enter Tryz.func37, Tryz.ntmps37
    go_wp2_with (go_at_call 61; (with_reducible refine (impl_IsPuzzle.calls k a0 a1 A2 c2 l2 A3 c3 l3 d4 d5 d6 true _ (Kd.C_alloc HR2.out _) hc2 (Kd.C_alloc HR3.out _) hc3 HP.out).mono ?_); rintro e w1 ⟨rfl, hb1⟩; have HX := Aside0.mk (blk_below HX0.out hb1); have HB := Aside0.mk (below_step HB0.out hb1); have HXd := Aside0.mk (blk_below HX.out (below_drew1 (Below.refl w1.heap.size w1))); clear hb1 HX0 HB0)
    refine start_ (n := 6) (S := fun w' => w'.cell? ⟨w.heap.size, 0, none⟩ = some (.int .i64 a0) ∧ w'.cell? ⟨w.heap.size, 1, none⟩ = some (.int .i64 a1) ∧ w'.cell? ⟨w.heap.size, 2, none⟩ = some (.slice A2 l2.length c2) ∧ w'.cell? ⟨w.heap.size, 3, none⟩ = some (.slice A3 l3.length c3) ∧ w'.cell? ⟨w.heap.size, 4, none⟩ = some (.int .i64 d4) ∧ w'.cell? ⟨w.heap.size, 5, none⟩ = some (.bool d5) ∧ w'.cell? ⟨w.heap.size, 6, none⟩ = some (.int .i64 d6)) (ds := []) #[false, false, false, false, false, false] (by kernel_rfl) rfl rfl ⟨(blk_cell HXd.out 0).trans rfl, (blk_cell HXd.out 1).trans rfl, (blk_cell HXd.out 2).trans rfl, (blk_cell HXd.out 3).trans rfl, (blk_cell HXd.out 4).trans rfl, (blk_cell HXd.out 5).trans rfl, (blk_cell HXd.out 6).trans rfl⟩ (fun hHeld => ?_)
    refine pure_ (i := 2) (N := some 10) (v := ?_) (a' := ?_) #[false, false, true, false, false, false] rfl rfl (by kernel_rfl) (fun _ _ _ h => h) (Or.inl ⟨by rfl, ?_⟩) ?_ ?_
    rotate_left
    · intro w'
      go_simp
      with_reducible rfl
    rotate_left
    · simp only [Act.put, List.setIfInBounds_toArray, List.set_cons_zero, List.set_cons_succ, i64_w, i32_w]
      rfl
    refine take_ (i := 0) (N := some 8) (v := ?_) (a' := ?_) #[true, false, true, false, false, false] rfl rfl (by kernel_rfl) (fun _ _ _ h => h) (Or.inl ⟨by rfl, ?_⟩) hHeld ?_ ?_
    rotate_left
    · rintro w' ⟨s0, s1, s2, s3, s4, s5, s6⟩
      go_simp
      with_reducible rfl
    rotate_left
    · simp only [Act.put, List.setIfInBounds_toArray, List.set_cons_zero, List.set_cons_succ, i64_w, i32_w]
      rfl
    refine take_ (i := 3) (N := some 11) (v := ?_) (a' := ?_) #[true, false, true, true, false, false] rfl rfl (by kernel_rfl) (fun _ _ _ h => h) (Or.inl ⟨by rfl, ?_⟩) hHeld ?_ ?_
    rotate_left
    · rintro w' ⟨s0, s1, s2, s3, s4, s5, s6⟩
      go_simp
      with_reducible rfl
    rotate_left
    · simp only [Act.put, List.setIfInBounds_toArray, List.set_cons_zero, List.set_cons_succ, i64_w, i32_w]
      rfl
    refine one_ (i := 1) (N := some 9) #[true, true, true, true, false, false] rfl rfl (by kernel_rfl) (by decide) (fun K hK => ?_)
    refine goesV_ Tryz.func62 (by kernel_rfl) rfl #[.agg #[.int .i64 a0, .int .i64 a1, .slice A2 l2.length c2, .slice A3 l3.length c3, .int .i64 d4, .bool d5, .int .i64 d6]] (by rfl) rfl rfl (by rfl) (by simp only [List.map_toArray, List.map_cons, List.map_nil]; rfl) ?_
    with_reducible refine (way_calls a0 a1 A2 c2 l2 A3 c3 l3 d4 d5 d6 _).mono ?_
    rintro e w3 ⟨rfl, hb3⟩
    refine ⟨_, rfl, ?_⟩
    have hb3' := below_step (below_drew1 (Below.refl w1.heap.size w1)) hb3
    have HX3 := Aside0.mk (blk_below HX.out hb3')
    have HB3 := Aside0.mk (below_step HB.out hb3')
    clear hb3 hb3' HX HB
    refine hK.out _ _ ⟨(blk_cell HX3.out 0).trans rfl, (blk_cell HX3.out 1).trans rfl, (blk_cell HX3.out 2).trans rfl, (blk_cell HX3.out 3).trans rfl, (blk_cell HX3.out 4).trans rfl, (blk_cell HX3.out 5).trans rfl, (blk_cell HX3.out 6).trans rfl⟩ (fun hHeld => ?_)
    clear hK K
    refine norm_ (a' := ?_) ?_ ?_
    rotate_left
    · show Act.put _ (some 9) _ = _
      simp only [Act.put, List.setIfInBounds_toArray, List.set_cons_zero, List.set_cons_succ, i64_w, i32_w]
      rfl
    refine one_ (i := 4) (N := some 12) #[true, true, true, true, true, false] rfl rfl (by kernel_rfl) (by decide) (fun K hK => ?_)
    refine goesV_ Tryz.func63 (by kernel_rfl) rfl #[.agg #[.int .i64 a0, .int .i64 a1, .slice A2 l2.length c2, .slice A3 l3.length c3, .int .i64 d4, .bool d5], .int .i64 d6, .bool true] (by rfl) rfl rfl (by rfl) (by simp only [List.map_toArray, List.map_cons, List.map_nil]; rfl) ?_
    with_reducible refine (impl_way_with.calls k a0 a1 A2 c2 l2 A3 c3 l3 d4 d5 d6 true L _ (tz_below HT.out HB3.out) (Kd.C_below HR2.out HB3.out) hc2 (Kd.C_below HR3.out HB3.out) hc3 HW.out).mono ?_
    rintro e w4 ⟨vL, rfl, hoL, hb4⟩
    refine ⟨_, rfl, ?_⟩
    obtain ⟨AL, cL, rfl⟩ := Kd.R_slice hoL
    have HX4 := Aside0.mk (blk_below HX3.out hb4)
    have HB4 := Aside0.mk (below_step HB3.out hb4)
    have HL4 := Aside0.mk (Kd.R_lower hoL (below_size HB3.out))
    clear hoL hb4 HX3 HB3
    refine hK.out _ _ ⟨(blk_cell HX4.out 0).trans rfl, (blk_cell HX4.out 1).trans rfl, (blk_cell HX4.out 2).trans rfl, (blk_cell HX4.out 3).trans rfl, (blk_cell HX4.out 4).trans rfl, (blk_cell HX4.out 5).trans rfl, (blk_cell HX4.out 6).trans rfl⟩ (fun hHeld => ?_)
    clear hK K
    refine norm_ (a' := ?_) ?_ ?_
    rotate_left
    · show Act.put _ (some 12) _ = _
      simp only [Act.put, List.setIfInBounds_toArray, List.set_cons_zero, List.set_cons_succ, i64_w, i32_w]
      rfl
    refine pure_ (i := 5) (N := some 4) (v := ?_) (a' := ?_) #[true, true, true, true, true, true] rfl rfl (by kernel_rfl) (fun _ _ _ h => h) (Or.inl ⟨by rfl, ?_⟩) ?_ ?_
    rotate_left
    · intro w'
      go_simp
      with_reducible rfl
    rotate_left
    · simp only [Act.put, List.setIfInBounds_toArray, List.set_cons_zero, List.set_cons_succ, i64_w, i32_w]
      rfl
    refine done_ (by kernel_rfl) ?_

    by_cases hbig : L.length > 150
    · rw [if_pos hbig] at h
      obtain ⟨rfl, rfl⟩ := Prod.mk.inj (Option.some.inj h)
      have hz : decide ((150 : Int) < (L.length : Int)) = true := decide_eq_true (by omega)
      clear h
      go_wp2_with fail
      go_ret2
      exact ⟨_, [], rfl, rfl, Kd.R_nil _ _ _ _ _, by simp, List.Pairwise.nil, HB4.out⟩
    · rw [if_neg hbig] at h
      obtain ⟨gs, hgs, h⟩ := Option.bind_eq_some_iff.mp h
      split at h
      · next hC =>
        obtain ⟨rfl, rfl⟩ := Prod.mk.inj (Option.some.inj h)
        have hz : decide ((150 : Int) < (L.length : Int)) = false := decide_eq_false (by omega)
        have HG := Aside0.mk hgs
        have HC := Aside0.mk hC
        clear h hgs hC
        have p0 : w4.cell? ⟨w.heap.size, 0, none⟩ = some (.int .i64 a0) := (blk_cell HX4.out 0).trans rfl
        have p1 : w4.cell? ⟨w.heap.size, 1, none⟩ = some (.int .i64 a1) := (blk_cell HX4.out 1).trans rfl
        have p2 : w4.cell? ⟨w.heap.size, 2, none⟩ = some (.slice A2 l2.length c2) := (blk_cell HX4.out 2).trans rfl
        have p3 : w4.cell? ⟨w.heap.size, 3, none⟩ = some (.slice A3 l3.length c3) := (blk_cell HX4.out 3).trans rfl
        go_wp2_with (first
          | (go_at_call 42; (with_reducible refine (impl_Figure_grid.calls a0 a1 A2 c2 l2 A3 c3 l3 a0 a1 _ (Kd.C_below HR2.out HB4.out) hc2 (Kd.C_below HR3.out HB4.out) hc3 rfl).mono ?_); rintro e w5 ⟨rfl, hb5⟩; have HB5 := Aside0.mk (below_step HB4.out hb5); have HL5 := Aside0.mk (Kd.R_below HL4.out hb5); clear hb5 HB4 HL4 HX4 p0 p1 p2 p3)
          | (go_at_call 64; (with_reducible refine (figures_calls k a0 a1 AL cL L gs _ (tz_below HT.out HB5.out) (Kd.R_reads' HL5.out).2.2 (Kd.R_reads' HL5.out).2.1 HG.out HC.out (by omega)).mono ?_); rintro e w6 ⟨v6, qs, rfl, hm6, hr6, hq6, hd6, hb6⟩; have HD6 := Aside0.mk hd6; have HZ := Aside0.mk (And.intro hm6 (And.intro (Kd.R_lower hr6 (below_size HB5.out)) (And.intro hq6 (And.intro (below_size HB5.out) (below_step HB5.out hb6))))); clear hm6 hr6 hq6 hb6 hd6))
        go_ret2
        exact ⟨v6, qs, rfl, HZ.out.1, HZ.out.2.1, fun q hq => (HZ.out.2.2.1 q hq).lower HZ.out.2.2.2.1, HD6.out, HZ.out.2.2.2.2⟩
      · cases h
theorem su_add (g n : Nat) : (⟨g, 0, none⟩ : Addr).add n = ⟨g, n, none⟩ := by
  unfold Addr.add
  split
  · next h => rw [h]
  · simp
theorem su_cells {W : World} {e h0 : Nat} {ok : Nat → Prop} {g c : Nat} {xs : List FgV} (h : Kd.R kfg e W h0 ok (.slice (some ⟨g, 0, none⟩) xs.length c) xs) {i : Nat} {q : FgV} (hq : xs[i]? = some q) : W.cell? ⟨g, i * 4, none⟩ = some (.int .i64 q.w) ∧ W.cell? ⟨g, i * 4 + 1, none⟩ = some (.int .i64 q.h) ∧ W.cell? ⟨g, i * 4 + 2, none⟩ = some (.slice q.A2 q.l2.length q.c2) ∧ W.cell? ⟨g, i * 4 + 3, none⟩ = some (.slice q.A3 q.l3.length q.c3) := by
  have hlt : i < xs.length := (List.getElem?_eq_some_iff.1 hq).1
  obtain ⟨ad, eA, hcs⟩ := (Kd.R_reads' h).2.2.2.2 (by omega)
  cases eA
  obtain ⟨cs, _, hcq, hcell⟩ := hcs i q hq
  have hcq : cs = fgC q := hcq
  subst hcq
  have H := fun j u hj => (su_add g (i * 4 + j) ▸ hcell j u hj : W.cell? ⟨g, i * 4 + j, none⟩ = some u)
  exact ⟨H 0 _ rfl, H 1 _ rfl, H 2 _ rfl, H 3 _ rfl⟩
theorem su_put {W0 W : World} {G : Nat} {b0 b1 b2 b3 : Value} (hb : Below W0.heap.size W0 W) (hG : W0.heap.size ≤ G) (hx : W.heap[G]? = some (.cells #[b0, b1, b2, b3] 30 (0, 0))) (u0 u1 u2 u3 : Value) :
    Below W0.heap.size W0 ((((W.setCell ⟨G, 0, none⟩ u0).setCell ⟨G, 1, none⟩ u1).setCell ⟨G, 2, none⟩ u2).setCell ⟨G, 3, none⟩ u3) ∧ ((((W.setCell ⟨G, 0, none⟩ u0).setCell ⟨G, 1, none⟩ u1).setCell ⟨G, 2, none⟩ u2).setCell ⟨G, 3, none⟩ u3).heap[G]? = some (.cells #[u0, u1, u2, u3] 30 (0, 0)) := by
  have h1 := blk_put (cs' := #[u0, b1, b2, b3]) hx 0 u0 rfl
  have h2 := blk_put (cs' := #[u0, u1, b2, b3]) h1 1 u1 rfl
  have h3 := blk_put (cs' := #[u0, u1, u2, b3]) h2 2 u2 rfl
  exact ⟨(((hb.setCell hG _).setCell hG _).setCell hG _).setCell hG _, blk_put (cs' := #[u0, u1, u2, u3]) h3 3 u3 rfl⟩
section
variable {P : Program} {ops : Array Oper} {rest : List Oper} {o : Oper} {a : Act} {Q : Exit → Act → World → Prop} {α : Type}
/-- 'copy' from one place of rows to another, elements of any size -/
theorem run_copy_wide (w : World) (dT sT ty elem : TypeId) (b o dLen dCap : Nat) (a : Addr) (sLen sCap sz n : Nat) (cs : List Value)
    (hu : P.underlying dT = some (.slice elem)) (hs : (P.info? elem).map (·.size) = some sz) (hm : Nat.min sLen dLen = n) (hn : cs.length = n * sz)
    (hsrc : ∀ j v, cs[j]? = some v → w.cell? (a.add j) = some v) (hc : ∀ j, j < cs.length → (w.cell? ⟨b, o + j, none⟩).isSome = true) (hf : ∀ j, j < cs.length → w.frozen? ⟨b, o + j, none⟩ = false) (h1 : ∀ v ∈ cs, v.oneCell' = true) :
    (Builtin.copy_ #[dT, sT] ty #[.slice (some ⟨b, o, none⟩) dLen dCap, .slice (some a) sLen sCap]).run P w = .ok (goInt n) (w.setCells b o cs) := by
  have hl := run_loadCells_list (P := P) w a cs hsrc
  have hst := run_storeCells_cells (P := P) b o cs 0 w (by simpa using hc) (by simpa using hf) h1
  cases hq : P.info? elem with
  | none => simp [hq] at hs
  | some i =>
    have hi : i.size = sz := by simpa [hq] using hs
    simp [Builtin.copy_, run_underlying hu, Builtin.lenOf, Builtin.firstCells, sizeOf, typeInfo, hq, hi, hm, ← hn, hl, hst]
theorem run_copy_nil (w : World) (dT sT ty elem : TypeId) (d a : Option Addr) (dLen dCap sLen sCap sz : Nat) (hu : P.underlying dT = some (.slice elem)) (hs : (P.info? elem).map (·.size) = some sz) (hm : Nat.min sLen dLen = 0) :
    (Builtin.copy_ #[dT, sT] ty #[.slice d dLen dCap, .slice a sLen sCap]).run P w = .ok (goInt 0) w := by
  cases hq : P.info? elem with
  | none => simp [hq] at hs
  | some i =>
    have hl : ∀ (x : Addr), (loadCells x 0).run P w = .ok #[] w := fun x => by simpa using run_loadCells_list (P := P) w x [] (by simp)
    cases d <;> cases a <;> simp [Builtin.copy_, run_underlying hu, Builtin.lenOf, Builtin.firstCells, sizeOf, typeInfo, hq, hm, storeCells, hl]
/-- 'copy(xs[i+1:], xs[i:])' in a row of the call's own: the elements from i on move up by one, the last one goes. -/
theorem shift_run (d : Kd α) {w0 W : World} (base : Nat) (t ty e : TypeId) (ht : P.underlying t = some (.slice e)) (hinfo : (P.info? e).map (·.size) = some d.sz)
    {g cap : Nat} (xs : List α) (i : Nat) (ok : Nat → Prop) (hi : i < xs.length) (As Ax : Option Addr) (cs' cx' : Nat)
    (hAs : i + 1 < xs.length → As = some ⟨g, (i + 1) * d.sz, none⟩) (hAx : i + 1 < xs.length → Ax = some ⟨g, i * d.sz, none⟩)
    (HO : d.R e W base ok (.slice (some ⟨g, 0, none⟩) xs.length cap) xs) (HB : Below base w0 W) :
    ∃ w1, (Builtin.copy_ #[t, t] ty #[.slice As (xs.length - (i + 1)) cs', .slice Ax (xs.length - i) cx']).run P W = .ok (goInt ((xs.length - (i + 1) : Nat) : Int)) w1 ∧ d.R e w1 base ok (.slice (some ⟨g, 0, none⟩) xs.length cap) (xs.take (i + 1) ++ (xs.drop i).take (xs.length - (i + 1))) ∧ Below base w0 w1 ∧ W.grownBy w1 (some g) := by
  have hbg : base ≤ g := Kd.R_base HO g (by simp [Value.ownBlock])
  have fin : ∀ w1, (Builtin.copy_ #[t, t] ty #[.slice As (xs.length - (i + 1)) cs', .slice Ax (xs.length - i) cx']).run P W = .ok (goInt ((xs.length - (i + 1) : Nat) : Int)) w1 → d.R e w1 base ok (.slice (some ⟨g, 0, none⟩) xs.length cap) (xs.take (i + 1) ++ (xs.drop i).take (xs.length - (i + 1))) → W.grownBy w1 (some g) → ∃ w1, (Builtin.copy_ #[t, t] ty #[.slice As (xs.length - (i + 1)) cs', .slice Ax (xs.length - i) cx']).run P W = .ok (goInt ((xs.length - (i + 1) : Nat) : Int)) w1 ∧ d.R e w1 base ok (.slice (some ⟨g, 0, none⟩) xs.length cap) (xs.take (i + 1) ++ (xs.drop i).take (xs.length - (i + 1))) ∧ Below base w0 w1 ∧ W.grownBy w1 (some g) := by
    intro w1 hr hrow hg
    exact ⟨w1, hr, hrow, HB.trans ⟨hg.os, hg.tape, hg.output, hg.size, fun k hk => by
      rcases Nat.lt_or_ge k W.heap.size with hlt | hge
      · exact hg.block k hlt (fun he => by injection he with he; omega)
      · exact absurd (Kd.R_lt HO g (by simp [Value.ownBlock])) (by omega)⟩, hg⟩
  have hmin : Nat.min (xs.length - i) (xs.length - (i + 1)) = xs.length - (i + 1) := Nat.min_eq_right (by omega)
  by_cases hl : i + 1 < xs.length
  · have HO' := HO
    obtain ⟨hok, inner, ⟨h1, h2⟩, hr⟩ := HO
    rcases h2 with ⟨hv, _⟩ | ⟨g', cap', cur, hv, hb, hh, hnc, hcm, hcs, htake⟩
    · cases hv
    injection hv with ha _ hc
    injection ha with ha
    injection ha with hg'
    subst hg'; subst hc
    have hA := hAs hl
    have hX := hAx hl
    subst hA; subst hX
    have hin : inner.length = xs.length * d.sz := hr.1
    have a1 : (i + 1) * d.sz + (xs.length - (i + 1)) * d.sz = xs.length * d.sz := by rw [← Nat.add_mul]; congr 1; omega
    have a2 : i * d.sz + (xs.length - (i + 1)) * d.sz ≤ xs.length * d.sz := by rw [← Nat.add_mul]; exact Nat.mul_le_mul_right _ (by omega)
    have a3 : xs.length * d.sz ≤ cur.size := by rw [hcs]; exact Nat.mul_le_mul_right _ hnc
    generalize hvs : (inner.drop (i * d.sz)).take ((xs.length - (i + 1)) * d.sz) = vs
    have hvl : vs.length = (xs.length - (i + 1)) * d.sz := by rw [← hvs, List.length_take, List.length_drop, hin]; omega
    have hsrc : ∀ j v, vs[j]? = some v → W.cell? ((⟨g, i * d.sz, none⟩ : Addr).add j) = some v := by
      intro j v hj
      have hjl : j < vs.length := (List.getElem?_eq_some_iff.1 hj).1
      rw [← hvs, List.getElem?_take_of_lt (by omega), List.getElem?_drop, ← htake, List.getElem?_take_of_lt (by omega), Array.getElem?_toList] at hj
      rw [add_at, cell_of_row W g _ cur e (0, 0) hh]
      exact hj
    have hone : ∀ v ∈ vs, v.oneCell' = true := by
      intro v hv'
      have hv2 : v ∈ inner := by rw [← hvs] at hv'; exact List.mem_of_mem_drop (List.mem_of_mem_take hv')
      obtain ⟨q, hq⟩ := List.mem_iff_getElem?.1 hv2
      have hql : q < xs.length * d.sz := by rw [← hin]; exact (List.getElem?_eq_some_iff.1 hq).1
      have hz : 0 < d.sz := by
        rcases Nat.eq_zero_or_pos d.sz with h0 | h0
        · rw [h0, Nat.mul_zero] at hql; omega
        · exact h0
      have hqx : q / d.sz < xs.length := Nat.div_lt_of_lt_mul (by rwa [Nat.mul_comm] at hql)
      have hM := hr.2 (q / d.sz) _ (List.getElem?_eq_getElem hqx)
      refine d.K_one (d.K_of_M hM) v ?_
      have e1 : ((inner.drop (q / d.sz * d.sz)).take d.sz)[q % d.sz]? = some v := by
        rw [List.getElem?_take_of_lt (Nat.mod_lt _ hz), List.getElem?_drop, Nat.mul_comm, Nat.div_add_mod]
        exact hq
      exact List.mem_of_getElem? e1
    have hrun := run_copy_wide (P := P) W t t ty e g ((i + 1) * d.sz) (xs.length - (i + 1)) cs' ⟨g, i * d.sz, none⟩ (xs.length - i) cx' d.sz _ vs ht hinfo hmin hvl hsrc
      (fun j hj => by rw [cell_of_row W g _ cur e (0, 0) hh]; simp; omega) (fun j _ => blk_frozen hh _) hone
    obtain ⟨cur', h3, h4, h5⟩ := setCells_row vs ((i + 1) * d.sz) W cur hh (by omega)
    obtain ⟨s1, s2, s3, s4⟩ := setCells_same g vs ((i + 1) * d.sz) W
    have hg : W.grownBy (W.setCells g ((i + 1) * d.sz) vs) (some g) := ⟨s1, s2, s3, by rw [s4]; exact Nat.le_refl _, fun k _ hk => setCells_far vs _ k (fun he => hk (by rw [he]))⟩
    have hln : (xs.take (i + 1) ++ (xs.drop i).take (xs.length - (i + 1))).length = xs.length := by
      rw [List.length_append, List.length_take, List.length_take, List.length_drop]
      omega
    refine fin _ hrun ⟨hok, inner.take ((i + 1) * d.sz) ++ vs, ⟨?_, .inr ⟨g, cap, cur', by rw [hln], hb, h3, by rw [hln]; exact hnc, hcm, by rw [h4, hcs], ?_⟩⟩, ?_⟩ hg
    · rw [List.length_append, List.length_take, hvl, hln, hin]
      omega
    · rw [h5, hln]
      have e1 : ((i + 1) * d.sz + vs.length) = xs.length * d.sz := by omega
      have e2 : (cur.toList.take ((i + 1) * d.sz)).length = (i + 1) * d.sz := by rw [List.length_take, Array.length_toList]; omega
      rw [e1, List.take_append_of_le_length (by rw [List.length_append, e2, hvl]; omega), List.take_of_length_le (by rw [List.length_append, e2, hvl]; omega)]
      congr 1
      rw [← htake, List.take_take, Nat.min_eq_left (by omega)]
    · have r1 := Kd.reps_take (m := i + 1) hr (by omega)
      have r2 := Kd.reps_take (m := xs.length - (i + 1)) (Kd.reps_drop (m := i) hr) (by rw [List.length_drop]; omega)
      rw [hvs] at r2
      refine (Kd.reps_append r1 r2).imp_ fun p c hp => ?_
      exact d.M_move (w1 := W.setCells g ((i + 1) * d.sz) vs) (fun k hk => setCells_far vs _ k (fun he => hk.2 (by rw [he]; simp [Value.ownBlock]))) hp
  · have hz : xs.length - (i + 1) = 0 := by omega
    refine fin W ?_ ?_ (World.grownBy.refl W _)
    · rw [hz] at hmin ⊢
      exact run_copy_nil W t t ty e As Ax 0 cs' (xs.length - i) cx' d.sz ht hinfo hmin
    · rw [hz, List.take_zero, List.append_nil, List.take_of_length_le (by omega)]
      exact HO
theorem R_shift_step (d : Kd α) {w0 W : World} (base : Nat) {Kc : Act → World → Prop} (hw : Region.wanted o (yielded ops a.tmps) = true) (s x : Operand) (t e : TypeId)
    (ho : o.op = .call { callee := .builtin .copy, args := #[s, x], argTypes := #[t, t] }) (ht : P.underlying t = some (.slice e)) (hinfo : (P.info? e).map (·.size) = some d.sz)
    {g cap : Nat} (xs : List α) (i : Nat) (ok : Nat → Prop) (hi : i < xs.length) (As Ax : Option Addr) (cs' cx' : Nat)
    (hs : a.eval s = .slice As (xs.length - (i + 1)) cs') (hx : a.eval x = .slice Ax (xs.length - i) cx')
    (hAs : i + 1 < xs.length → As = some ⟨g, (i + 1) * d.sz, none⟩) (hAx : i + 1 < xs.length → Ax = some ⟨g, i * d.sz, none⟩)
    (HO : d.R e W base ok (.slice (some ⟨g, 0, none⟩) xs.length cap) xs) (HB : Below base w0 W)
    (h : ∀ w1, d.R e w1 base ok (.slice (some ⟨g, 0, none⟩) xs.length cap) (xs.take (i + 1) ++ (xs.drop i).take (xs.length - (i + 1))) → Below base w0 w1 → W.grownBy w1 (some g) → Kc (a.put o.dst (.int .i64 ((xs.length - (i + 1) : Nat) : Int))) w1) :
    if Region.wanted o (yielded ops a.tmps) = true then Oper.wp P o a W Kc Q else Kc (a.put o.dst undef) W := by
  obtain ⟨w1, hr, hrow, hb, hg⟩ := shift_run d base t o.type e ht hinfo xs i ok hi As Ax cs' cx' hAs hAx HO HB
  rw [if_pos hw]
  unfold Oper.wp execOp
  simp only [ho, resolve, invoke, builtin, Sem.run_bind, Sem.run_pure, Result.andThen_ok, List.map_toArray, List.map_cons, List.map_nil, hs, hx, hr]
  exact h w1 hrow hb hg
end
/-- where a text belongs among sorted ones, between two places -/
def moLow (ts : List ByteArray) (t : ByteArray) : Nat → Nat → Nat → Nat
  | 0, low, _ => low
  | n + 1, low, high => if low < high then (if Op.bytesLess (rdOf ByteArray.empty ts (((low + high) / 2 : Nat) : Int)).toList t.toList = true then moLow ts t n ((low + high) / 2 + 1) high else moLow ts t n low ((low + high) / 2)) else low
/-- a list with one more element at a place -/
def moPut {α : Type} (l : List α) (i : Nat) (x : α) : List α := l.take i ++ x :: l.drop i
/-- the figures of sets, each put where its text belongs -/
def moIns (k : Nat) (w h : Int) : List Int → List ByteArray → List (Int × Int × List Int × List Int) → Option (List (Int × Int × List Int × List Int))
  | [], _, fs => some fs
  | m :: r, ts, fs => (spec_sqFigure.f k w h m).bind fun x => (spec_fiText.f k x.1 x.2.1 x.2.2.1 x.2.2.2).bind fun t => moIns k w h r (moPut ts (moLow ts t ts.length 0 ts.length) t) (moPut fs (moLow ts t ts.length 0 ts.length) x)
def spec_moSorted.f (k : Nat) (w h : Int) (L : List Int) : Option (List (Int × Int × List Int × List Int)) := if L.length ≤ 1000000 then moIns k w h L [] [] else none
def spec_FirstSolution.f (k : Nat) (a0_0 : Int) (a0_1 : Int) (l0_2 : List Int) (l0_3 : List Int) (a0_4 : Int) (a0_5 : Bool) (a0_6 : Int) : Option (Int × Int × List Int × List Int × Bool) :=
  (spec_pzAsked.f k a0_0 a0_1 l0_2 l0_3 a0_4 a0_5 a0_6).bind fun r => if r.2 = true then (if r.1.length = 0 then some (0, 0, [], [], false) else (spec_moSorted.f k a0_0 a0_1 r.1).bind fun l => match l with
    | [] => none
    | x :: _ => some (x.1, x.2.1, x.2.2.1, x.2.2.2, true)) else some (0, 0, [], [], false)
def spec_Solutions.f (k : Nat) (a0_0 : Int) (a0_1 : Int) (l0_2 : List Int) (l0_3 : List Int) (a0_4 : Int) (a0_5 : Bool) (a0_6 : Int) : Option (List (Int × Int × List Int × List Int) × Bool) :=
  (spec_pzAsked.f k a0_0 a0_1 l0_2 l0_3 a0_4 a0_5 a0_6).bind fun r => if r.2 = true then (spec_moSorted.f k a0_0 a0_1 r.1).bind fun l => some (l, true) else some ([], false)
section
attribute [local go_sem] su_add
theorem moIns_cons {k : Nat} {a0 a1 m : Int} {r : List Int} {ts : List ByteArray} {fs res : List (Int × Int × List Int × List Int)} (h : moIns k a0 a1 (m :: r) ts fs = some res) : ∃ x1 x2 x3 x4 t, spec_sqFigure.f k a0 a1 m = some (x1, x2, x3, x4) ∧ spec_fiText.f k x1 x2 x3 x4 = some t ∧ moIns k a0 a1 r (moPut ts (moLow ts t ts.length 0 ts.length) t) (moPut fs (moLow ts t ts.length 0 ts.length) (x1, x2, x3, x4)) = some res := by
  rw [moIns] at h
  obtain ⟨⟨x1, x2, x3, x4⟩, h1, h⟩ := Option.bind_eq_some_iff.mp h
  obtain ⟨t, h2, h⟩ := Option.bind_eq_some_iff.mp h
  exact ⟨x1, x2, x3, x4, t, h1, h2, h⟩
theorem moLow_le (ts : List ByteArray) (t : ByteArray) : ∀ (n low high : Nat), low ≤ high → high ≤ ts.length → moLow ts t n low high ≤ ts.length
  | 0, low, high, h1, h2 => by rw [moLow]; omega
  | n + 1, low, high, h1, h2 => by
    rw [moLow]
    split
    · split
      · exact moLow_le ts t n _ _ (by omega) h2
      · exact moLow_le ts t n _ _ (by omega) (by omega)
    · omega
theorem moLow_fuel (ts : List ByteArray) (t : ByteArray) : ∀ (n g low high : Nat), high - low ≤ n → high - low ≤ g → moLow ts t n low high = moLow ts t g low high
  | 0, 0, _, _, _, _ => rfl
  | 0, g + 1, low, high, hn, _ => by simp [moLow, show ¬ low < high by omega]
  | n + 1, 0, low, high, _, hg => by simp [moLow, show ¬ low < high by omega]
  | n + 1, g + 1, low, high, hn, hg => by
    unfold moLow
    by_cases h : low < high
    · rw [if_pos h, if_pos h, moLow_fuel ts t n g _ _ (by omega) (by omega), moLow_fuel ts t n g low _ (by omega) (by omega)]
    · rw [if_neg h, if_neg h]
/-- what the copy and the store behind it leave -/
theorem moPut_of {α : Type} (l : List α) (z x : α) (i : Nat) (h : i ≤ l.length) : (((l ++ [z]).take (i + 1) ++ ((l ++ [z]).drop i).take ((l ++ [z]).length - (i + 1))).set i x) = moPut l i x := by
  apply List.ext_getElem?
  intro j
  have e1 : ((l ++ [z]).drop i).take ((l ++ [z]).length - (i + 1)) = l.drop i := by
    rw [List.drop_append_of_le_length h, List.length_append, List.length_singleton, List.take_append_of_le_length (by rw [List.length_drop]; omega), List.take_of_length_le (by rw [List.length_drop]; omega)]
  have e2 : ((l ++ [z]).take (i + 1)).length = i + 1 := by rw [List.length_take, List.length_append, List.length_singleton]; omega
  rw [e1]
  unfold moPut
  have e3 : (l.take i).length = i := by rw [List.length_take]; omega
  rcases Nat.lt_trichotomy j i with hj | hj | hj
  · rw [List.getElem?_set_ne (by omega), List.getElem?_append_left (by omega), List.getElem?_append_left (by omega), List.getElem?_take_of_lt (by omega), List.getElem?_take_of_lt hj, List.getElem?_append_left (by omega)]
  · subst hj
    rw [List.getElem?_set_self (by rw [List.length_append, e2]; omega), List.getElem?_append_right (by omega), e3]
    simp
  · rw [List.getElem?_set_ne (by omega), List.getElem?_append_right (by omega), e2, List.getElem?_append_right (by omega), e3]
    obtain ⟨q, rfl⟩ : ∃ q, j = i + q + 1 := ⟨j - i - 1, by omega⟩
    rw [show i + q + 1 - i = q + 1 by omega, List.getElem?_cons_succ, show i + q + 1 - (i + 1) = q by omega]
theorem FgN.grownS {b : Nat} {ok : Nat → Prop} {W W' : World} {q : FgV} {row : Option Nat} (h : FgN b ok W q) (hg : W.grownBy W' row) (hr : ∀ g, row = some g → ∃ cs, W.heap[g]? = some (.cells cs 9 (0, 0))) : FgN b ok W' q := by
  cases row with
  | none => exact ⟨Kd.R_grown h.r2 hg (fun _ _ => by simp), Kd.R_grown h.r3 hg (fun _ _ => by simp), h.ne⟩
  | some g =>
    obtain ⟨cs, hc⟩ := hr g rfl
    exact ⟨Kd.R_mono (Kd.R_grown (Kd.R_types h.r2 hc (by decide)) hg (fun k hk e => hk.2 (Option.some.inj e))) (fun _ hk => hk.1), Kd.R_mono (Kd.R_grown (Kd.R_types h.r3 hc (by decide)) hg (fun k hk e => hk.2 (Option.some.inj e))) (fun _ hk => hk.1), h.ne⟩
theorem str_info : (Tryz.prog.info? 9).map (fun i => (i.zero, i.size, i.bytes)) = some (some (.string ⟨#[]⟩), 1, 16) := by kernel_rfl
theorem row_cut {P : Program} (t e : TypeId) {i : TypeInfo} (ht : P.underlying t = some (.slice e)) (hi : P.info? e = some i) (size : Nat) (hsz : i.size = size) (g n c : Nat) (j : Int) (m : Nat) (hj : j = m) (hm : m ≤ n) (hc : n ≤ c) :
    ∃ A c', (∀ W : World, (Instr.slice t (.slice (some ⟨g, 0, none⟩) n c) (some (.int .i64 j)) none none).run P W = .ok (.slice A (n - m) c') W) ∧ (m < n → A = some ⟨g, m * size, none⟩) := by
  subst hj
  refine ⟨_, _, fun W => by have := cut_from t e .i64 ht hi size hsz (some ⟨g, 0, none⟩) n c (m : Int) (by omega) (by omega) W; rw [Int.toNat_natCast] at this; exact this, fun hlt => ?_⟩
  rw [if_neg (by omega), Option.map_some, add_at, Nat.zero_add]
theorem kfg_type (W : World) {h0 : Nat} {ok : Nat → Prop} {g n c : Nat} {xs : List FgV} (h : Kd.R kfg 30 W h0 ok (.slice (some ⟨g, 0, none⟩) n c) xs) : ∀ k, some g = some k → ∃ cs, W.heap[k]? = some (.cells cs 30 (0, 0)) := fun k e => Kd.R_typed h k (by rw [← e]; rfl)
set_option maxHeartbeats 16000000 in
set_option maxRecDepth 100000 in
theorem spec_moSorted.calls (k : Nat) (a0 a1 : Int) (A : Option Addr) (c : Nat) (L : List Int) (r : List (Int × Int × List Int × List Int)) (w : World) (hr : Kd.C (Kd.int .i64) w A L.length L) (hc : L.length ≤ c) (h : spec_moSorted.f k a0 a1 L = some r) :
    Calls Tryz.prog 48 #[.int .i64 a0, .int .i64 a1, .slice A L.length c] w fun e w' => ∃ v qs, e = .returned v ∧ qs.map fgP = r ∧ Kd.R kfg 30 w' w.heap.size (fun _ => True) v qs ∧ (∀ q ∈ qs, FgN w.heap.size (fun _ => True) w' q) ∧ Below w.heap.size w w' := by
  have HR := Aside0.mk hr
  unfold spec_moSorted.f at h
  by_cases hbig : L.length ≤ 1000000
  case neg => rw [if_neg hbig] at h; cases h
  rw [if_pos hbig] at h
  have HF := Aside0.mk h
  clear hr h
  have hu1 := Tryz.underlying30
  go_enter Tryz.func48, Tryz.ntmps48
  go_wp2_with fail
  go_loopg [7, 8, 18] L.length (fun gg v7 v8 v18 w' => ∃ (i : Nat) (qs : List FgV) (ts : List ByteArray), i ≤ L.length ∧ L.length - i ≤ gg ∧ v18 = .int .i64 i ∧ Aside0 (qs.length = i ∧ ts.length = i) ∧ Aside0 (Kd.R kfg 30 w' w.heap.size (fun _ => True) v7 qs) ∧ Aside0 (Kd.R Kd.string 9 w' w.heap.size (fun _ => True) v8 ts) ∧ Aside0 (∀ q ∈ qs, FgN w.heap.size (fun _ => True) w' q) ∧ Aside0 (moIns k a0 a1 (L.drop i) ts (qs.map fgP) = some r) ∧ Aside0 (Below w.heap.size w w'))
  case atStart => exact ⟨0, [], [], Nat.zero_le _, by omega, rfl, ⟨rfl, rfl⟩, ⟨Kd.R_nil _ _ _ _ _⟩, ⟨Kd.R_nil _ _ _ _ _⟩, ⟨by simp⟩, HF, ⟨Below.refl _ _⟩⟩
  case round =>
    clear HF
    obtain ⟨i, qs, ts, hi, hg, rfl, HN, HL, HS, HQ, HF, HB⟩ := hrel
    by_cases hlt : i < L.length
    · have hltz : (i : Int) < (L.length : Int) := by omega
      have hlt' := Aside0.mk hlt
      have hrd : rd L (i : Int) = L[i] := by unfold rd; rw [Int.toNat_natCast, List.getD_eq_getElem?_getD, List.getElem?_eq_getElem hlt]; rfl
      obtain ⟨x1, x2, x3, x4, t, hx, ht, hrest⟩ := moIns_cons (List.drop_eq_getElem_cons hlt ▸ HF.out)
      rw [← hrd] at hx
      have HX1 : Aside0 (spec_sqFigure.f k a0 a1 (rd L (i : Int)) = some (x1, x2, x3, x4)) := ⟨hx⟩
      have HT1 := Aside0.mk ht
      have HF2 := Aside0.mk hrest
      have hll := moLow_le ts t ts.length 0 ts.length (Nat.zero_le _) (Nat.le_refl _)
      obtain ⟨low, hlow⟩ : ∃ low, moLow ts t ts.length 0 ts.length = low := ⟨_, rfl⟩
      rw [hlow] at hll HF2
      rw [HN.out.2] at hlow hll
      have HLo := Aside0.mk hlow
      have HLl := Aside0.mk hll
      obtain ⟨ad, rfl, hcell⟩ := Kd.at_int (Kd.C_below HR.out HB.out) (i : Int) (by omega) (by omega)
      rw [Int.toNat_natCast] at hcell
      obtain ⟨AS, cS, rfl⟩ := Kd.R_slice HS.out
      have hts := HN.out.2
      rw [hts] at HS
      have HSn := HS
      clear hx ht hrest hrd hlt HF hlow hll
      go_wp2_with (first
        | (go_at_call 40; (with_reducible refine (spec_sqFigure.calls k a0 a1 (rd L (i : Int)) x1 x2 x3 x4 _ HX1.out).mono ?_); rintro e w3 ⟨v2, v3, rfl, ho2, ho3, hb3⟩; obtain ⟨A2, c2, rfl⟩ := Kd.R_slice ho2; obtain ⟨A3, c3, rfl⟩ := Kd.R_slice ho3; have HB3 := Aside0.mk (below_step HB.out hb3); have HL3 := Aside0.mk (Kd.R_below HL.out hb3); have HS3 := Aside0.mk (Kd.R_below HS.out hb3); have HM := Aside0.mk (show FgN w.heap.size (fun _ => True) w3 ⟨x1, x2, A2, c2, x3, A3, c3, x4⟩ from ⟨Kd.R_mono (Kd.R_lower ho2 (below_size HB.out)) (fun _ _ => trivial), Kd.R_mono (Kd.R_lower ho3 (below_size HB.out)) (fun _ _ => trivial), fun g hg => ho2.1 g hg⟩); have HQ3 := Aside0.mk (fun q hq => (HQ.out q hq).below hb3); clear ho2 ho3 hb3 HL HS HQ HB hcell HSn)
        | ((with_reducible refine gate_dst (N := 11) rfl ?_); refine zbx 11 #[.int .i64 0, .int .i64 0, .slice none 0 0, .slice none 0 0] 30 ?_; intro G hG w5 hboxG hbG; have HG := Aside0.mk hboxG; have HB5 := Aside0.mk (below_step HB3.out hbG); have hGw : w3.heap.size ≤ G := Nat.le_of_eq hG.symm; have HGe := Aside0.mk (Nat.le_trans (below_size HB3.out) hGw); have HL5 := Aside0.mk (Kd.R_mono (ok' := fun k => k ≠ G) (Kd.R_below (Kd.R_bound HL3.out) hbG) (fun k hk => by have := hk.2.2.1; omega)); have HS5 := Aside0.mk (Kd.R_below HS3.out hbG); have HM5 := Aside0.mk (HM.out.below hbG); have HQ5 := Aside0.mk (fun q hq => (HQ3.out q hq).below hbG); clear hG hboxG hbG hGw HB3 HL3 HS3 HM HQ3; obtain ⟨q0, q1, q2, q3, f0, f1, f2, f3⟩ := blk4 HG)
        | (go_at_call 71; obtain ⟨hb6, hG6⟩ := su_put HB5.out HGe.out HG.out (.int .i64 x1) (.int .i64 x2) (.slice A2 x3.length c2) (.slice A3 x4.length c3); have HM6 := Aside0.mk ((HM5.out.apart HG.out).step (W' := ((((w5.setCell ⟨G, 0, none⟩ (.int .i64 x1)).setCell ⟨G, 1, none⟩ (.int .i64 x2)).setCell ⟨G, 2, none⟩ (.slice A2 x3.length c2)).setCell ⟨G, 3, none⟩ (.slice A3 x4.length c3))) (fun k hk _ => by rw [Below.heap_setCell _ _ _ k hk.2, Below.heap_setCell _ _ _ k hk.2, Below.heap_setCell _ _ _ k hk.2, Below.heap_setCell _ _ _ k hk.2])); have HQ6 := Aside0.mk (fun q hq => ((HQ5.out q hq).apart HG.out).step (W' := ((((w5.setCell ⟨G, 0, none⟩ (.int .i64 x1)).setCell ⟨G, 1, none⟩ (.int .i64 x2)).setCell ⟨G, 2, none⟩ (.slice A2 x3.length c2)).setCell ⟨G, 3, none⟩ (.slice A3 x4.length c3))) (fun k hk _ => by rw [Below.heap_setCell _ _ _ k hk.2, Below.heap_setCell _ _ _ k hk.2, Below.heap_setCell _ _ _ k hk.2, Below.heap_setCell _ _ _ k hk.2])); have HL6 := Aside0.mk (Kd.R_step (w1 := ((((w5.setCell ⟨G, 0, none⟩ (.int .i64 x1)).setCell ⟨G, 1, none⟩ (.int .i64 x2)).setCell ⟨G, 2, none⟩ (.slice A2 x3.length c2)).setCell ⟨G, 3, none⟩ (.slice A3 x4.length c3))) HL5.out (fun k hk _ => by rw [Below.heap_setCell _ _ _ k hk, Below.heap_setCell _ _ _ k hk, Below.heap_setCell _ _ _ k hk, Below.heap_setCell _ _ _ k hk])); have HS6 := Aside0.mk (zF4 (i0 := 0) (i1 := 1) (i2 := 2) (i3 := 3) (c0 := .int .i64 x1) (c1 := .int .i64 x2) (c2 := .slice A2 x3.length c2) (c3 := .slice A3 x4.length c3) HS5 HG); obtain ⟨_, e1, e2⟩ := Kd.R_reads' HM6.out.r2; obtain ⟨_, e3, e4⟩ := Kd.R_reads' HM6.out.r3; (with_reducible refine (spec_fiText.calls k x1 x2 A2 c2 x3 A3 c3 x4 t _ e2 e1 e4 e3 HT1.out).mono ?_); rintro e w7 ⟨rfl, hb7⟩; have HG7 := Aside0.mk (blk_below hG6 hb7); have HB7 := Aside0.mk (below_step hb6 hb7); have HL7 := Aside0.mk (Kd.R_below HL6.out hb7); have HS7 := Aside0.mk (Kd.R_below HS6.out hb7); have HM7 := Aside0.mk ((HM6.out.mono (fun _ h => h.1)).below hb7); have HQ7 := Aside0.mk (fun q hq => ((HQ6.out q hq).mono (ok' := fun _ => True) (fun _ _ => trivial)).below hb7); clear e1 e2 e3 e4 hb6 hG6 hb7 HG HB5 HL5 HS5 HM5 HQ5 HL6 HS6 HM6 HQ6 q0 q1 q2 q3 f0 f1 f2 f3))
      go_loopg [13, 14] i (fun g2 v13 v14 w' => ∃ (lo hi2 : Nat), v13 = .int .i64 lo ∧ v14 = .int .i64 hi2 ∧ lo ≤ hi2 ∧ hi2 ≤ i ∧ hi2 - lo ≤ g2 ∧ w' = w7 ∧ moLow ts t g2 lo hi2 = low)
      case atStart => exact ⟨0, i, rfl, rfl, Nat.zero_le _, Nat.le_refl _, by omega, rfl, HLo.out⟩
      case round =>
        obtain ⟨lo, hi2, rfl, rfl, hl1, hl2, hl3, rfl, hl4⟩ := hrel
        by_cases hlh : lo < hi2
        · have hlz : (lo : Int) < (hi2 : Int) := by omega
          obtain ⟨g', rfl⟩ : ∃ g', gk = g' + 1 := ⟨gk - 1, by omega⟩
          simp only [moLow, hlh, if_true] at hl4
          obtain ⟨ad2, rfl, hcell⟩ := Kd.at_string (Kd.R_reads' HS7.out).2.2 (((lo + hi2) / 2 : Nat) : Int) (by omega) (by rw [HN.out.2]; omega)
          rw [Int.toNat_natCast] at hcell
          generalize hy : rdOf ByteArray.empty ts (((lo + hi2) / 2 : Nat) : Int) = y at hcell hl4
          clear hy
          cases hyx : Op.bytesLess y.toList t.toList <;> simp only [hyx, if_true, Bool.false_eq_true, if_false] at hl4
          · go_wp2_with fail
            go_roundg ((lo + hi2) / 2 - lo)
            case measure => omega
            case rel => exact ⟨lo, (lo + hi2) / 2, rfl, by rw [show ((lo : Int) + (hi2 : Int)) / 2 = (((lo + hi2) / 2 : Nat) : Int) by omega], by omega, by omega, Nat.le_refl _, rfl, by rw [← hl4]; exact moLow_fuel _ _ _ _ _ _ (Nat.le_refl _) (by omega)⟩
          · go_wp2_with fail
            go_roundg (hi2 - ((lo + hi2) / 2 + 1))
            case measure => omega
            case rel => exact ⟨(lo + hi2) / 2 + 1, hi2, by rw [show ((lo : Int) + (hi2 : Int)) / 2 + 1 = (((lo + hi2) / 2 + 1 : Nat) : Int) by omega], rfl, by omega, hl2, Nat.le_refl _, rfl, by rw [← hl4]; exact moLow_fuel _ _ _ _ _ _ (Nat.le_refl _) (by omega)⟩
        · have hlz : ¬ (lo : Int) < (hi2 : Int) := by omega
          obtain rfl : lo = low := by
            rw [← hl4]
            cases gk <;> simp [moLow, hlh]
          have hli : (lo : Int) ≤ i := by omega
          have HLn := Aside0.mk (show i + 1 ≤ 1000000 by omega)
          clear hl4 hl1 hl3 hlz
          go_wp2_with (first
            | ((with_reducible refine gate_builtin (b := .append) (xs := #[.tmp 46, .tmp 47]) rfl ?_); at_builtin; refine Kd.R_append Kd.string (w0 := w) w.heap.size rfl (.tmp 46) (.tmp 47) 67 9 (.string ⟨#[]⟩) 16 rfl Tryz.underlying67 str_info rfl (by decide) (by omega) (.slice AS i cS) ts ⟨#[]⟩ [.string ⟨#[]⟩] (fun _ => True) (fun _ => False) rfl rfl rfl (fun _ hk => hk.elim) (fun _ _ => trivial) HS7.out HB7.out (below_size HB7.out) (by have := HLn.out; have := HN.out.2; omega) ?_; intro v8 w8 ho8 hb8 hg8 hat8; have HB8 := Aside0.mk hb8; have hrow := Kd.R_typed HS7.out; have HG8 := Aside0.mk (blk_grown HG7.out hg8 (Kd.R_ne HS7.out HG7.out (by decide))); have HL8 := Aside0.mk (Kd.R_over' (v := .slice AS i cS) HL7.out hrow (by decide) hg8); have HM8 := Aside0.mk (HM7.out.grownS hg8 hrow); have HQ8 := Aside0.mk (fun q hq => (HQ7.out q hq).grownS hg8 hrow); have HS8 := Aside0.mk ho8; clear ho8 hb8 hg8 hat8 hrow HB7 HG7 HL7 HM7 HQ7 HS7))
          obtain ⟨ts1, hts1⟩ : ∃ ts1, ts1 = ts ++ [⟨#[]⟩] := ⟨_, rfl⟩
          rw [← hts1] at HS8
          have HT8 := Aside0.mk hts1
          have HE8 := Aside0.mk (show ts1.length = i + 1 by rw [hts1, List.length_append, HN.out.2]; rfl)
          clear hts1
          obtain ⟨g8, p8, rfl, _, _, _⟩ := Kd.R_form HS8.out (by have := HE8.out; omega)
          have HLi := Aside0.mk (show lo ≤ i from HLl.out)
          obtain ⟨i9, hi9, hz9⟩ := Option.map_eq_some_iff.1 (show (Tryz.prog.info? 9).map (·.size) = some 1 by kernel_rfl)
          obtain ⟨As8, cs8, hcutS, hAs8⟩ := row_cut 67 9 Tryz.underlying67 hi9 1 hz9 g8 ts1.length p8 (wrap64 ((lo : Int) + 1)) (lo + 1) (by have := HLi.out; have := HLn.out; unfold wrap64; omega) (by have := HE8.out; have := HLi.out; omega) (Kd.R_reads' HS8.out).2.1
          obtain ⟨Ax8, cx8, hcutX, hAx8⟩ := row_cut 67 9 Tryz.underlying67 hi9 1 hz9 g8 ts1.length p8 (lo : Int) lo rfl (by have := HE8.out; have := HLi.out; omega) (Kd.R_reads' HS8.out).2.1
          have HA8 := Aside0.mk (And.intro hAs8 (fun h : lo + 1 < ts1.length => hAx8 (by omega)))
          clear hAs8 hAx8 hi9 hz9
          refine start_ (n := 8) (S := fun w' => True) (ds := []) #[false, false, false, false, false, false, false, false] (by kernel_rfl) rfl rfl trivial (fun hHeld => ?_)
          refine pure_ (i := 0) (N := some 49) (v := ?_) (a' := ?_) #[true, false, false, false, false, false, false, false] rfl rfl (by kernel_rfl) (fun _ _ _ h => h) (Or.inl ⟨by rfl, ?_⟩) ?_ ?_
          rotate_left
          · intro w'
            go_simp
            with_reducible rfl
          rotate_left
          · simp only [Act.put, List.setIfInBounds_toArray, List.set_cons_zero, List.set_cons_succ, i64_w, i32_w]
            rfl
          refine pure_ (i := 1) (N := some 50) (v := ?_) (a' := ?_) #[true, true, false, false, false, false, false, false] rfl rfl (by kernel_rfl) (fun _ _ _ h => h) (Or.inl ⟨by rfl, ?_⟩) ?_ ?_
          rotate_left
          · intro w'
            go_simp
            with_reducible rfl
          rotate_left
          · simp only [Act.put, List.setIfInBounds_toArray, List.set_cons_zero, List.set_cons_succ, i64_w, i32_w]
            rfl
          refine pure_ (i := 2) (N := some 51) (v := ?_) (a' := ?_) #[true, true, true, false, false, false, false, false] rfl rfl (by kernel_rfl) (fun _ _ _ h => h) (Or.inl ⟨by rfl, ?_⟩) ?_ ?_
          rotate_left
          · intro w'
            go_simp
            with_reducible rfl
          rotate_left
          · simp only [Act.put, List.setIfInBounds_toArray, List.set_cons_zero, List.set_cons_succ, i64_w, i32_w]
            rfl
          refine pure_ (i := 3) (N := some 52) (v := ?_) (a' := ?_) #[true, true, true, true, false, false, false, false] rfl rfl (by kernel_rfl) (fun _ _ _ h => h) (Or.inl ⟨by rfl, ?_⟩) ?_ ?_
          rotate_left
          · intro w'
            go_simp
            with_reducible rfl
          rotate_left
          · simp only [Act.put, List.setIfInBounds_toArray, List.set_cons_zero, List.set_cons_succ, i64_w, i32_w]
            rfl
          refine pure_ (i := 4) (N := some 53) (v := ?_) (a' := ?_) #[true, true, true, true, true, false, false, false] rfl rfl (by kernel_rfl) (fun _ _ _ h => h) (Or.inl ⟨by rfl, ?_⟩) ?_ ?_
          rotate_left
          · intro w'
            go_simp
            with_reducible rfl
          rotate_left
          · simp only [Act.put, List.setIfInBounds_toArray, List.set_cons_zero, List.set_cons_succ, i64_w, i32_w]
            rfl
          refine pure_ (i := 5) (N := some 54) (v := ?_) (a' := ?_) #[true, true, true, true, true, true, false, false] rfl rfl (by kernel_rfl) (fun _ _ _ h => h) (Or.inl ⟨by rfl, ?_⟩) ?_ ?_
          rotate_left
          · intro w'
            go_simp
            with_reducible rfl
          rotate_left
          · simp only [Act.put, List.setIfInBounds_toArray, List.set_cons_zero, List.set_cons_succ, i64_w, i32_w]
            rfl
          refine pure_ (i := 6) (N := some 55) (v := ?_) (a' := ?_) #[true, true, true, true, true, true, true, false] rfl rfl (by kernel_rfl) (fun _ _ _ h => h) (Or.inl ⟨by rfl, ?_⟩) ?_ ?_
          rotate_left
          · intro w'
            go_simp
            with_reducible rfl
          rotate_left
          · simp only [Act.put, List.setIfInBounds_toArray, List.set_cons_zero, List.set_cons_succ, i64_w, i32_w]
            rfl
          refine one_ (i := 7) (N := some 56) #[true, true, true, true, true, true, true, true] rfl rfl (by kernel_rfl) (by decide) (fun K hK => ?_)
          refine R_shift_step Kd.string (w0 := w) w.heap.size (by rfl) (.tmp 52) (.tmp 55) 67 9 rfl Tryz.underlying67 (by kernel_rfl) ts1 lo (fun _ => True) ?hi As8 Ax8 cs8 cx8 ?hs ?hx HA8.out.1 HA8.out.2 (Kd.R_drew HS8.out) (below_drew1 HB8.out) ?_
          case hi => have := HE8.out; have := HLi.out; omega
          case hs => rfl
          case hx => rfl
          intro w9 ho9 hb9 hg9
          have hrow := Kd.R_typed (Kd.R_drew HS8.out)
          have HB9 := Aside0.mk hb9
          have HG9 := Aside0.mk (blk_grown (blk_drew HG8.out) hg9 (Kd.R_ne HS8.out HG8.out (by decide)))
          have HL9 := Aside0.mk (Kd.R_over' (v := .slice (some ⟨g8, 0, none⟩) ts1.length p8) (Kd.R_drew HL8.out) hrow (by decide) hg9)
          have hd8 := below_drew1 (Below.refl w8.heap.size w8)
          have HM9 := Aside0.mk ((HM8.out.below hd8).grownS hg9 hrow)
          have HQ9 := Aside0.mk (fun q hq => ((HQ8.out q hq).below hd8).grownS hg9 hrow)
          have HS9 := Aside0.mk ho9
          clear ho9 hb9 hg9 hrow hd8 HB8 HG8 HL8 HM8 HQ8 HS8
          refine hK.out _ _ trivial (fun hHeld => ?_)
          clear hK K
          refine norm_ (a' := ?_) ?_ ?_
          rotate_left
          · show Act.put _ (some 56) _ = _
            simp only [Act.put, List.setIfInBounds_toArray, List.set_cons_zero, List.set_cons_succ, i64_w, i32_w]
            rfl
          refine done_ (by kernel_rfl) ?_

          clear hcutS hcutX
          have HI9 := Aside0.mk (show lo < ts1.length by have := HE8.out; have := HLi.out; omega)
          have hix : (lo : Int) < (ts1.length : Int) := by have := HI9.out; omega
          go_wp2_with (first
            | ((with_reducible refine gate_ (.store 9 (.tmp 60) (.tmp 59)) rfl ?_); obtain ⟨c9, hc9, _, hcc9, _⟩ := Kd.R_elem HS9.out ⟨#[]⟩ (lo : Int) (by omega) hix; refine Kd.R_store Kd.string (w0 := w) w.heap.size rfl rfl 9 (.tmp 60) (.tmp 59) rfl 9 (lo : Int) 0 _ t (.string t) [.string t] c9 (fun _ => True) (fun _ => False) rfl (by show lo = (lo : Int).toNat * 1 + 0; omega) rfl rfl (by kernel_rfl) (by simp; rfl) HS9.out (by omega) hix hc9 hcc9 (Nat.le_refl _) (by rw [List.drop_of_length_le (by rw [hc9]; exact Nat.le_refl _)]; rfl) (fun _ hk => hk.elim) HB9.out ?_; intro w10 ho10 hb10 hg10; have hrow := Kd.R_typed HS9.out; have HB10 := Aside0.mk hb10; have HG10 := Aside0.mk (blk_grown HG9.out hg10 (Kd.R_ne HS9.out HG9.out (by decide))); have HL10 := Aside0.mk (Kd.R_over' (v := .slice (some ⟨g8, 0, none⟩) ts1.length p8) HL9.out hrow (by decide) hg10); have HM10 := Aside0.mk (HM9.out.grownS hg10 hrow); have HQ10 := Aside0.mk (fun q hq => (HQ9.out q hq).grownS hg10 hrow); have HS10 := Aside0.mk (show Kd.R Kd.string 9 w10 w.heap.size (fun _ => True) (.slice (some ⟨g8, 0, none⟩) ts1.length p8) (moPut ts lo t) from by have e := moPut_of ts ⟨#[]⟩ t lo (by have := HN.out.2; have := HLi.out; omega); rw [← HT8.out] at e; rw [← e]; exact ho10); clear hc9 hcc9 ho10 hb10 hg10 hrow HB9 HG9 HL9 HM9 HQ9 HS9)
            | ((with_reducible refine gate_builtin (b := .append) (xs := #[.tmp 61, .tmp 63]) rfl ?_); at_builtin; refine Kd.R_append kfg (w0 := w) w.heap.size rfl (.tmp 61) (.tmp 63) 43 30 (.agg #[.int .i64 0, .int .i64 0, .slice none 0 0, .slice none 0 0]) 64 rfl Tryz.underlying43 fg_info rfl (by decide) (by omega) u7 qs (⟨0, 0, none, 0, [], none, 0, []⟩ : FgV) (fgC ⟨0, 0, none, 0, [], none, 0, []⟩) (fun k => k ≠ G) (fun _ => False) rfl rfl rfl (fun _ hk => hk.elim) (fun k hk e => by have := blk_lt HG10.out; omega) HL10.out HB10.out (below_size HB10.out) (by have := HLn.out; have := HN.out.1; omega) ?_; intro v11 w11 ho11 hb11 hg11 hat11; have HB11 := Aside0.mk hb11; have hrow := Kd.R_typed HL10.out; have HG11 := Aside0.mk (blk_grown HG10.out hg11 (Kd.R_away HL10.out (fun _ h => h))); have HS11 := Aside0.mk (Kd.R_over' (v := u7) HS10.out hrow (by decide) hg11); have HM11 := Aside0.mk (HM10.out.grown hg11 hrow); have HQ11 := Aside0.mk (fun q hq => (HQ10.out q hq).grown hg11 hrow); have HL11 := Aside0.mk ho11; clear ho11 hb11 hg11 hat11 hrow HB10 HG10 HL10 HM10 HQ10 HS10))
          obtain ⟨qs1, hqs1⟩ : ∃ qs1, qs1 = qs ++ [(⟨0, 0, none, 0, [], none, 0, []⟩ : FgV)] := ⟨_, rfl⟩
          rw [← hqs1] at HL11
          have HT11 := Aside0.mk hqs1
          have HE11 := Aside0.mk (show qs1.length = i + 1 by rw [hqs1, List.length_append, HN.out.1]; rfl)
          clear hqs1
          obtain ⟨g11, p11, rfl, _, _, _⟩ := Kd.R_form HL11.out (by have := HE11.out; omega)
          obtain ⟨i11, hi11, hz11⟩ := Option.map_eq_some_iff.1 (show (Tryz.prog.info? 30).map (·.size) = some 4 by kernel_rfl)
          obtain ⟨As11, cs11, hcutS, hAs11⟩ := row_cut 43 30 Tryz.underlying43 hi11 4 hz11 g11 qs1.length p11 (wrap64 ((lo : Int) + 1)) (lo + 1) (by have := HLi.out; have := HLn.out; unfold wrap64; omega) (by have := HE11.out; have := HLi.out; omega) (Kd.R_reads' HL11.out).2.1
          obtain ⟨Ax11, cx11, hcutX, hAx11⟩ := row_cut 43 30 Tryz.underlying43 hi11 4 hz11 g11 qs1.length p11 (lo : Int) lo rfl (by have := HE11.out; have := HLi.out; omega) (Kd.R_reads' HL11.out).2.1
          have HA11 := Aside0.mk (And.intro hAs11 (fun h : lo + 1 < qs1.length => hAx11 (by omega)))
          clear hAs11 hAx11 hi11 hz11
          refine start_ (n := 8) (S := fun w' => True) (ds := []) #[false, false, false, false, false, false, false, false] (by kernel_rfl) rfl rfl trivial (fun hHeld => ?_)
          refine pure_ (i := 0) (N := some 65) (v := ?_) (a' := ?_) #[true, false, false, false, false, false, false, false] rfl rfl (by kernel_rfl) (fun _ _ _ h => h) (Or.inl ⟨by rfl, ?_⟩) ?_ ?_
          rotate_left
          · intro w'
            go_simp
            with_reducible rfl
          rotate_left
          · simp only [Act.put, List.setIfInBounds_toArray, List.set_cons_zero, List.set_cons_succ, i64_w, i32_w]
            rfl
          refine pure_ (i := 1) (N := some 66) (v := ?_) (a' := ?_) #[true, true, false, false, false, false, false, false] rfl rfl (by kernel_rfl) (fun _ _ _ h => h) (Or.inl ⟨by rfl, ?_⟩) ?_ ?_
          rotate_left
          · intro w'
            go_simp
            with_reducible rfl
          rotate_left
          · simp only [Act.put, List.setIfInBounds_toArray, List.set_cons_zero, List.set_cons_succ, i64_w, i32_w]
            rfl
          refine pure_ (i := 2) (N := some 67) (v := ?_) (a' := ?_) #[true, true, true, false, false, false, false, false] rfl rfl (by kernel_rfl) (fun _ _ _ h => h) (Or.inl ⟨by rfl, ?_⟩) ?_ ?_
          rotate_left
          · intro w'
            go_simp
            with_reducible rfl
          rotate_left
          · simp only [Act.put, List.setIfInBounds_toArray, List.set_cons_zero, List.set_cons_succ, i64_w, i32_w]
            rfl
          refine pure_ (i := 3) (N := some 68) (v := ?_) (a' := ?_) #[true, true, true, true, false, false, false, false] rfl rfl (by kernel_rfl) (fun _ _ _ h => h) (Or.inl ⟨by rfl, ?_⟩) ?_ ?_
          rotate_left
          · intro w'
            go_simp
            with_reducible rfl
          rotate_left
          · simp only [Act.put, List.setIfInBounds_toArray, List.set_cons_zero, List.set_cons_succ, i64_w, i32_w]
            rfl
          refine pure_ (i := 4) (N := some 69) (v := ?_) (a' := ?_) #[true, true, true, true, true, false, false, false] rfl rfl (by kernel_rfl) (fun _ _ _ h => h) (Or.inl ⟨by rfl, ?_⟩) ?_ ?_
          rotate_left
          · intro w'
            go_simp
            with_reducible rfl
          rotate_left
          · simp only [Act.put, List.setIfInBounds_toArray, List.set_cons_zero, List.set_cons_succ, i64_w, i32_w]
            rfl
          refine pure_ (i := 5) (N := some 70) (v := ?_) (a' := ?_) #[true, true, true, true, true, true, false, false] rfl rfl (by kernel_rfl) (fun _ _ _ h => h) (Or.inl ⟨by rfl, ?_⟩) ?_ ?_
          rotate_left
          · intro w'
            go_simp
            with_reducible rfl
          rotate_left
          · simp only [Act.put, List.setIfInBounds_toArray, List.set_cons_zero, List.set_cons_succ, i64_w, i32_w]
            rfl
          refine pure_ (i := 6) (N := some 71) (v := ?_) (a' := ?_) #[true, true, true, true, true, true, true, false] rfl rfl (by kernel_rfl) (fun _ _ _ h => h) (Or.inl ⟨by rfl, ?_⟩) ?_ ?_
          rotate_left
          · intro w'
            go_simp
            with_reducible rfl
          rotate_left
          · simp only [Act.put, List.setIfInBounds_toArray, List.set_cons_zero, List.set_cons_succ, i64_w, i32_w]
            rfl
          refine one_ (i := 7) (N := some 72) #[true, true, true, true, true, true, true, true] rfl rfl (by kernel_rfl) (by decide) (fun K hK => ?_)
          refine R_shift_step kfg (w0 := w) w.heap.size (by rfl) (.tmp 68) (.tmp 71) 43 30 rfl Tryz.underlying43 (by kernel_rfl) qs1 lo (fun k => k ≠ G) ?hi As11 Ax11 cs11 cx11 ?hs ?hx HA11.out.1 HA11.out.2 (Kd.R_drew HL11.out) (below_drew1 HB11.out) ?_
          case hi => have := HE11.out; have := HLi.out; omega
          case hs => rfl
          case hx => rfl
          intro w12 ho12 hb12 hg12
          have hrow := Kd.R_typed (Kd.R_drew HL11.out)
          have HB12 := Aside0.mk hb12
          have HG12 := Aside0.mk (blk_grown (blk_drew HG11.out) hg12 (Kd.R_away HL11.out (fun _ h => h)))
          have HS12 := Aside0.mk (Kd.R_over' (v := .slice (some ⟨g11, 0, none⟩) qs1.length p11) (Kd.R_drew HS11.out) hrow (by decide) hg12)
          have hd11 := below_drew1 (Below.refl w11.heap.size w11)
          have HM12 := Aside0.mk ((HM11.out.below hd11).grown hg12 hrow)
          have HQ12 := Aside0.mk (fun q hq => ((HQ11.out q hq).below hd11).grown hg12 hrow)
          have HL12 := Aside0.mk ho12
          clear ho12 hb12 hg12 hrow hd11 HB11 HG11 HS11 HM11 HQ11 HL11
          refine hK.out _ _ trivial (fun hHeld => ?_)
          clear hK K
          refine norm_ (a' := ?_) ?_ ?_
          rotate_left
          · show Act.put _ (some 72) _ = _
            simp only [Act.put, List.setIfInBounds_toArray, List.set_cons_zero, List.set_cons_succ, i64_w, i32_w]
            rfl
          refine done_ (by kernel_rfl) ?_

          clear hcutS hcutX
          have HI12 := Aside0.mk (show lo < qs1.length by have := HE11.out; have := HLi.out; omega)
          have hix12 : (lo : Int) < (qs1.length : Int) := by have := HI12.out; omega
          obtain ⟨q0, q1, q2, q3, f0, f1, f2, f3⟩ := blk4 HG12
          go_wp2_with (first
            | ((with_reducible refine gate_ (.store 30 (.tmp 76) (.tmp 75)) rfl ?_); obtain ⟨c12, hc12, _, hcc12, _⟩ := Kd.R_elem HL12.out ⟨0, 0, none, 0, [], none, 0, []⟩ (lo : Int) (by omega) hix12; refine Kd.R_store kfg (w0 := w) w.heap.size rfl rfl 30 (.tmp 76) (.tmp 75) rfl 30 (lo : Int) 0 _ (⟨x1, x2, A2, c2, x3, A3, c3, x4⟩ : FgV) (.agg #[.int .i64 x1, .int .i64 x2, .slice A2 x3.length c2, .slice A3 x4.length c3]) (fgC ⟨x1, x2, A2, c2, x3, A3, c3, x4⟩) c12 (fun k => k ≠ G) (fun _ => False) rfl (by show lo * 4 = (lo : Int).toNat * 4 + 0; omega) rfl rfl (by kernel_rfl) (kfg.K_one (w := w) rfl) HL12.out (by omega) hix12 hc12 hcc12 (Nat.le_refl _) (by rw [List.drop_of_length_le (by rw [hc12]; exact Nat.le_refl _), List.append_nil]; rfl) (fun _ hk => hk.elim) HB12.out ?_; intro w13 ho13 hb13 hg13; have hrow := Kd.R_typed HL12.out; have HB13 := Aside0.mk hb13; have HS13 := Aside0.mk (Kd.R_over' (v := .slice (some ⟨g11, 0, none⟩) qs1.length p11) HS12.out hrow (by decide) hg13); have HM13 := Aside0.mk (HM12.out.grown hg13 hrow); have HQ13 := Aside0.mk (fun q hq => (HQ12.out q hq).grown hg13 hrow); have HL13 := Aside0.mk (show Kd.R kfg 30 w13 w.heap.size (fun k => k ≠ G) (.slice (some ⟨g11, 0, none⟩) qs1.length p11) (moPut qs lo ⟨x1, x2, A2, c2, x3, A3, c3, x4⟩) from by have e := moPut_of qs ⟨0, 0, none, 0, [], none, 0, []⟩ (⟨x1, x2, A2, c2, x3, A3, c3, x4⟩ : FgV) lo (by have := HN.out.1; have := HLi.out; omega); rw [← HT11.out] at e; rw [← e]; exact ho13); clear hc12 hcc12 ho13 hb13 hg13 hrow HB12 HG12 HS12 HM12 HQ12 HL12 q0 q1 q2 q3 f0 f1 f2 f3))
          have HWR : Aside0 (wrap64 ((i : Int) + 1) = ((i + 1 : Nat) : Int)) := ⟨by have := HLn.out; unfold wrap64; omega⟩
          have hpl : ∀ {α : Type} (l : List α) (x : α), l.length = i → (moPut l lo x).length = i + 1 := fun l x e => by unfold moPut; rw [List.length_append, List.length_take, List.length_cons, List.length_drop, e]; have := HLi.out; omega
          go_roundg (L.length - (i + 1))
          case measure => have := hlt'.out; omega
          case rel =>
            refine ⟨i + 1, moPut qs lo ⟨x1, x2, A2, c2, x3, A3, c3, x4⟩, moPut ts lo t, by have := hlt'.out; omega, Nat.le_refl _, by first | rfl | rw [HWR.out] | go_num, ⟨hpl _ _ HN.out.1, hpl _ _ HN.out.2⟩, ⟨Kd.R_mono HL13.out (fun _ _ => trivial)⟩, HS13, ⟨fun q hq => ?_⟩, ⟨?_⟩, HB13⟩
            · unfold moPut at hq
              rcases List.mem_append.1 hq with hq | hq
              · exact HQ13.out q (List.mem_of_mem_take hq)
              · rcases List.mem_cons.1 hq with rfl | hq
                · exact HM13.out
                · exact HQ13.out q (List.mem_of_mem_drop hq)
            · have e := HF2.out
              unfold moPut at e ⊢
              rw [List.map_append, List.map_cons, List.map_take, List.map_drop]
              exact e
    · have hltz : ¬ (i : Int) < (L.length : Int) := by omega
      obtain rfl : i = L.length := by omega
      have hF := HF.out
      rw [List.drop_length] at hF
      have hm : qs.map fgP = r := Option.some.inj hF
      go_wp2_with fail
      go_ret
      exact ⟨_, rfl, qs, hm, HL.out, HQ.out, HB.out⟩
end
/-- a row of figures of the call's own, in blocks from lo up to hi -/
structure FS (B lo hi : Nat) (W : World) (v : Value) (qs : List FgV) : Prop where
  row : Kd.R kfg 30 W B (fun k => lo ≤ k ∧ k < hi) v qs
  each : ∀ q ∈ qs, FgN B (fun k => lo ≤ k ∧ k < hi) W q
  far : qs.Pairwise FgD
theorem FgN.kept {b : Nat} {ok S : Nat → Prop} {W W' : World} {q : FgV} (h : FgN b ok W q) (hk : Kept W W' S) (hs : ∀ k, ok k → ¬ S k) : FgN b ok W' q := ⟨Kd.R_kept h.r2 hk hs, Kd.R_kept h.r3 hk hs, h.ne⟩
section
variable {B lo hi : Nat} {W W' : World} {v : Value} {qs : List FgV}
theorem FS.below (h : FS B lo hi W v qs) (hb : Below W.heap.size W W') : FS B lo hi W' v qs := ⟨Kd.R_below h.row hb, fun q hq => (h.each q hq).below hb, h.far⟩
theorem FS.kept {S : Nat → Prop} (h : FS B lo hi W v qs) (hk : Kept W W' S) (hs : ∀ k, lo ≤ k → k < hi → ¬ S k) : FS B lo hi W' v qs := ⟨Kd.R_kept h.row hk (fun k q => hs k q.1 q.2), fun q hq => (h.each q hq).kept hk (fun k q => hs k q.1 q.2), h.far⟩
theorem FS.alloc (h : FS B lo hi W v qs) (o : Obj) : FS B lo hi (W.alloc o) v qs := h.below (below_alloc (Below.refl _ _) _)
theorem FS.of {base : Nat} (hB : B ≤ base) (hr : Kd.R kfg 30 W base (fun _ => True) v qs) (hq : ∀ q ∈ qs, FgN base (fun _ => True) W q) (hd : qs.Pairwise FgD) : FS B base W.heap.size W v qs :=
  ⟨Kd.R_lower (Kd.R_mono (Kd.R_bound hr) (fun k hk => ⟨hk.2.1, hk.2.2.1⟩)) hB, fun q h => ⟨Kd.R_lower (Kd.R_mono (Kd.R_bound (hq q h).r2) (fun k hk => ⟨hk.2.1, hk.2.2.1⟩)) hB, Kd.R_lower (Kd.R_mono (Kd.R_bound (hq q h).r3) (fun k hk => ⟨hk.2.1, hk.2.2.1⟩)) hB, (hq q h).ne⟩, hd⟩
theorem FS.from {lo' : Nat} (h : FS B lo hi W v qs) (hl : lo' ≤ lo) : FS B lo' hi W v qs :=
  ⟨Kd.R_mono h.row (fun k q => ⟨Nat.le_trans hl q.1, q.2⟩), fun q hq => (h.each q hq).mono (fun k q => ⟨Nat.le_trans hl q.1, q.2⟩), h.far⟩
end
theorem set_same {α β : Type} (f : α → β) {l : List α} {i : Nat} {q q' : α} (hq : l[i]? = some q) (e : f q' = f q) : (l.set i q').map f = l.map f := by
  rw [List.map_set, e]
  apply List.ext_getElem?
  intro j
  by_cases hj : j = i
  · subst hj
    have hl : j < (l.map f).length := by rw [List.length_map]; exact (List.getElem?_eq_some_iff.1 hq).1
    rw [List.getElem?_set_self hl, List.getElem?_map, hq]
    rfl
  · rw [List.getElem?_set_ne (fun e => hj e.symm)]
theorem far_set {qs : List FgV} {i : Nat} {q q' : FgV} (h : qs.Pairwise FgD) (hq : qs[i]? = some q) (e2 : q'.A2 = q.A2) (e3 : q'.A3 = q.A3) : (qs.set i q').Pairwise FgD := by
  have key : ∀ l : List FgV, l.Pairwise FgD ↔ (l.map fun q => (q.A2, q.A3)).Pairwise fun a b => ∀ x y : Addr, (a.1 = some x ∨ a.2 = some x) → (b.1 = some y ∨ b.2 = some y) → x.block ≠ y.block := fun l => by rw [List.pairwise_map]; exact Iff.rfl
  rw [key] at h ⊢
  have e : (qs.set i q').map (fun q => (q.A2, q.A3)) = qs.map fun q => (q.A2, q.A3) := set_same _ hq (by rw [e2, e3])
  rwa [e]
theorem kfg_same {W : World} {e b : Nat} {ok : Nat → Prop} {v : Value} {xs ys : List FgV} (h : Kd.R kfg e W b ok v xs) (he : xs.map fgC = ys.map fgC) : Kd.R kfg e W b ok v ys := by
  have hl : xs.length = ys.length := by have := congrArg List.length he; simpa using this
  obtain ⟨hok, inner, ⟨h1, h2⟩, hr1, hr2⟩ := h
  refine ⟨hok, inner, ⟨by rw [← hl]; exact h1, by rw [← hl]; exact h2⟩, by rw [← hl]; exact hr1, fun j p hp => ?_⟩
  obtain ⟨x, hx⟩ : ∃ x, xs[j]? = some x := ⟨_, List.getElem?_eq_getElem (by rw [hl]; exact (List.getElem?_eq_some_iff.1 hp).1)⟩
  have e1 := congrArg (fun l => l[j]?) he
  simp only [List.getElem?_map, hx, hp, Option.map_some, Option.some.injEq] at e1
  have := hr2 j x hx
  exact (show ((inner.drop (j * 4)).take 4) = fgC x from this).trans e1
theorem set_mem {α : Type} {l : List α} {i : Nat} {q' r : α} (h : r ∈ l.set i q') : r = q' ∨ ∃ j, j ≠ i ∧ l[j]? = some r := by
  obtain ⟨j, hj⟩ := List.mem_iff_getElem?.1 h
  by_cases e : j = i
  · subst e
    rw [List.getElem?_set] at hj
    simp only [if_true] at hj
    split at hj
    · exact Or.inl (Option.some.inj hj).symm
    · cases hj
  · rw [List.getElem?_set_ne (fun x => e x.symm)] at hj
    exact Or.inr ⟨j, e, hj⟩
theorem far_at {qs : List FgV} {i j : Nat} {q r : FgV} (h : qs.Pairwise FgD) (hq : qs[i]? = some q) (hr : qs[j]? = some r) (hne : j ≠ i) : FgD q r := by
  obtain ⟨hi, rfl⟩ := List.getElem?_eq_some_iff.1 hq
  obtain ⟨hj, rfl⟩ := List.getElem?_eq_some_iff.1 hr
  rw [List.pairwise_iff_getElem] at h
  rcases Nat.lt_or_gt_of_ne hne with hlt | hgt
  · exact (h j i hj hi hlt).symm
  · exact h i j hi hj hgt
/-- a number of a figure is written -/
theorem FS.put {B lo hi g n c i : Nat} {W w1 : World} {qs : List FgV} {q q' : FgV} (h : FS B lo hi W (.slice (some ⟨g, 0, none⟩) n c) qs) (hr : Kd.R kfg 30 w1 B (fun k => lo ≤ k ∧ k < hi) (.slice (some ⟨g, 0, none⟩) n c) (qs.set i q')) (hg : W.grownBy w1 (some g)) (hq : qs[i]? = some q) (e2 : q'.A2 = q.A2) (e3 : q'.A3 = q.A3) (f2 : q'.l2 = q.l2) (f3 : q'.l3 = q.l3) (d2 : q'.c2 = q.c2) (d3 : q'.c3 = q.c3) : FS B lo hi w1 (.slice (some ⟨g, 0, none⟩) n c) (qs.set i q') := by
  have up : ∀ r ∈ qs, FgN B (fun k => lo ≤ k ∧ k < hi) w1 r := fun r hr' => (h.each r hr').grown hg (kfg_type W h.row)
  refine ⟨hr, fun r hr' => ?_, far_set h.far hq e2 e3⟩
  rcases set_mem hr' with rfl | ⟨j, _, hj⟩
  · have := up q (List.mem_of_getElem? hq)
    exact ⟨by rw [e2, f2, d2, e3] at *; exact this.r2, by rw [e3, f3, d3, e2] at *; exact this.r3, by rw [e2, f2, d2, e3, f3, d3]; exact this.ne⟩
  · exact up r (List.mem_of_getElem? hj)
theorem own_some {A : Option Addr} {n c k : Nat} (h : some k = (Value.slice A n c).ownBlock) : ∃ x : Addr, A = some x ∧ x.block = k := by
  cases A with
  | none => cases h
  | some x => exact ⟨x, rfl, (Option.some.inj h).symm⟩
/-- the list of level matches is written over -/
theorem FS.mark2 {k lo hi i : Nat} {a n : Int} {y : List Int} {w W : World} {v : Value} {qs : List FgV} {q : FgV} (hm : laws_markIntS.f k q.l2 a = some (n, y)) (hB : Below w.heap.size w W) (h : FS w.heap.size lo hi W v qs) (hq : qs[i]? = some q) :
    Calls Tryz.prog 45 #[.slice q.A2 q.l2.length q.c2, .int .i64 a] W fun e w' => e = .returned (.int .i64 n) ∧ y.length = q.l2.length ∧ FS w.heap.size lo hi w' v (qs.set i { q with l2 := y }) ∧ Below w.heap.size w w' ∧ Kept W w' (fun k => lo ≤ k ∧ k < hi) := by
  have hN := h.each q (List.mem_of_getElem? hq)
  refine (laws_markIntS.calls k (fun k => (lo ≤ k ∧ k < hi) ∧ some k = (Value.slice q.A2 q.l2.length q.c2).ownBlock) _ q.l2 a n y w W hB (Kd.R_reok rfl hN.r2 (fun k hk => ⟨hN.r2.1 k hk, hk.symm⟩)) hm).mono ?_
  rintro e w' ⟨rfl, hr, hb, hk⟩
  have hl : y.length = q.l2.length := (Kd.R_reads' hr).1.symm
  refine ⟨rfl, hl, ⟨?_, fun r hr' => ?_, far_set h.far hq rfl rfl⟩, hb, hk.mono (fun k q => q.1)⟩
  · have h1 := Kd.R_kept (Kd.R_reok (ok := fun x => some x = v.ownBlock ∧ (lo ≤ x ∧ x < hi)) rfl h.row (fun k hk => ⟨hk.symm, h.row.1 k hk⟩)) hk (fun x hx hP => by
      obtain ⟨cs, hc⟩ := Kd.R_typed h.row x hx.1.symm
      obtain ⟨ds, hd⟩ := Kd.R_typed hN.r2 x hP.2.symm
      rw [hc] at hd
      injection hd with hd
      injection hd with _ hd
      exact absurd hd (by decide))
    exact kfg_same (Kd.R_mono h1 (fun _ hx => hx.2)) (set_same fgC hq (by simp only [fgC, hl])).symm
  · rcases set_mem hr' with rfl | ⟨j, hj, hj'⟩
    · refine ⟨?_, Kd.R_mono (Kd.R_kept (Kd.R_reok (ok := fun x => some x = (Value.slice q.A3 q.l3.length q.c3).ownBlock ∧ (lo ≤ x ∧ x < hi)) rfl hN.r3 (fun k hk => ⟨hk.symm, hN.r3.1 k hk⟩)) hk (fun x hx hP => ?_)) (fun _ hx => hx.2), fun g hg => hN.ne g (by rw [← hl]; exact hg)⟩
      · show Kd.R _ _ _ _ _ (.slice q.A2 y.length q.c2) y
        rw [hl]
        exact Kd.R_reok rfl hr (fun x hx => hN.r2.1 x hx)
      · exact hN.ne x hP.2.symm hx.1
    · have hd := far_at h.far hq hj' hj
      have hr2 := h.each r (List.mem_of_getElem? hj')
      refine ⟨Kd.R_mono (Kd.R_kept (Kd.R_reok (ok := fun x => some x = (Value.slice r.A2 r.l2.length r.c2).ownBlock ∧ (lo ≤ x ∧ x < hi)) rfl hr2.r2 (fun k hk => ⟨hk.symm, hr2.r2.1 k hk⟩)) hk (fun x hx hP => ?_)) (fun _ hx => hx.2), Kd.R_mono (Kd.R_kept (Kd.R_reok (ok := fun x => some x = (Value.slice r.A3 r.l3.length r.c3).ownBlock ∧ (lo ≤ x ∧ x < hi)) rfl hr2.r3 (fun k hk => ⟨hk.symm, hr2.r3.1 k hk⟩)) hk (fun x hx hP => ?_)) (fun _ hx => hx.2), hr2.ne⟩
      · obtain ⟨u, hu, hu'⟩ := own_some hP.2
        obtain ⟨z, hz, hz'⟩ := own_some hx.1
        exact hd u z (.inl hu) (.inl hz) (hu'.trans hz'.symm)
      · obtain ⟨u, hu, hu'⟩ := own_some hP.2
        obtain ⟨z, hz, hz'⟩ := own_some hx.1
        exact hd u z (.inl hu) (.inr hz) (hu'.trans hz'.symm)
/-- the list of upright matches is written over -/
theorem FS.mark3 {k lo hi i : Nat} {a n : Int} {y : List Int} {w W : World} {v : Value} {qs : List FgV} {q : FgV} (hm : laws_markIntS.f k q.l3 a = some (n, y)) (hB : Below w.heap.size w W) (h : FS w.heap.size lo hi W v qs) (hq : qs[i]? = some q) :
    Calls Tryz.prog 45 #[.slice q.A3 q.l3.length q.c3, .int .i64 a] W fun e w' => e = .returned (.int .i64 n) ∧ y.length = q.l3.length ∧ FS w.heap.size lo hi w' v (qs.set i { q with l3 := y }) ∧ Below w.heap.size w w' ∧ Kept W w' (fun k => lo ≤ k ∧ k < hi) := by
  have hN := h.each q (List.mem_of_getElem? hq)
  refine (laws_markIntS.calls k (fun k => (lo ≤ k ∧ k < hi) ∧ some k = (Value.slice q.A3 q.l3.length q.c3).ownBlock) _ q.l3 a n y w W hB (Kd.R_reok rfl hN.r3 (fun k hk => ⟨hN.r3.1 k hk, hk.symm⟩)) hm).mono ?_
  rintro e w' ⟨rfl, hr, hb, hk⟩
  have hl : y.length = q.l3.length := (Kd.R_reads' hr).1.symm
  refine ⟨rfl, hl, ⟨?_, fun r hr' => ?_, far_set h.far hq rfl rfl⟩, hb, hk.mono (fun k q => q.1)⟩
  · have h1 := Kd.R_kept (Kd.R_reok (ok := fun x => some x = v.ownBlock ∧ (lo ≤ x ∧ x < hi)) rfl h.row (fun k hk => ⟨hk.symm, h.row.1 k hk⟩)) hk (fun x hx hP => by
      obtain ⟨cs, hc⟩ := Kd.R_typed h.row x hx.1.symm
      obtain ⟨ds, hd⟩ := Kd.R_typed hN.r3 x hP.2.symm
      rw [hc] at hd
      injection hd with hd
      injection hd with _ hd
      exact absurd hd (by decide))
    exact kfg_same (Kd.R_mono h1 (fun _ hx => hx.2)) (set_same fgC hq (by simp only [fgC, hl])).symm
  · rcases set_mem hr' with rfl | ⟨j, hj, hj'⟩
    · refine ⟨Kd.R_mono (Kd.R_kept (Kd.R_reok (ok := fun x => some x = (Value.slice q.A2 q.l2.length q.c2).ownBlock ∧ (lo ≤ x ∧ x < hi)) rfl hN.r2 (fun k hk => ⟨hk.symm, hN.r2.1 k hk⟩)) hk (fun x hx hP => ?_)) (fun _ hx => hx.2), ?_, fun g hg => by show some g ≠ (Value.slice q.A3 y.length q.c3).ownBlock; rw [hl]; exact hN.ne g hg⟩
      · exact hN.ne x hx.1.symm hP.2
      · show Kd.R _ _ _ _ _ (.slice q.A3 y.length q.c3) y
        rw [hl]
        exact Kd.R_reok rfl hr (fun x hx => hN.r3.1 x hx)
    · have hd := far_at h.far hq hj' hj
      have hr2 := h.each r (List.mem_of_getElem? hj')
      refine ⟨Kd.R_mono (Kd.R_kept (Kd.R_reok (ok := fun x => some x = (Value.slice r.A2 r.l2.length r.c2).ownBlock ∧ (lo ≤ x ∧ x < hi)) rfl hr2.r2 (fun k hk => ⟨hk.symm, hr2.r2.1 k hk⟩)) hk (fun x hx hP => ?_)) (fun _ hx => hx.2), Kd.R_mono (Kd.R_kept (Kd.R_reok (ok := fun x => some x = (Value.slice r.A3 r.l3.length r.c3).ownBlock ∧ (lo ≤ x ∧ x < hi)) rfl hr2.r3 (fun k hk => ⟨hk.symm, hr2.r3.1 k hk⟩)) hk (fun x hx hP => ?_)) (fun _ hx => hx.2), hr2.ne⟩
      · obtain ⟨u, hu, hu'⟩ := own_some hP.2
        obtain ⟨z, hz, hz'⟩ := own_some hx.1
        exact hd u z (.inr hu) (.inl hz) (hu'.trans hz'.symm)
      · obtain ⟨u, hu, hu'⟩ := own_some hP.2
        obtain ⟨z, hz, hz'⟩ := own_some hx.1
        exact hd u z (.inr hu) (.inr hz) (hu'.trans hz'.symm)
/-- the same, nothing said of how the lists of two figures lie -/
structure FT (B lo hi : Nat) (W : World) (v : Value) (qs : List FgV) : Prop where
  row : Kd.R kfg 30 W B (fun k => lo ≤ k ∧ k < hi) v qs
  each : ∀ q ∈ qs, FgN B (fun k => lo ≤ k ∧ k < hi) W q
section
variable {B lo hi : Nat} {W W' : World} {v : Value} {qs : List FgV}
theorem FS.ft (h : FS B lo hi W v qs) : FT B lo hi W v qs := ⟨h.row, h.each⟩
theorem FT.below (h : FT B lo hi W v qs) (hb : Below W.heap.size W W') : FT B lo hi W' v qs := ⟨Kd.R_below h.row hb, fun q hq => (h.each q hq).below hb⟩
theorem FT.kept {S : Nat → Prop} (h : FT B lo hi W v qs) (hk : Kept W W' S) (hs : ∀ k, lo ≤ k → k < hi → ¬ S k) : FT B lo hi W' v qs := ⟨Kd.R_kept h.row hk (fun k q => hs k q.1 q.2), fun q hq => (h.each q hq).kept hk (fun k q => hs k q.1 q.2)⟩
theorem FT.alloc (h : FT B lo hi W v qs) (o : Obj) : FT B lo hi (W.alloc o) v qs := h.below (below_alloc (Below.refl _ _) _)
theorem FT.of {base : Nat} (hB : B ≤ base) (hr : Kd.R kfg 30 W base (fun _ => True) v qs) (hq : ∀ q ∈ qs, FgN base (fun _ => True) W q) : FT B base W.heap.size W v qs :=
  ⟨Kd.R_lower (Kd.R_mono (Kd.R_bound hr) (fun k hk => ⟨hk.2.1, hk.2.2.1⟩)) hB, fun q h => ⟨Kd.R_lower (Kd.R_mono (Kd.R_bound (hq q h).r2) (fun k hk => ⟨hk.2.1, hk.2.2.1⟩)) hB, Kd.R_lower (Kd.R_mono (Kd.R_bound (hq q h).r3) (fun k hk => ⟨hk.2.1, hk.2.2.1⟩)) hB, (hq q h).ne⟩⟩
end
/-- a figure whose lists can be read -/
structure FgR (W : World) (q : FgV) : Prop where
  c2 : Kd.C (Kd.int .i64) W q.A2 q.l2.length q.l2
  n2 : q.l2.length ≤ q.c2
  c3 : Kd.C (Kd.int .i64) W q.A3 q.l3.length q.l3
  n3 : q.l3.length ≤ q.c3
theorem FgN.reads {b : Nat} {ok : Nat → Prop} {W : World} {q : FgV} (h : FgN b ok W q) : FgR W q := ⟨(Kd.R_reads' h.r2).2.2, (Kd.R_reads' h.r2).2.1, (Kd.R_reads' h.r3).2.2, (Kd.R_reads' h.r3).2.1⟩
theorem FgR.below {W W' : World} {q : FgV} (h : FgR W q) (hb : Below W.heap.size W W') : FgR W' q := ⟨Kd.C_below h.c2 hb, h.n2, Kd.C_below h.c3 hb, h.n3⟩
section
attribute [local go_sem] su_add
set_option maxHeartbeats 8000000 in
set_option maxRecDepth 100000 in
theorem laws_eqFigureS.calls (k : Nat) (A : Option Addr) (c : Nat) (A' : Option Addr) (c' : Nat) (qs rs : List FgV) (b1 b2 : Nat) (o1 o2 : Nat → Prop) (w : World) (h1 : Kd.R kfg 30 w b1 o1 (.slice A qs.length c) qs) (h2 : Kd.R kfg 30 w b2 o2 (.slice A' rs.length c') rs) (hq : ∀ q ∈ qs, FgR w q) (hr : ∀ q ∈ rs, FgR w q) (he : qs.map fgP = rs.map fgP) (hk : ∀ q ∈ qs, laws_eqFigure.f k q.w q.h q.l2 q.l3 q.w q.h q.l2 q.l3 = some true) :
    Calls Tryz.prog 29 #[.slice A qs.length c, .slice A' rs.length c'] w fun e w' => e = .returned (.bool true) ∧ Below w.heap.size w w' := by
  have H1 := Aside0.mk h1
  have H2 := Aside0.mk h2
  have HQ := Aside0.mk hq
  have HR := Aside0.mk hr
  have HE := Aside0.mk he
  have HK := Aside0.mk hk
  have hlen : qs.length = rs.length := by have := congrArg List.length he; simpa using this
  have HL := Aside0.mk hlen
  have hnb : ((qs.length : Int) != (rs.length : Int)) = false := by rw [hlen]; simp
  have hmx : qs.length ≤ 9223372036854775807 := Kd.C_max (Kd.R_reads' h1).2.2
  clear h1 h2 hq hr he hk hlen
  have hu1 := Tryz.underlying30
  go_enter Tryz.func29, Tryz.ntmps29
  go_wp2_with fail
  go_loopg [5] qs.length (fun gg v5 w' => ∃ i : Nat, i ≤ qs.length ∧ qs.length - i ≤ gg ∧ v5 = .int .i64 i ∧ Aside0 (Below w.heap.size w w'))
  case atStart => exact ⟨0, Nat.zero_le _, by omega, rfl, ⟨Below.refl _ _⟩⟩
  case round =>
    obtain ⟨i, hi, hg, rfl, HB⟩ := hrel
    by_cases hlt : i < qs.length
    · have hltz : (i : Int) < (qs.length : Int) := by omega
      have hltr : (i : Int) < (rs.length : Int) := by have := HL.out; omega
      have hge : (0 : Int) ≤ i := by omega
      obtain ⟨q, hq⟩ : ∃ q, qs[i]? = some q := ⟨_, List.getElem?_eq_getElem hlt⟩
      obtain ⟨r, hr⟩ : ∃ r, rs[i]? = some r := ⟨_, List.getElem?_eq_getElem (by have := HL.out; omega)⟩
      have hpe : fgP q = fgP r := by have e := congrArg (fun l => l[i]?) HE.out; simpa [hq, hr] using e
      have HQ1 := Aside0.mk ((HQ.out q (List.mem_of_getElem? hq)).below HB.out)
      have HQ2 := Aside0.mk ((HR.out r (List.mem_of_getElem? hr)).below HB.out)
      have HE1 : Aside0 (laws_eqFigure.f k q.w q.h q.l2 q.l3 r.w r.h r.l2 r.l3 = some true) := ⟨by
        have e := HK.out q (List.mem_of_getElem? hq)
        unfold fgP at hpe
        simp only [Prod.mk.injEq] at hpe
        rw [← hpe.1, ← hpe.2.1, ← hpe.2.2.1, ← hpe.2.2.2]
        exact e⟩
      obtain ⟨g1, p1, e1, _⟩ := Kd.R_form H1.out (by omega)
      injection e1 with e1 _ ep1
      subst e1
      obtain ⟨g2, p2, e2, _⟩ := Kd.R_form H2.out (by have := HL.out; omega)
      injection e2 with e2 _ ep2
      subst e2
      obtain ⟨c0, c1, c2, c3⟩ := su_cells (Kd.R_below H1.out HB.out) hq
      obtain ⟨d0, d1, d2, d3⟩ := su_cells (Kd.R_below H2.out HB.out) hr
      have HI := Aside0.mk hlt
      clear hq hr hpe hlt ep1 ep2
      go_wp2_with fail
      refine start_ (n := 10) (S := fun w' => w'.cell? ⟨g1, i * 4, none⟩ = some (.int .i64 q.w) ∧ w'.cell? ⟨g1, i * 4 + 1, none⟩ = some (.int .i64 q.h) ∧ w'.cell? ⟨g1, i * 4 + 2, none⟩ = some (.slice q.A2 q.l2.length q.c2) ∧ w'.cell? ⟨g1, i * 4 + 3, none⟩ = some (.slice q.A3 q.l3.length q.c3) ∧ w'.cell? ⟨g2, i * 4, none⟩ = some (.int .i64 r.w) ∧ w'.cell? ⟨g2, i * 4 + 1, none⟩ = some (.int .i64 r.h) ∧ w'.cell? ⟨g2, i * 4 + 2, none⟩ = some (.slice r.A2 r.l2.length r.c2) ∧ w'.cell? ⟨g2, i * 4 + 3, none⟩ = some (.slice r.A3 r.l3.length r.c3)) (ds := []) #[false, false, false, false, false, false, false, false, false, false] (by kernel_rfl) rfl rfl ⟨(pw_cell_below (below_drew1 (Below.refl wr.heap.size wr)) c0), (pw_cell_below (below_drew1 (Below.refl wr.heap.size wr)) c1), (pw_cell_below (below_drew1 (Below.refl wr.heap.size wr)) c2), (pw_cell_below (below_drew1 (Below.refl wr.heap.size wr)) c3), (pw_cell_below (below_drew1 (Below.refl wr.heap.size wr)) d0), (pw_cell_below (below_drew1 (Below.refl wr.heap.size wr)) d1), (pw_cell_below (below_drew1 (Below.refl wr.heap.size wr)) d2), (pw_cell_below (below_drew1 (Below.refl wr.heap.size wr)) d3)⟩ (fun hHeld => ?_)
      refine pure_ (i := 0) (N := some 17) (v := ?_) (a' := ?_) #[true, false, false, false, false, false, false, false, false, false] rfl rfl (by kernel_rfl) (fun _ _ _ h => h) (Or.inl ⟨by rfl, ?_⟩) ?_ ?_
      rotate_left
      · intro w'
        go_simp
        with_reducible rfl
      rotate_left
      · simp only [Act.put, List.setIfInBounds_toArray, List.set_cons_zero, List.set_cons_succ, i64_w, i32_w]
        rfl
      refine pure_ (i := 1) (N := some 18) (v := ?_) (a' := ?_) #[true, true, false, false, false, false, false, false, false, false] rfl rfl (by kernel_rfl) (fun _ _ _ h => h) (Or.inl ⟨by rfl, ?_⟩) ?_ ?_
      rotate_left
      · intro w'
        go_simp
        with_reducible rfl
      rotate_left
      · simp only [Act.put, List.setIfInBounds_toArray, List.set_cons_zero, List.set_cons_succ, i64_w, i32_w]
        rfl
      refine pure_ (i := 2) (N := some 19) (v := ?_) (a' := ?_) #[true, true, true, false, false, false, false, false, false, false] rfl rfl (by kernel_rfl) (fun _ _ _ h => h) (Or.inl ⟨by rfl, ?_⟩) ?_ ?_
      rotate_left
      · intro w'
        go_simp
        with_reducible rfl
      rotate_left
      · simp only [Act.put, List.setIfInBounds_toArray, List.set_cons_zero, List.set_cons_succ, i64_w, i32_w]
        rfl
      refine pure_ (i := 4) (N := some 21) (v := ?_) (a' := ?_) #[true, true, true, false, true, false, false, false, false, false] rfl rfl (by kernel_rfl) (fun _ _ _ h => h) (Or.inl ⟨by rfl, ?_⟩) ?_ ?_
      rotate_left
      · intro w'
        go_simp
        with_reducible rfl
      rotate_left
      · simp only [Act.put, List.setIfInBounds_toArray, List.set_cons_zero, List.set_cons_succ, i64_w, i32_w]
        rfl
      refine pure_ (i := 5) (N := some 22) (v := ?_) (a' := ?_) #[true, true, true, false, true, true, false, false, false, false] rfl rfl (by kernel_rfl) (fun _ _ _ h => h) (Or.inl ⟨by rfl, ?_⟩) ?_ ?_
      rotate_left
      · intro w'
        go_simp
        with_reducible rfl
      rotate_left
      · simp only [Act.put, List.setIfInBounds_toArray, List.set_cons_zero, List.set_cons_succ, i64_w, i32_w]
        rfl
      refine pure_ (i := 6) (N := some 23) (v := ?_) (a' := ?_) #[true, true, true, false, true, true, true, false, false, false] rfl rfl (by kernel_rfl) (fun _ _ _ h => h) (Or.inl ⟨by rfl, ?_⟩) ?_ ?_
      rotate_left
      · intro w'
        go_simp
        with_reducible rfl
      rotate_left
      · simp only [Act.put, List.setIfInBounds_toArray, List.set_cons_zero, List.set_cons_succ, i64_w, i32_w]
        rfl
      refine take_ (i := 3) (N := some 20) (v := ?_) (a' := ?_) #[true, true, true, true, true, true, true, false, false, false] rfl rfl (by kernel_rfl) (fun _ _ _ h => h) (Or.inl ⟨by rfl, ?_⟩) hHeld ?_ ?_
      rotate_left
      · rintro w' ⟨s0, s1, s2, s3, s4, s5, s6, s7⟩
        go_simp
        with_reducible rfl
      rotate_left
      · simp only [Act.put, List.setIfInBounds_toArray, List.set_cons_zero, List.set_cons_succ, i64_w, i32_w]
        rfl
      refine take_ (i := 7) (N := some 24) (v := ?_) (a' := ?_) #[true, true, true, true, true, true, true, true, false, false] rfl rfl (by kernel_rfl) (fun _ _ _ h => h) (Or.inl ⟨by rfl, ?_⟩) hHeld ?_ ?_
      rotate_left
      · rintro w' ⟨s0, s1, s2, s3, s4, s5, s6, s7⟩
        go_simp
        with_reducible rfl
      rotate_left
      · simp only [Act.put, List.setIfInBounds_toArray, List.set_cons_zero, List.set_cons_succ, i64_w, i32_w]
        rfl
      refine one_ (i := 8) (N := some 25) #[true, true, true, true, true, true, true, true, true, false] rfl rfl (by kernel_rfl) (by decide) (fun K hK => ?_)
      refine goesV_ Tryz.func19 (by kernel_rfl) rfl #[.agg #[.int .i64 q.w, .int .i64 q.h, .slice q.A2 q.l2.length q.c2, .slice q.A3 q.l3.length q.c3], .agg #[.int .i64 r.w, .int .i64 r.h, .slice r.A2 r.l2.length r.c2, .slice r.A3 r.l3.length r.c3]] (by rfl) rfl rfl (by rfl) (by simp only [List.map_toArray, List.map_cons, List.map_nil]; rfl) ?_
      with_reducible refine (laws_eqFigure.calls k q.w q.h q.A2 q.c2 q.l2 q.A3 q.c3 q.l3 r.w r.h r.A2 r.c2 r.l2 r.A3 r.c3 r.l3 true _ (Kd.C_drew HQ1.out.c2) HQ1.out.n2 (Kd.C_drew HQ1.out.c3) HQ1.out.n3 (Kd.C_drew HQ2.out.c2) HQ2.out.n2 (Kd.C_drew HQ2.out.c3) HQ2.out.n3 HE1.out).mono ?_
      rintro e w3 ⟨rfl, hb3⟩
      refine ⟨_, rfl, ?_⟩
      have HB3 := Aside0.mk (below_step (below_drew1 HB.out) hb3)
      have hb3' := below_step (below_drew1 (Below.refl wr.heap.size wr)) hb3
      refine hK.out _ _ ⟨pw_cell_below hb3' c0, pw_cell_below hb3' c1, pw_cell_below hb3' c2, pw_cell_below hb3' c3, pw_cell_below hb3' d0, pw_cell_below hb3' d1, pw_cell_below hb3' d2, pw_cell_below hb3' d3⟩ (fun hHeld => ?_)
      clear hK K
      refine norm_ (a' := ?_) ?_ ?_
      rotate_left
      · show Act.put _ (some 25) _ = _
        simp only [Act.put, List.setIfInBounds_toArray, List.set_cons_zero, List.set_cons_succ, i64_w, i32_w]
        rfl
      refine pure_ (i := 9) (N := some 26) (v := ?_) (a' := ?_) #[true, true, true, true, true, true, true, true, true, true] rfl rfl (by kernel_rfl) (fun _ _ _ h => h) (Or.inl ⟨by rfl, ?_⟩) ?_ ?_
      rotate_left
      · intro w'
        go_simp
        with_reducible rfl
      rotate_left
      · simp only [Act.put, List.setIfInBounds_toArray, List.set_cons_zero, List.set_cons_succ, i64_w, i32_w]
        rfl
      refine done_ (by kernel_rfl) ?_

      go_wp2_with fail
      have HW : Aside0 (wrap64 ((i : Int) + 1) = ((i + 1 : Nat) : Int)) := ⟨by have := HI.out; unfold wrap64; omega⟩
      go_roundg (qs.length - (i + 1))
      case measure => have := HI.out; omega
      case rel => exact ⟨i + 1, HI.out, Nat.le_refl _, by first | rfl | rw [HW.out] | go_num, HB3⟩
    · have hltz : ¬ (i : Int) < (qs.length : Int) := by omega
      go_wp2_with fail
      go_ret
      exact ⟨rfl, HB.out⟩
end
theorem eqs_ft {km B lo hi lo' hi' c c' : Nat} {A A' : Option Addr} {W : World} {qs rs : List FgV} (hg : FT B lo hi W (.slice A qs.length c) qs) (hw : FT B lo' hi' W (.slice A' rs.length c') rs) (e : qs.map fgP = rs.map fgP) (hk : ∀ x ∈ qs.map fgP, laws_eqFigure.f km x.1 x.2.1 x.2.2.1 x.2.2.2 x.1 x.2.1 x.2.2.1 x.2.2.2 = some true) :
    Calls Tryz.prog 29 #[.slice A qs.length c, .slice A' rs.length c'] W fun e w' => e = .returned (.bool true) ∧ Below W.heap.size W w' :=
  laws_eqFigureS.calls km A c A' c' qs rs B B _ _ W hg.row hw.row (fun q hq => (hg.each q hq).reads) (fun q hq => (hw.each q hq).reads) e (fun q hq => hk _ (List.mem_map_of_mem hq))
/-- the figures of a list, written over with numbers that go on from n -/
def mkFS (k : Nat) : List (Int × Int × List Int × List Int) → Int → Option (Int × List (Int × Int × List Int × List Int))
  | [], n => some (n, [])
  | x :: r, n => (laws_markIntS.f k x.2.2.1 (wrap64 (wrap64 (n + 1) + 1))).bind fun t => (laws_markIntS.f k x.2.2.2 t.1).bind fun u => (mkFS k r u.1).bind fun z => some (z.1, (n, wrap64 (n + 1), t.2, u.2) :: z.2)
/-- does a list of figures hold such numbers -/
def hdFS (k : Nat) : List (Int × Int × List Int × List Int) → Int → Option Int
  | [], n => some n
  | x :: r, n => if x.1 = n then (if x.2.1 = wrap64 (n + 1) then (laws_heldIntS.f k x.2.2.1 (wrap64 (wrap64 (n + 1) + 1))).bind fun t => if 0 ≤ t then (laws_heldIntS.f k x.2.2.2 t).bind fun u => if 0 ≤ u then hdFS k r u else none else none else none) else none
theorem mkFS_cons {k : Nat} {x1 x2 : Int} {x3 x4 : List Int} {r : List (Int × Int × List Int × List Int)} {n m : Int} {ys : List (Int × Int × List Int × List Int)} (h : mkFS k ((x1, x2, x3, x4) :: r) n = some (m, ys)) : ∃ t1 t2 u1 u2 zs, laws_markIntS.f k x3 (wrap64 (wrap64 (n + 1) + 1)) = some (t1, t2) ∧ laws_markIntS.f k x4 t1 = some (u1, u2) ∧ mkFS k r u1 = some (m, zs) ∧ ys = (n, wrap64 (n + 1), t2, u2) :: zs := by
  rw [mkFS] at h
  obtain ⟨⟨t1, t2⟩, h1, h⟩ := Option.bind_eq_some_iff.mp h
  obtain ⟨⟨u1, u2⟩, h2, h⟩ := Option.bind_eq_some_iff.mp h
  obtain ⟨⟨z1, z2⟩, h3, h⟩ := Option.bind_eq_some_iff.mp h
  simp only [Option.some.injEq, Prod.mk.injEq] at h
  obtain ⟨rfl, rfl⟩ := h
  exact ⟨t1, t2, u1, u2, z2, h1, h2, h3, rfl⟩
theorem su_cellsN {W : World} {e h0 : Nat} {ok : Nat → Prop} {g n c : Nat} {xs : List FgV} (h : Kd.R kfg e W h0 ok (.slice (some ⟨g, 0, none⟩) n c) xs) {i : Nat} {q : FgV} (hq : xs[i]? = some q) : W.cell? ⟨g, i * 4, none⟩ = some (.int .i64 q.w) ∧ W.cell? ⟨g, i * 4 + 1, none⟩ = some (.int .i64 q.h) ∧ W.cell? ⟨g, i * 4 + 2, none⟩ = some (.slice q.A2 q.l2.length q.c2) ∧ W.cell? ⟨g, i * 4 + 3, none⟩ = some (.slice q.A3 q.l3.length q.c3) := by
  obtain rfl := (Kd.R_reads' h).1
  exact su_cells h hq
theorem set_set_at {α : Type} {l : List α} {i : Nat} {q q1 : α} (hq : l[i]? = some q) : (l.set i q1)[i]? = some q1 := by
  rw [List.getElem?_set_self (List.getElem?_eq_some_iff.1 hq).1]
section
attribute [local go_sem] su_add
set_option maxHeartbeats 16000000 in
set_option maxRecDepth 100000 in
theorem laws_markFigureS.calls (k lo hi : Nat) (A : Option Addr) (c : Nat) (qs : List FgV) (n0 n : Int) (ys : List (Int × Int × List Int × List Int)) (w0 w : World) (hB : Below w0.heap.size w0 w) (hF : FS w0.heap.size lo hi w (.slice A qs.length c) qs) (h : mkFS k (qs.map fgP) n0 = some (n, ys)) :
    Calls Tryz.prog 30 #[.slice A qs.length c, .int .i64 n0] w fun e w' => e = .returned (.int .i64 n) ∧ ∃ rs, rs.map fgP = ys ∧ rs.length = qs.length ∧ FS w0.heap.size lo hi w' (.slice A rs.length c) rs ∧ Below w0.heap.size w0 w' ∧ Kept w w' (fun x => lo ≤ x ∧ x < hi) := by
  have HB := Aside0.mk hB
  have HF := Aside0.mk hF
  have HM := Aside0.mk h
  have hmx : qs.length ≤ 9223372036854775807 := Kd.C_max (Kd.R_reads' hF.row).2.2
  clear hB hF h
  have hu1 := Tryz.underlying30
  go_enter Tryz.func30, Tryz.ntmps30
  go_wp2_with fail
  go_loopg [1, 5] qs.length (fun gg v1 v5 w' => ∃ (i : Nat) (m : Int) (rs : List FgV) (zs : List (Int × Int × List Int × List Int)), i ≤ qs.length ∧ qs.length - i ≤ gg ∧ v5 = .int .i64 i ∧ v1 = .int .i64 m ∧ Aside0 (rs.length = qs.length) ∧ Aside0 (FS w0.heap.size lo hi w' (.slice A qs.length c) rs) ∧ Aside0 (mkFS k ((rs.drop i).map fgP) m = some (n, zs)) ∧ Aside0 ((rs.take i).map fgP ++ zs = ys) ∧ Aside0 (Below w0.heap.size w0 w') ∧ Aside0 (Kept w w' (fun x => lo ≤ x ∧ x < hi)))
  case atStart => exact ⟨0, n0, qs, ys, Nat.zero_le _, by omega, rfl, rfl, ⟨rfl⟩, HF, HM, ⟨rfl⟩, HB, ⟨Kept.refl _ _⟩⟩
  case round =>
    clear HB HF HM
    obtain ⟨i, m, rs, zs, hi', hg, rfl, rfl, HL, HF, HM, HY, HB, HK⟩ := hrel
    by_cases hlt : i < qs.length
    · have hltz : (i : Int) < (qs.length : Int) := by omega
      have hge : (0 : Int) ≤ i := by omega
      have hlr : i < rs.length := by rw [HL.out]; exact hlt
      obtain ⟨q, hq⟩ : ∃ q, rs[i]? = some q := ⟨_, List.getElem?_eq_getElem hlr⟩
      have hd : (rs.drop i).map fgP = (q.w, q.h, q.l2, q.l3) :: (rs.drop (i + 1)).map fgP := by
        rw [List.drop_eq_getElem_cons hlr, List.map_cons, show rs[i] = q from Option.some.inj ((List.getElem?_eq_getElem _).symm.trans hq)]
        rfl
      obtain ⟨t1, t2, u1, u2, z2, hm2, hm3, hmr, rfl⟩ := mkFS_cons (hd ▸ HM.out)
      have HM2 := Aside0.mk hm2
      have HM3 := Aside0.mk hm3
      have HMR := Aside0.mk hmr
      have HQ := Aside0.mk hq
      have HI := Aside0.mk hlt
      have hrow0 := HF.out.row
      rw [show qs.length = rs.length from HL.out.symm] at hrow0
      obtain ⟨g, p, e1, _⟩ := Kd.R_form hrow0 (by omega)
      injection e1 with e1 _ ep
      subst e1
      have HLz := Aside0.mk hltz
      clear hd hm2 hm3 hmr hq hlr hrow0 ep hlt HM
      go_wp2_with (first
        | ((with_reducible refine gate_ (.store 3 (.tmp 16) (.tmp 14)) rfl ?_); obtain ⟨c9, hc9, hM9, hcc9, _⟩ := Kd.R_elem HF.out.row q (i : Int) (by omega) HLz.out; rw [Int.toNat_natCast, List.getD_eq_getElem?_getD, HQ.out] at hM9; obtain rfl : c9 = fgC q := hM9; refine Kd.R_store kfg (w0 := w0) w0.heap.size rfl rfl 3 (.tmp 16) (.tmp 14) rfl 30 (i : Int) 0 _ ({ q with w := m } : FgV) (.int .i64 m) [.int .i64 m] (fgC q) (fun x => lo ≤ x ∧ x < hi) (fun _ => False) rfl (by show i * 4 = (i : Int).toNat * 4 + 0; omega) rfl rfl (by kernel_rfl) (by simp; rfl) HF.out.row (by omega) HLz.out hc9 hcc9 (show 0 + 1 ≤ 4 by omega) rfl (fun _ hk => hk.elim) HB.out ?_; intro w1 ho1 hb1 hg1; rw [Int.toNat_natCast] at ho1; have HF1 := Aside0.mk (FS.put (q' := ({ q with w := m } : FgV)) HF.out ho1 hg1 HQ.out rfl rfl rfl rfl rfl rfl); have HB1 := Aside0.mk hb1; have HK1 := Aside0.mk (Kept.of_grown hg1 HK.out (fun x hx => .inl (HF.out.row.1 x hx))); have HQ1 := Aside0.mk (set_set_at (q1 := ({ q with w := m } : FgV)) HQ.out); clear ho1 hb1 hg1 hc9 hcc9 HB HK)
        | ((with_reducible refine gate_ (.store 3 (.tmp 23) (.tmp 21)) rfl ?_); obtain ⟨c9, hc9, hM9, hcc9, _⟩ := Kd.R_elem HF1.out.row q (i : Int) (by omega) HLz.out; rw [Int.toNat_natCast, List.getD_eq_getElem?_getD, HQ1.out] at hM9; obtain rfl : c9 = fgC { q with w := m } := hM9; refine Kd.R_store kfg (w0 := w0) w0.heap.size rfl rfl 3 (.tmp 23) (.tmp 21) rfl 30 (i : Int) 1 _ ({ q with w := m, h := wrap64 (m + 1) } : FgV) (.int .i64 (wrap64 (m + 1))) [.int .i64 (wrap64 (m + 1))] (fgC { q with w := m }) (fun x => lo ≤ x ∧ x < hi) (fun _ => False) rfl (by show i * 4 + 1 = (i : Int).toNat * 4 + 1; omega) rfl rfl (by kernel_rfl) (by simp; rfl) HF1.out.row (by omega) HLz.out hc9 hcc9 (show 1 + 1 ≤ 4 by omega) rfl (fun _ hk => hk.elim) HB1.out ?_; intro w2 ho2 hb2 hg2; rw [Int.toNat_natCast] at ho2; have HF2 := Aside0.mk (FS.put (q' := ({ q with w := m, h := wrap64 (m + 1) } : FgV)) HF1.out ho2 hg2 HQ1.out rfl rfl rfl rfl rfl rfl); have HB2 := Aside0.mk hb2; have HK2 := Aside0.mk (Kept.of_grown hg2 HK1.out (fun x hx => .inl (HF1.out.row.1 x hx))); have HQ2 := Aside0.mk (set_set_at (q1 := ({ q with w := m, h := wrap64 (m + 1) } : FgV)) HQ1.out); clear ho2 hb2 hg2 hc9 hcc9 HB1 HK1 HF1; have HFx := Aside0.mk (show FS w0.heap.size lo hi w2 (.slice (some ⟨g, 0, none⟩) qs.length c) (rs.set i ({ q with w := m, h := wrap64 (m + 1) } : FgV)) from by have e := HF2.out; rw [List.set_set] at e; exact e); have HQx : Aside0 ((rs.set i ({ q with w := m, h := wrap64 (m + 1) } : FgV))[i]? = some ({ q with w := m, h := wrap64 (m + 1) } : FgV)) := ⟨set_set_at HQ.out⟩; clear HF2 HQ1 HQ2; obtain ⟨c0, c1, c2, c3⟩ := su_cellsN HFx.out.row HQx.out)
        | (go_at_call 45; (with_reducible refine (FS.mark2 (q := ({ q with w := m, h := wrap64 (m + 1) } : FgV)) HM2.out HB2.out HFx.out HQx.out).mono ?_); rintro e w3 ⟨rfl, hl3, hf3, hb3, hk3⟩; rw [List.set_set] at hf3; have HF3 := Aside0.mk (show FS w0.heap.size lo hi w3 (.slice (some ⟨g, 0, none⟩) qs.length c) (rs.set i ({ q with w := m, h := wrap64 (m + 1), l2 := t2 } : FgV)) from hf3); have HB3 := Aside0.mk hb3; have HK3 := Aside0.mk (HK2.out.then_ hk3 (fun x hx => .inl hx)); have HQ3 : Aside0 ((rs.set i ({ q with w := m, h := wrap64 (m + 1), l2 := t2 } : FgV))[i]? = some ({ q with w := m, h := wrap64 (m + 1), l2 := t2 } : FgV)) := ⟨set_set_at HQ.out⟩; clear hl3 hf3 hb3 hk3 HB2 HK2 HFx HQx c0 c1 c2 c3; obtain ⟨c0, c1, c2, c3⟩ := su_cellsN HF3.out.row HQ3.out)
        | (go_at_call 45; (with_reducible refine (FS.mark3 (q := ({ q with w := m, h := wrap64 (m + 1), l2 := t2 } : FgV)) HM3.out HB3.out HF3.out HQ3.out).mono ?_); rintro e w4 ⟨rfl, hl4, hf4, hb4, hk4⟩; rw [List.set_set] at hf4; have HF4 := Aside0.mk (show FS w0.heap.size lo hi w4 (.slice (some ⟨g, 0, none⟩) qs.length c) (rs.set i ({ q with w := m, h := wrap64 (m + 1), l2 := t2, l3 := u2 } : FgV)) from hf4); have HB4 := Aside0.mk hb4; have HK4 := Aside0.mk (HK3.out.then_ hk4 (fun x hx => .inl hx)); clear hl4 hf4 hb4 hk4 HB3 HK3 HF3 HQ3 c0 c1 c2 c3))
      have HW : Aside0 (wrap64 ((i : Int) + 1) = ((i + 1 : Nat) : Int)) := ⟨by have := HI.out; clear HM2; unfold wrap64; omega⟩
      go_roundg (qs.length - (i + 1))
      case measure => have := HI.out; omega
      case rel =>
        have hlr : i < rs.length := by rw [HL.out]; exact HI.out
        refine ⟨i + 1, u1, rs.set i ({ q with w := m, h := wrap64 (m + 1), l2 := t2, l3 := u2 } : FgV), z2, HI.out, Nat.le_refl _, by first | rfl | rw [HW.out] | go_num, rfl, ⟨by rw [List.length_set]; exact HL.out⟩, HF4, ⟨?_⟩, ⟨?_⟩, HB4, HK4⟩
        · rw [List.drop_set_of_lt (by omega)]
          exact HMR.out
        · rw [← HY.out, List.take_succ_eq_append_getElem (by rw [List.length_set]; exact hlr), List.take_set_of_le (Nat.le_refl _), List.getElem_set_self, List.map_append, List.append_assoc]
          rfl
    · have hltz : ¬ (i : Int) < (qs.length : Int) := by omega
      obtain rfl : i = qs.length := by omega
      have hm := HM.out
      rw [List.drop_of_length_le (by rw [HL.out]; exact Nat.le_refl _)] at hm
      simp only [List.map_nil, mkFS, Option.some.injEq, Prod.mk.injEq] at hm
      obtain ⟨rfl, rfl⟩ := hm
      have hy := HY.out
      rw [List.append_nil, List.take_of_length_le (by rw [HL.out]; exact Nat.le_refl _)] at hy
      go_wp2_with fail
      go_ret
      exact ⟨rfl, rs, hy, HL.out, by rw [HL.out]; exact HF.out, HB.out, HK.out⟩
end
theorem hdFS_cons {k : Nat} {x1 x2 : Int} {x3 x4 : List Int} {r : List (Int × Int × List Int × List Int)} {n m : Int} (h : hdFS k ((x1, x2, x3, x4) :: r) n = some m) : x1 = n ∧ x2 = wrap64 (n + 1) ∧ ∃ t u, laws_heldIntS.f k x3 (wrap64 (wrap64 (n + 1) + 1)) = some t ∧ 0 ≤ t ∧ laws_heldIntS.f k x4 t = some u ∧ 0 ≤ u ∧ hdFS k r u = some m := by
  rw [hdFS] at h
  by_cases h1 : x1 = n
  · by_cases h2 : x2 = wrap64 (n + 1)
    · rw [if_pos h1, if_pos h2] at h
      obtain ⟨t, h3, h⟩ := Option.bind_eq_some_iff.mp h
      by_cases h4 : 0 ≤ t
      · rw [if_pos h4] at h
        obtain ⟨u, h5, h⟩ := Option.bind_eq_some_iff.mp h
        by_cases h6 : 0 ≤ u
        · rw [if_pos h6] at h
          exact ⟨h1, h2, t, u, h3, h4, h5, h6, h⟩
        · rw [if_neg h6] at h; cases h
      · rw [if_neg h4] at h; cases h
    · rw [if_pos h1, if_neg h2] at h; cases h
  · rw [if_neg h1] at h; cases h
section
attribute [local go_sem] su_add
set_option maxHeartbeats 8000000 in
set_option maxRecDepth 100000 in
theorem laws_heldFigureS.calls (k : Nat) (A : Option Addr) (c : Nat) (qs : List FgV) (b : Nat) (ok : Nat → Prop) (n0 n : Int) (w : World) (h1 : Kd.R kfg 30 w b ok (.slice A qs.length c) qs) (hq : ∀ q ∈ qs, FgR w q) (h : hdFS k (qs.map fgP) n0 = some n) :
    Calls Tryz.prog 31 #[.slice A qs.length c, .int .i64 n0] w fun e w' => e = .returned (.int .i64 n) ∧ Below w.heap.size w w' := by
  have H1 := Aside0.mk h1
  have HQ := Aside0.mk hq
  have HM := Aside0.mk h
  have hmx : qs.length ≤ 9223372036854775807 := Kd.C_max (Kd.R_reads' h1).2.2
  clear h1 hq h
  have hu1 := Tryz.underlying30
  go_enter Tryz.func31, Tryz.ntmps31
  go_wp2_with fail
  go_loopg [1, 5] qs.length (fun gg v1 v5 w' => ∃ (i : Nat) (m : Int), i ≤ qs.length ∧ qs.length - i ≤ gg ∧ v5 = .int .i64 i ∧ v1 = .int .i64 m ∧ Aside0 (hdFS k ((qs.drop i).map fgP) m = some n) ∧ Aside0 (Below w.heap.size w w'))
  case atStart => exact ⟨0, n0, Nat.zero_le _, by omega, rfl, rfl, HM, ⟨Below.refl _ _⟩⟩
  case round =>
    clear HM
    obtain ⟨i, m, hi', hg, rfl, rfl, HM, HB⟩ := hrel
    by_cases hlt : i < qs.length
    · have hltz : (i : Int) < (qs.length : Int) := by omega
      have hge : (0 : Int) ≤ i := by omega
      obtain ⟨q, hq⟩ : ∃ q, qs[i]? = some q := ⟨_, List.getElem?_eq_getElem hlt⟩
      have hd : (qs.drop i).map fgP = (q.w, q.h, q.l2, q.l3) :: (qs.drop (i + 1)).map fgP := by
        rw [List.drop_eq_getElem_cons hlt, List.map_cons, show qs[i] = q from Option.some.inj ((List.getElem?_eq_getElem _).symm.trans hq)]
        rfl
      obtain ⟨hw1, hw2, t, u, hh2, ht, hh3, hu, hrest⟩ := hdFS_cons (hd ▸ HM.out)
      have HH2 := Aside0.mk hh2
      have HH3 := Aside0.mk hh3
      have HR := Aside0.mk hrest
      have HQ1 := Aside0.mk ((HQ.out q (List.mem_of_getElem? hq)).below HB.out)
      have HI := Aside0.mk hlt
      obtain ⟨g, p, e1, _⟩ := Kd.R_form H1.out (by omega)
      injection e1 with e1 _ ep
      subst e1
      obtain ⟨c0, c1, c2, c3⟩ := su_cells (Kd.R_below H1.out HB.out) hq
      rw [hw1] at c0
      rw [hw2] at c1
      have hdt : decide (t < 0) = false := decide_eq_false (by omega)
      have hdu : decide (u < 0) = false := decide_eq_false (by omega)
      clear hd hh2 hh3 hrest hq ep hlt HM hw1 hw2 ht hu
      go_wp2_with (first
        | (go_at_call 46; (with_reducible refine (laws_heldIntS.calls k q.A2 q.c2 q.l2 (wrap64 (wrap64 (m + 1) + 1)) t _ HQ1.out.c2 HQ1.out.n2 HH2.out).mono ?_); rintro e w3 ⟨rfl, hd3⟩; have hb3 := hd3.below; have HB3 := Aside0.mk (below_step HB.out hb3); have HQ3 := Aside0.mk (HQ1.out.below hb3); replace c2 := pw_cell_below hb3 c2; replace c3 := pw_cell_below hb3 c3; clear hd3 hb3 c0 c1 HB HQ1)
        | (go_at_call 46; (with_reducible refine (laws_heldIntS.calls k q.A3 q.c3 q.l3 t u _ HQ3.out.c3 HQ3.out.n3 HH3.out).mono ?_); rintro e w4 ⟨rfl, hd4⟩; have HB4 := Aside0.mk (below_step HB3.out hd4.below); clear hd4 c2 c3 HQ3 HB3))
      have HW : Aside0 (wrap64 ((i : Int) + 1) = ((i + 1 : Nat) : Int)) := ⟨by have := HI.out; clear HH2; unfold wrap64; omega⟩
      go_roundg (qs.length - (i + 1))
      case measure => have := HI.out; omega
      case rel => exact ⟨i + 1, u, HI.out, Nat.le_refl _, by first | rfl | rw [HW.out] | go_num, rfl, HR, HB4⟩
    · have hltz : ¬ (i : Int) < (qs.length : Int) := by omega
      obtain rfl : i = qs.length := by omega
      have hm := HM.out
      rw [List.drop_length] at hm
      simp only [List.map_nil, hdFS, Option.some.injEq] at hm
      subst hm
      go_wp2_with fail
      go_ret
      exact ⟨rfl, HB.out⟩
end
section
set_option maxHeartbeats 8000000 in
set_option maxRecDepth 100000 in
theorem impl_Solutions.calls (k : Nat) (a0 a1 : Int) (A2 : Option Addr) (c2 : Nat) (l2 : List Int) (A3 : Option Addr) (c3 : Nat) (l3 : List Int) (d4 : Int) (d5 : Bool) (d6 : Int) (fs : List (Int × Int × List Int × List Int)) (ok : Bool) (w : World) (hT : TzTab w) (hr2 : Kd.C (Kd.int .i64) w A2 l2.length l2) (hc2 : l2.length ≤ c2) (hr3 : Kd.C (Kd.int .i64) w A3 l3.length l3) (hc3 : l3.length ≤ c3) (h : solsF k a0 a1 l2 l3 d4 d5 d6 = some (fs, ok)) :
    Calls Tryz.prog 28 #[.agg #[.int .i64 a0, .int .i64 a1, .slice A2 l2.length c2, .slice A3 l3.length c3, .int .i64 d4, .bool d5, .int .i64 d6]] w fun e w' => ∃ v qs, e = .returned (.tuple #[v, .bool ok]) ∧ qs.map fgP = fs ∧ Kd.R kfg 30 w' w.heap.size (fun _ => True) v qs ∧ (∀ q ∈ qs, FgN w.heap.size (fun _ => True) w' q) ∧ qs.Pairwise FgD ∧ Below w.heap.size w w' := by
  have HT := Aside0.mk hT
  have HR2 := Aside0.mk hr2
  have HR3 := Aside0.mk hr3
  have HS := Aside0.mk h
  clear hT hr2 hr3 h
  have hu1 := Tryz.underlying30
  have hu3 := Tryz.underlying32
  have HB0 : Aside0 (Below w.heap.size w (w.alloc (Obj.cells #[.int .i64 a0, .int .i64 a1, .slice A2 l2.length c2, .slice A3 l3.length c3, .int .i64 d4, .bool d5, .int .i64 d6] 32))) := ⟨below_alloc (Below.refl _ _) _⟩
  go_enter Tryz.func28, Tryz.ntmps28
  go_wp2_with (go_at_call 37; (with_reducible refine (solutions_calls k a0 a1 A2 c2 l2 A3 c3 l3 d4 d5 d6 fs ok _ (tz_below HT.out HB0.out) (Kd.C_alloc HR2.out _) hc2 (Kd.C_alloc HR3.out _) hc3 HS.out).mono ?_); rintro e w1 ⟨v, qs, rfl, hm, hr, hq, hd, hb⟩; have HB := Aside0.mk (below_step HB0.out hb); have HL := Aside0.mk (Kd.R_lower hr (below_size HB0.out)); have HQ := Aside0.mk (fun q hx => (hq q hx).lower (below_size HB0.out)); have HM := Aside0.mk hm; have HD := Aside0.mk hd; clear hb hm hr hq hd HB0)
  go_ret2
  exact ⟨v, qs, rfl, HM.out, HL.out, HQ.out, HD.out, HB.out⟩
set_option maxHeartbeats 8000000 in
set_option maxRecDepth 100000 in
theorem spec_Solutions.calls (k : Nat) (a0_0 : Int) (a0_1 : Int) (A0_2 : Option Addr) (c0_2 : Nat) (l0_2 : List Int) (A0_3 : Option Addr) (c0_3 : Nat) (l0_3 : List Int) (a0_4 : Int) (a0_5 : Bool) (a0_6 : Int) (fs : List (Int × Int × List Int × List Int)) (ok : Bool) (w : World) (hr0_2 : Kd.C (Kd.int .i64) w A0_2 l0_2.length l0_2) (hc0_2 : l0_2.length ≤ c0_2) (hr0_3 : Kd.C (Kd.int .i64) w A0_3 l0_3.length l0_3) (hc0_3 : l0_3.length ≤ c0_3) (h : spec_Solutions.f k a0_0 a0_1 l0_2 l0_3 a0_4 a0_5 a0_6 = some (fs, ok)) :
    Calls Tryz.prog 27 #[.agg #[.int .i64 a0_0, .int .i64 a0_1, .slice A0_2 l0_2.length c0_2, .slice A0_3 l0_3.length c0_3, .int .i64 a0_4, .bool a0_5, .int .i64 a0_6]] w fun e w' => ∃ v qs, e = .returned (.tuple #[v, .bool ok]) ∧ qs.map fgP = fs ∧ Kd.R kfg 30 w' w.heap.size (fun _ => True) v qs ∧ (∀ q ∈ qs, FgN w.heap.size (fun _ => True) w' q) ∧ Below w.heap.size w w' := by
  have HR2 := Aside0.mk hr0_2
  have HR3 := Aside0.mk hr0_3
  unfold spec_Solutions.f at h
  obtain ⟨⟨ms, o⟩, hs, h⟩ := Option.bind_eq_some_iff.mp h
  simp only at h
  have HS := Aside0.mk hs
  clear hr0_2 hr0_3 hs
  have hu1 := Tryz.underlying30
  have hu3 := Tryz.underlying32
  have HB0 : Aside0 (Below w.heap.size w (w.alloc (Obj.cells #[.int .i64 a0_0, .int .i64 a0_1, .slice A0_2 l0_2.length c0_2, .slice A0_3 l0_3.length c0_3, .int .i64 a0_4, .bool a0_5, .int .i64 a0_6] 32))) := ⟨below_alloc (Below.refl _ _) _⟩
  have HP0 : Aside0 ((w.alloc (Obj.cells #[.int .i64 a0_0, .int .i64 a0_1, .slice A0_2 l0_2.length c0_2, .slice A0_3 l0_3.length c0_3, .int .i64 a0_4, .bool a0_5, .int .i64 a0_6] 32)).heap[w.heap.size]? = some (.cells #[.int .i64 a0_0, .int .i64 a0_1, .slice A0_2 l0_2.length c0_2, .slice A0_3 l0_3.length c0_3, .int .i64 a0_4, .bool a0_5, .int .i64 a0_6] 32 (0, 0))) := ⟨fg_new w _⟩
  cases o with
  | false =>
    rw [if_neg (by simp)] at h
    simp only [Option.some.injEq, Prod.mk.injEq] at h
    obtain ⟨rfl, rfl⟩ := h
    go_enter Tryz.func27, Tryz.ntmps27
    go_wp2_with (go_at_call 35; (with_reducible refine (spec_pzAsked.calls k a0_0 a0_1 A0_2 c0_2 l0_2 A0_3 c0_3 l0_3 a0_4 a0_5 a0_6 ms false _ (Kd.C_alloc HR2.out _) hc0_2 (Kd.C_alloc HR3.out _) hc0_3 HS.out).mono ?_); rintro e w1 ⟨v0, rfl, hr, hb⟩; have HB := Aside0.mk (below_step HB0.out hb); clear hb hr HB0 HP0)
    go_ret2
    exact ⟨_, [], rfl, rfl, Kd.R_nil _ _ _ _ _, by simp, HB.out⟩
  | true =>
    rw [if_pos rfl] at h
    obtain ⟨l, hl, h⟩ := Option.bind_eq_some_iff.mp h
    simp only [Option.some.injEq, Prod.mk.injEq] at h
    obtain ⟨rfl, rfl⟩ := h
    have HL := Aside0.mk hl
    clear hl
    go_enter Tryz.func27, Tryz.ntmps27
    go_wp2_with (first
      | (go_at_call 35; (with_reducible refine (spec_pzAsked.calls k a0_0 a0_1 A0_2 c0_2 l0_2 A0_3 c0_3 l0_3 a0_4 a0_5 a0_6 ms true _ (Kd.C_alloc HR2.out _) hc0_2 (Kd.C_alloc HR3.out _) hc0_3 HS.out).mono ?_); rintro e w1 ⟨v0, rfl, hr, hb⟩; have HB := Aside0.mk (below_step HB0.out hb); have HP := Aside0.mk (blk_below HP0.out hb); obtain ⟨A, c, rfl⟩ := Kd.R_slice hr; have HM := Aside0.mk (Kd.R_reads' hr).2; have p0 : w1.cell? ⟨w.heap.size, 0, none⟩ = some (.int .i64 a0_0) := (blk_cell HP.out 0).trans rfl; have p1 : w1.cell? ⟨w.heap.size, 1, none⟩ = some (.int .i64 a0_1) := (blk_cell HP.out 1).trans rfl; clear hb hr HB0 HP0)
      | (go_at_call 48; (with_reducible refine (spec_moSorted.calls k a0_0 a0_1 A c ms l w1 HM.out.2 HM.out.1 HL.out).mono ?_); rintro e w2 ⟨v, qs, rfl, hm, hr, hq, hb⟩; have HB2 := Aside0.mk (below_step HB.out hb); have HR := Aside0.mk (Kd.R_lower hr (below_size HB.out)); have HMM := Aside0.mk hm; have HQ := Aside0.mk (fun q hx => (hq q hx).lower (below_size HB.out)); clear hb hm hr hq HB HP p0 p1))
    go_ret2
    exact ⟨v, qs, rfl, HMM.out, HR.out, HQ.out, HB2.out⟩
end
end Go.Proofs.YtopifdmaaibcnaaGreatDoor.H
