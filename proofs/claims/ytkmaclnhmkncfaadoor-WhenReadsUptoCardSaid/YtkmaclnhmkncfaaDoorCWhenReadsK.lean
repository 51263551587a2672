/- WhenReads: for every input (the arguments together of bulk up to 1048576) the law returns true, and the arguments read as they did. -/
import Derived.Test.YtkmaclnhmkncfaaDoorCards
import Derived.Test.YtkmaclnhmkncfaaDoorTie
import Derived.Test.YtkmaclnhmkncfaaDoorP1
import Derived.WalkKit
import Derived.ProofKit
import Derived.OpenShut
import Derived.Deep.DeepHandedRow
import Derived.Lib.LaidTab
set_option linter.unusedVariables false
set_option linter.unusedSimpArgs false

namespace Go.Proofs.YtkmaclnhmkncfaaDoor.whenReads
open Go Dv Go.ChangeShapes Go.WideShapes Go.ChangeAt Go.RowKit

theorem law (xs : List PV) (h : ArgsTy EE 12 Tryd.f3.params.toList xs 1048576) : callF EE 3 xs = some (.bool true) := by
  have hp : Tryd.f3.params.toList = [ty_string] := by kernel_rfl
  rw [hp] at h
  obtain ⟨xs, _, _, qs, rfl, h1, hb, h, hs⟩ := argsTy_cons h
  have := argsTy_nil h
  subst this
  obtain ⟨s, rfl, _⟩ := inTy_str rfl h1
  have hb : s.length + 1 + 0 ≤ _ := hb
  exact whenReads_s s (by omega)


mutual
theorem bulk1 {H : Type} : ∀ d : DataW H, Rows.uptoBulk d = dbulk d
  | .lit l => by cases l <;> simp only [Rows.uptoBulk, dbulk]
  | .nil => by simp only [Rows.uptoBulk, dbulk]
  | .ptr d => by simp only [Rows.uptoBulk, dbulk, bulk1 d]
  | .slice a b => by simp only [Rows.uptoBulk, dbulk, bulkL a, bulkL b]
  | .agg l => by simp only [Rows.uptoBulk, dbulk, bulkL l]
  | .iface t d => by simp only [Rows.uptoBulk, dbulk, bulk1 d]
  | .map l => by simp only [Rows.uptoBulk, dbulk, bulkE l]
  | .held h => by simp only [Rows.uptoBulk, dbulk]
theorem bulkL {H : Type} : ∀ l : List (DataW H), Rows.uptoBulkAll l = dbulkL l
  | [] => by simp only [Rows.uptoBulkAll, dbulkL]
  | d :: r => by simp only [Rows.uptoBulkAll, dbulkL, bulk1 d, bulkL r]
theorem bulkE {H : Type} : ∀ l : List (Lit × DataW H), Rows.uptoBulkEntries l = dbulkE l
  | [] => by simp only [Rows.uptoBulkEntries, dbulkE]
  | x :: r => by simp only [Rows.uptoBulkEntries, dbulkE, bulkP x, bulkE r]
theorem bulkP {H : Type} : ∀ x : Lit × DataW H, Rows.uptoBulkEntry x = dbulkP x
  | (l, d) => by cases l <;> simp only [Rows.uptoBulkEntry, dbulkP, bulk1 d]
end

theorem own : ownKnob Tryd.prog.godebug = none := by kernel_rfl
noncomputable def witArgs : Array Value := #[.string ⟨#[]⟩]
noncomputable def laidWorld (os : Os) : World := layW Tryd.prog Rows.whenReadsUptoRow.laid (World.holding Tryd.prog os ⟨#[], #[], []⟩)
theorem laid_met (os : Os) : laidMet Tryd.prog Rows.whenReadsUptoRow.laid ((laidWorld os).forCall (fun _ _ => 0) ⟨#[], witArgs, []⟩).memory :=
  laidMet_of_run' 8 (by kernel_rfl) (by kernel_rfl)
theorem reads (os : Os) {H : Type} (enc : TypeId × Value → H) : ∃ places, DataW.whole enc Tryd.prog ((laidWorld os).forCall (fun _ _ => 0) ⟨#[], witArgs, []⟩).memory Tryd.f3.params.toList Rows.whenReadsSpec.vars false witArgs.toList 8 = some ([.lit (.string [])], [], places) :=
  ⟨[], by kernel_rfl⟩

set_option maxRecDepth 100000 in
theorem lifted (os : Os) (started : os.Started) (H : Type) (enc : TypeId × Value → H) (F : Stop.Interp) :
    ReturnsInHanded {} Tryd.checked os 3 .any ((Rows.OpenSpec.upto Rows.whenReadsSpec).preRow enc Tryd.prog Tryd.f3 Rows.whenReadsUptoRow.domain false Rows.whenReadsUptoRow.laid) (((Rows.OpenSpec.upto Rows.whenReadsSpec).at F).post enc Tryd.prog Tryd.f3 false true false false) := by
  obtain ⟨places, hx⟩ := reads os enc
  refine returnsInHanded_of_row (C := Tryd.checked) (s := Rows.OpenSpec.upto Rows.whenReadsSpec) own started (by kernel_rfl) Tryd.func3
    (witness_row_at (enc := enc) (C := Tryd.checked) false (laidWorld os) witArgs (layW_os _ _ _) (by kernel_rfl) (by kernel_rfl) (by kernel_rfl)
      (OpenSpec.preRow_of_cond 8 hx (by kernel_rfl) (fun k hk => by cases hk; kernel_rfl) (by kernel_rfl) (laid_met os))) ?_
  intro W base args ds gs before hval hW _ hcond _ _ _ _
  have hb : dbulkL ds ≤ 1048576 := by
    have h := hcond _ rfl
    have h := of_decide_eq_true h
    rw [bulkL, dbulkL_append] at h
    omega
  exact law_contract (E := EE) (n := 12) (tb := ty_bool) envOk inlOk extOk Tryd.func3 rfl Rows.whenReadsSpec rfl
    (fun ds hl => by
      match ds, hl with
      | [_], _ => rfl) (by kernel_rfl) Tryd.underlying4 (by kernel_rfl) (by kernel_rfl) (by kernel_rfl) law hval hW hb

theorem said : Rows.WhenReadsUptoSaid :=
  OpenClaim.holds_of_cond 3 Tryd.f3 rfl rfl rfl rfl rfl rfl rfl ⟨rfl, rfl, rfl, rfl, rfl⟩ rfl rfl rfl rfl rfl (by kernel_rfl) Tryd.func3 (by kernel_rfl)
    (of_decide_eq_true (by kernel_rfl)) (by unfold Func.isWrapper; first | (rw [if_pos (by decide +kernel)]; kernel_rfl) | (rw [if_neg (by decide +kernel)]; exact ⟨rfl, rfl⟩))
    (fun os started H enc _ F => by rw [OpenClaim.pre_eq_preRow]; exact lifted os started H enc F)

theorem plain (f : FuncId) (fn : Func) (hf : Tryd.pinned.checked.prog.funcNamed "computus/computuslaw07.WhenReads" = some f) (hfn : Tryd.pinned.checked.prog.funcs[f]? = some fn) :
    true = Tryd.pinned.checked.prog.looks [] ∧ ∀ (j : Nat) t, fn.params[j]? = some t → Tryd.pinned.checked.prog.wantsStandIn t = false := by
  obtain rfl : f = 3 := Option.some.inj ((show Tryd.prog.funcNamed "computus/computuslaw07.WhenReads" = some 3 by kernel_rfl).symm.trans hf) |>.symm
  obtain rfl : fn = Tryd.f3 := (Option.some.inj (Tryd.func3.symm.trans hfn)).symm
  refine ⟨by kernel_rfl, fun j t ht => ?_⟩
  have h := List.mem_of_getElem? (show Tryd.f3.params.toList[j]? = some t by simpa using ht)
  have hall : allB (fun t => !Tryd.prog.wantsStandIn t) Tryd.f3.params.toList = true := by kernel_rfl
  have := allB_spec hall t h
  show Tryd.prog.wantsStandIn t = false
  simpa using this

theorem card : Rows.WhenReadsUptoCardSaid :=
  Claim7.holds_tied_plain_at .later [] _ _ _ _ said (fun _ h => by cases h) (by kernel_rfl) (fun _ h => by cases h) whenReadsUpto_row_tie rfl ⟨rfl, rfl⟩ (by kernel_rfl) rfl plain (by kernel_rfl)
end Go.Proofs.YtkmaclnhmkncfaaDoor.whenReads
