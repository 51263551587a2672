/- ReadAgo: for every input the law returns true, and the arguments read as they did. -/
import Derived.Test.YtdniadhpgohccaaGreatDoorCards
import Derived.Test.YtdniadhpgohccaaGreatDoorTie
import Derived.Test.YtdniadhpgohccaaGreatDoorVP1
import Derived.WalkKit
import Derived.ProofKit
import Derived.OpenShut
import Derived.Deep.DeepHandedRow
import Derived.Lib.LaidTab
set_option linter.unusedVariables false
set_option linter.unusedSimpArgs false

namespace Go.Proofs.YtdniadhpgohccaaGreatDoor.readAgo
open Go Dv Go.ChangeShapes Go.WideShapes Go.ChangeAt Go.RowKit

theorem law (B : Nat) (xs : List PV) (h : zr7 EE 12 Tryz.f3.params.toList xs B) : callF EE 3 xs = some (.bool true) := by
  have hp : Tryz.f3.params.toList = [z11h, z11h, z11h] := by kernel_rfl
  rw [hp] at h
  obtain ⟨xs, _, _, ps, rfl, h0, _, h, _⟩ := zp7 h
  obtain ⟨xs, _, _, qs, rfl, h1, _, h, _⟩ := zp7 h
  obtain ⟨xs, _, _, rs, rfl, h2, _, h, _⟩ := zp7 h
  have := z1da h
  subst this
  obtain ⟨n, rfl, n1, n2⟩ := z131 (k := .i64) rfl h0
  obtain ⟨m, rfl, m1, m2⟩ := z131 (k := .i64) rfl h1
  obtain ⟨u, rfl, u1, u2⟩ := z131 (k := .i64) rfl h2
  exact readAgo_s (show In64 n from ⟨n1, n2⟩) (show In64 m from ⟨m1, m2⟩) (show In64 u from ⟨u1, u2⟩)


theorem own : ownKnob Tryz.prog.godebug = none := by kernel_rfl
noncomputable def witArgs : Array Value := #[.int .i64 0, .int .i64 0, .int .i64 0]
noncomputable def laidWorld (os : Os) : World := layW Tryz.prog Rows.readAgoRow.laid (World.holding Tryz.prog os ⟨#[], #[], []⟩)
theorem laid_met (os : Os) : laidMet Tryz.prog Rows.readAgoRow.laid ((laidWorld os).forCall (fun _ _ => 0) ⟨#[], witArgs, []⟩).memory :=
  laidMet_of_run' 8 (by kernel_rfl) (by kernel_rfl)
theorem reads (os : Os) {H : Type} (enc : TypeId × Value → H) : ∃ places, DataW.whole enc Tryz.prog ((laidWorld os).forCall (fun _ _ => 0) ⟨#[], witArgs, []⟩).memory Tryz.f3.params.toList Rows.readAgoSpec.vars false witArgs.toList 8 = some ([.lit (.int .i64 0), .lit (.int .i64 0), .lit (.int .i64 0)], [], places) :=
  ⟨[], by kernel_rfl⟩

set_option maxRecDepth 100000 in
theorem lifted (os : Os) (started : os.Started) (H : Type) (enc : TypeId × Value → H) (F : Stop.Interp) :
    ReturnsInHanded {} Tryz.checked os 3 .any ((OpenSpec.ofChange Rows.readAgoSpec).preRow enc Tryz.prog Tryz.f3 Rows.readAgoRow.domain false Rows.readAgoRow.laid) (((OpenSpec.ofChange Rows.readAgoSpec).at F).post enc Tryz.prog Tryz.f3 false true false false) := by
  obtain ⟨places, hx⟩ := reads os enc
  refine returnsInHanded_of_row (C := Tryz.checked) (s := OpenSpec.ofChange Rows.readAgoSpec) own started (by kernel_rfl) Tryz.func3
    (witness_row_at (enc := enc) (C := Tryz.checked) false (laidWorld os) witArgs (layW_os _ _ _) (by kernel_rfl) (by kernel_rfl) (by kernel_rfl)
      (OpenSpec.preRow_of_cond 8 hx (by kernel_rfl) (fun k hk => by cases hk) (by kernel_rfl) (laid_met os))) ?_
  intro W base args ds gs before hval hW _ hcond _ _ _ _
  exact z15y (E := EE) (n := 12) (tb := ty_bool) envOk extOk Tryz.func3 rfl Rows.readAgoSpec rfl
    (fun ds hl => by
      match ds, hl with
      | [_, _, _], _ => rfl) (by kernel_rfl) Tryz.underlying4 (by kernel_rfl) (by kernel_rfl) (by kernel_rfl) (law _) hval hW (Nat.le_refl _)

theorem said : Rows.ReadAgoSaid :=
  OpenClaim.holds_of_cond 3 Tryz.f3 rfl rfl rfl rfl rfl rfl rfl ⟨rfl, rfl, rfl, rfl, rfl⟩ rfl rfl rfl rfl rfl (by kernel_rfl) Tryz.func3 (by kernel_rfl)
    (of_decide_eq_true (by kernel_rfl)) (by unfold Func.isWrapper; first | (rw [if_pos (by decide +kernel)]; kernel_rfl) | (rw [if_neg (by decide +kernel)]; exact ⟨rfl, rfl⟩))
    (fun os started H enc _ F => by rw [OpenClaim.pre_eq_preRow]; exact lifted os started H enc F)

theorem plain (f : FuncId) (fn : Func) (hf : Tryz.pinned.checked.prog.funcNamed "computus/computuslaw18.ReadAgo" = some f) (hfn : Tryz.pinned.checked.prog.funcs[f]? = some fn) :
    true = Tryz.pinned.checked.prog.looks [] ∧ ∀ (j : Nat) t, fn.params[j]? = some t → Tryz.pinned.checked.prog.wantsStandIn t = false := by
  obtain rfl : f = 3 := Option.some.inj ((show Tryz.prog.funcNamed "computus/computuslaw18.ReadAgo" = some 3 by kernel_rfl).symm.trans hf) |>.symm
  obtain rfl : fn = Tryz.f3 := (Option.some.inj (Tryz.func3.symm.trans hfn)).symm
  refine ⟨by kernel_rfl, fun j t ht => ?_⟩
  have h := List.mem_of_getElem? (show Tryz.f3.params.toList[j]? = some t by simpa using ht)
  have hall : allB (fun t => !Tryz.prog.wantsStandIn t) Tryz.f3.params.toList = true := by kernel_rfl
  have := zt hall t h
  show Tryz.prog.wantsStandIn t = false
  simpa using this

theorem card : Rows.ReadAgoCardSaid :=
  Claim7.holds_tied_plain_at .later [] _ _ _ _ said (fun _ h => by cases h) (by kernel_rfl) (fun _ h => by cases h) readAgo_row_tie rfl ⟨rfl, rfl⟩ (by kernel_rfl) rfl plain (by kernel_rfl)
end Go.Proofs.YtdniadhpgohccaaGreatDoor.readAgo
