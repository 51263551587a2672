/- ReadDates: for every input the law returns true, and the arguments read as they did. -/
import Derived.Test.YtdniadhpgohccaaGreatDoorCards
import Derived.Test.YtdniadhpgohccaaGreatDoorTie
import Derived.Test.YtdniadhpgohccaaGreatDoorP1
import Derived.Test.YtdniadhpgohccaaGreatDoorP2
import Derived.WalkKit
import Derived.ProofKit
import Derived.OpenShut
import Derived.Deep.DeepHandedRow
import Derived.Lib.LaidTab
set_option linter.unusedVariables false
set_option linter.unusedSimpArgs false

namespace Go.Proofs.YtdniadhpgohccaaGreatDoor.readDates
open Go Dv Go.ChangeShapes Go.WideShapes Go.ChangeAt Go.RowKit

theorem law (B : Nat) (xs : List PV) (h : ztm EE 12 Tryz.f4.params.toList xs B) : callF EE 4 xs = some (.bool true) := by
  have hp : Tryz.f4.params.toList = [z4a, z2u] := by kernel_rfl
  rw [hp] at h
  obtain ⟨xs, _, _, ps, rfl, h0, _, h, _⟩ := z119 h
  obtain ⟨xs, _, _, rs, rfl, h2, _, h, _⟩ := z119 h
  have := z1gq h
  subst this
  obtain ⟨s, rfl, _⟩ := inTy_str rfl h0
  obtain ⟨hl2, hf2⟩ := z1bx (fs := [(0, z12n), (1, z12n), (2, z12n)]) rfl h2
  match rs, (show rs.length = 3 from hl2) with
  | [x, y, z], _ =>
    obtain ⟨o1, ho1, _⟩ := z160 (k := .i64) rfl (hf2 (0, z12n) (by simp))
    obtain ⟨o2, ho2, _⟩ := z160 (k := .i64) rfl (hf2 (1, z12n) (by simp))
    obtain ⟨o3, ho3, _⟩ := z160 (k := .i64) rfl (hf2 (2, z12n) (by simp))
    cases (show [x] = _ from ho1); cases (show [y] = _ from ho2); cases (show [z] = _ from ho3)
    exact z1ba s o1 o2 o3


theorem own : ownKnob Tryz.prog.godebug = none := by kernel_rfl
noncomputable def witArgs : Array Value := #[.string ⟨#[]⟩, .agg #[.int .i64 0, .int .i64 0, .int .i64 0]]
noncomputable def laidWorld (os : Os) : World := layW Tryz.prog Rows.readDatesRow.laid (World.holding Tryz.prog os ⟨#[], #[], []⟩)
theorem laid_met (os : Os) : laidMet Tryz.prog Rows.readDatesRow.laid ((laidWorld os).forCall (fun _ _ => 0) ⟨#[], witArgs, []⟩).memory :=
  laidMet_of_run' 8 (by kernel_rfl) (by kernel_rfl)
theorem reads (os : Os) {H : Type} (enc : TypeId × Value → H) : ∃ places, DataW.whole enc Tryz.prog ((laidWorld os).forCall (fun _ _ => 0) ⟨#[], witArgs, []⟩).memory Tryz.f4.params.toList Rows.readDatesSpec.vars false witArgs.toList 8 = some ([.lit (.string []), .agg [.lit (.int .i64 0), .lit (.int .i64 0), .lit (.int .i64 0)]], [], places) :=
  ⟨[], by kernel_rfl⟩

set_option maxRecDepth 100000 in
theorem lifted (os : Os) (started : os.Started) (H : Type) (enc : TypeId × Value → H) (F : Stop.Interp) :
    ReturnsInHanded {} Tryz.checked os 4 .any ((OpenSpec.ofChange Rows.readDatesSpec).preRow enc Tryz.prog Tryz.f4 Rows.readDatesRow.domain false Rows.readDatesRow.laid) (((OpenSpec.ofChange Rows.readDatesSpec).at F).post enc Tryz.prog Tryz.f4 false true false false) := by
  obtain ⟨places, hx⟩ := reads os enc
  refine returnsInHanded_of_row (C := Tryz.checked) (s := OpenSpec.ofChange Rows.readDatesSpec) own started (by kernel_rfl) Tryz.func4
    (witness_row_at (enc := enc) (C := Tryz.checked) false (laidWorld os) witArgs (layW_os _ _ _) (by kernel_rfl) (by kernel_rfl) (by kernel_rfl)
      (OpenSpec.preRow_of_cond 8 hx (by kernel_rfl) (fun k hk => by cases hk) (by kernel_rfl) (laid_met os))) ?_
  intro W base args ds gs before hval hW _ hcond _ _ _ _
  exact z190 (E := EE) (n := 12) (tb := ty_bool) envOk extOk Tryz.func4 rfl Rows.readDatesSpec rfl
    (fun ds hl => by
      match ds, hl with
      | [_, _], _ => rfl) (by kernel_rfl) Tryz.underlying4 (by kernel_rfl) (by kernel_rfl) (by kernel_rfl) (law _) hval hW (Nat.le_refl _)

theorem said : Rows.ReadDatesSaid :=
  OpenClaim.holds_of_cond 4 Tryz.f4 rfl rfl rfl rfl rfl rfl rfl ⟨rfl, rfl, rfl, rfl, rfl⟩ rfl rfl rfl rfl rfl (by kernel_rfl) Tryz.func4 (by kernel_rfl)
    (of_decide_eq_true (by kernel_rfl)) (by unfold Func.isWrapper; first | (rw [if_pos (by decide +kernel)]; kernel_rfl) | (rw [if_neg (by decide +kernel)]; exact ⟨rfl, rfl⟩))
    (fun os started H enc _ F => by rw [OpenClaim.pre_eq_preRow]; exact lifted os started H enc F)

theorem plain (f : FuncId) (fn : Func) (hf : Tryz.pinned.checked.prog.funcNamed "computus/computuslaw18.ReadDates" = some f) (hfn : Tryz.pinned.checked.prog.funcs[f]? = some fn) :
    true = Tryz.pinned.checked.prog.looks [] ∧ ∀ (j : Nat) t, fn.params[j]? = some t → Tryz.pinned.checked.prog.wantsStandIn t = false := by
  obtain rfl : f = 4 := Option.some.inj ((show Tryz.prog.funcNamed "computus/computuslaw18.ReadDates" = some 4 by kernel_rfl).symm.trans hf) |>.symm
  obtain rfl : fn = Tryz.f4 := (Option.some.inj (Tryz.func4.symm.trans hfn)).symm
  refine ⟨by kernel_rfl, fun j t ht => ?_⟩
  have h := List.mem_of_getElem? (show Tryz.f4.params.toList[j]? = some t by simpa using ht)
  have hall : allB (fun t => !Tryz.prog.wantsStandIn t) Tryz.f4.params.toList = true := by kernel_rfl
  have := zw hall t h
  show Tryz.prog.wantsStandIn t = false
  simpa using this

theorem card : Rows.ReadDatesCardSaid :=
  Claim7.holds_tied_plain_at .later [] _ _ _ _ said (fun _ h => by cases h) (by kernel_rfl) (fun _ h => by cases h) readDates_row_tie rfl ⟨rfl, rfl⟩ (by kernel_rfl) rfl plain (by kernel_rfl)
end Go.Proofs.YtdniadhpgohccaaGreatDoor.readDates
