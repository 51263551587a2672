/- ShowSpanBack: for every input the law returns true, and the arguments read as they did. -/
import Derived.Test.YtdniadhpgohccaaGreatDoorCards
import Derived.Test.YtdniadhpgohccaaGreatDoorTie
import Derived.Test.YtdniadhpgohccaaGreatDoorWP1
import Derived.Test.YtdniadhpgohccaaGreatDoorWP2
import Derived.WalkKit
import Derived.ProofKit
import Derived.OpenShut
import Derived.Deep.DeepHandedRow
import Derived.Lib.LaidTab
set_option linter.unusedVariables false
set_option linter.unusedSimpArgs false

namespace Go.Proofs.YtdniadhpgohccaaGreatDoor.showSpanBack
open Go Dv Go.ChangeShapes Go.WideShapes Go.ChangeAt Go.RowKit

theorem law (B : Nat) (xs : List PV) (h : zrm EE 12 Tryz.f6.params.toList xs B) : callF EE 6 xs = some (.bool true) := by
  have hp : Tryz.f6.params.toList = [zb, zhh] := by kernel_rfl
  rw [hp] at h
  obtain ⟨xs, _, _, qs, rfl, h1, _, h, _⟩ := zz5 h
  obtain ⟨xs, _, _, rs, rfl, h2, _, h, _⟩ := zz5 h
  have := z1ek h
  subst this
  obtain ⟨hl, hf⟩ := zy5 (fs := [(0, zt4), (1, zj7), (2, zj7), (3, zj7)]) rfl h1
  obtain ⟨hl2, hf2⟩ := zy5 (fs := [(0, zt4), (1, zt4), (2, zt4)]) rfl h2
  match qs, (show qs.length = 4 from hl), rs, (show rs.length = 3 from hl2) with
  | [a, b, c, d], _, [x, y, z], _ =>
    obtain ⟨i, hi, _⟩ := zji (k := .i64) rfl (hf (0, zt4) (by simp))
    obtain ⟨m, hm, _⟩ := zji (k := .i64) rfl (hf (1, zj7) (by simp))
    obtain ⟨n, hn, _⟩ := zji (k := .i64) rfl (hf (2, zj7) (by simp))
    obtain ⟨u, hu, u1, u2⟩ := zji (k := .i64) rfl (hf (3, zj7) (by simp))
    obtain ⟨o1, ho1, _⟩ := zji (k := .i64) rfl (hf2 (0, zt4) (by simp))
    obtain ⟨o2, ho2, _⟩ := zji (k := .i64) rfl (hf2 (1, zt4) (by simp))
    obtain ⟨o3, ho3, _⟩ := zji (k := .i64) rfl (hf2 (2, zt4) (by simp))
    cases (show [a] = _ from hi); cases (show [b] = _ from hm); cases (show [c] = _ from hn); cases (show [d] = _ from hu)
    cases (show [x] = _ from ho1); cases (show [y] = _ from ho2); cases (show [z] = _ from ho3)
    exact z106 (show -9223372036854775808 ≤ u from u1) (show u ≤ 9223372036854775807 from u2) o1 o2 o3


theorem own : ownKnob Tryz.prog.godebug = none := by kernel_rfl
noncomputable def witArgs : Array Value := #[.agg #[.int .i64 0, .int .i64 0, .int .i64 0, .int .i64 0], .agg #[.int .i64 0, .int .i64 0, .int .i64 0]]
noncomputable def laidWorld (os : Os) : World := layW Tryz.prog Rows.showSpanBackRow.laid (World.holding Tryz.prog os ⟨#[], #[], []⟩)
theorem laid_met (os : Os) : laidMet Tryz.prog Rows.showSpanBackRow.laid ((laidWorld os).forCall (fun _ _ => 0) ⟨#[], witArgs, []⟩).memory :=
  laidMet_of_run' 8 (by kernel_rfl) (by kernel_rfl)
theorem reads (os : Os) {H : Type} (enc : TypeId × Value → H) : ∃ places, DataW.whole enc Tryz.prog ((laidWorld os).forCall (fun _ _ => 0) ⟨#[], witArgs, []⟩).memory Tryz.f6.params.toList Rows.showSpanBackSpec.vars false witArgs.toList 8 = some ([.agg [.lit (.int .i64 0), .lit (.int .i64 0), .lit (.int .i64 0), .lit (.int .i64 0)], .agg [.lit (.int .i64 0), .lit (.int .i64 0), .lit (.int .i64 0)]], [], places) :=
  ⟨[], by kernel_rfl⟩

set_option maxRecDepth 100000 in
theorem lifted (os : Os) (started : os.Started) (H : Type) (enc : TypeId × Value → H) (F : Stop.Interp) :
    ReturnsInHanded {} Tryz.checked os 6 .any ((OpenSpec.ofChange Rows.showSpanBackSpec).preRow enc Tryz.prog Tryz.f6 Rows.showSpanBackRow.domain false Rows.showSpanBackRow.laid) (((OpenSpec.ofChange Rows.showSpanBackSpec).at F).post enc Tryz.prog Tryz.f6 false true false false) := by
  obtain ⟨places, hx⟩ := reads os enc
  refine returnsInHanded_of_row (C := Tryz.checked) (s := OpenSpec.ofChange Rows.showSpanBackSpec) own started (by kernel_rfl) Tryz.func6
    (witness_row_at (enc := enc) (C := Tryz.checked) false (laidWorld os) witArgs (layW_os _ _ _) (by kernel_rfl) (by kernel_rfl) (by kernel_rfl)
      (OpenSpec.preRow_of_cond 8 hx (by kernel_rfl) (fun k hk => by cases hk) (by kernel_rfl) (laid_met os))) ?_
  intro W base args ds gs before hval hW _ hcond _ _ _ _
  exact z17c (E := EE) (n := 12) (tb := ty_bool) envOk extOk Tryz.func6 rfl Rows.showSpanBackSpec rfl
    (fun ds hl => by
      match ds, hl with
      | [_, _], _ => rfl) (by kernel_rfl) Tryz.underlying4 (by kernel_rfl) (by kernel_rfl) (by kernel_rfl) (law _) hval hW (Nat.le_refl _)

theorem said : Rows.ShowSpanBackSaid :=
  OpenClaim.holds_of_cond 6 Tryz.f6 rfl rfl rfl rfl rfl rfl rfl ⟨rfl, rfl, rfl, rfl, rfl⟩ rfl rfl rfl rfl rfl (by kernel_rfl) Tryz.func6 (by kernel_rfl)
    (of_decide_eq_true (by kernel_rfl)) (by unfold Func.isWrapper; first | (rw [if_pos (by decide +kernel)]; kernel_rfl) | (rw [if_neg (by decide +kernel)]; exact ⟨rfl, rfl⟩))
    (fun os started H enc _ F => by rw [OpenClaim.pre_eq_preRow]; exact lifted os started H enc F)

theorem plain (f : FuncId) (fn : Func) (hf : Tryz.pinned.checked.prog.funcNamed "computus/computuslaw19.ShowSpanBack" = some f) (hfn : Tryz.pinned.checked.prog.funcs[f]? = some fn) :
    true = Tryz.pinned.checked.prog.looks [] ∧ ∀ (j : Nat) t, fn.params[j]? = some t → Tryz.pinned.checked.prog.wantsStandIn t = false := by
  obtain rfl : f = 6 := Option.some.inj ((show Tryz.prog.funcNamed "computus/computuslaw19.ShowSpanBack" = some 6 by kernel_rfl).symm.trans hf) |>.symm
  obtain rfl : fn = Tryz.f6 := (Option.some.inj (Tryz.func6.symm.trans hfn)).symm
  refine ⟨by kernel_rfl, fun j t ht => ?_⟩
  have h := List.mem_of_getElem? (show Tryz.f6.params.toList[j]? = some t by simpa using ht)
  have hall : allB (fun t => !Tryz.prog.wantsStandIn t) Tryz.f6.params.toList = true := by kernel_rfl
  have := zz hall t h
  show Tryz.prog.wantsStandIn t = false
  simpa using this

theorem card : Rows.ShowSpanBackCardSaid :=
  Claim7.holds_tied_plain_at .later [] _ _ _ _ said (fun _ h => by cases h) (by kernel_rfl) (fun _ h => by cases h) showSpanBack_row_tie rfl ⟨rfl, rfl⟩ (by kernel_rfl) rfl plain (by kernel_rfl)
end Go.Proofs.YtdniadhpgohccaaGreatDoor.showSpanBack
