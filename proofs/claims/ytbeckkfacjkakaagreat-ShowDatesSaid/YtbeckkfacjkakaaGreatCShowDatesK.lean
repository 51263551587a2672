/- ShowDates: for every input the law returns true, and the arguments read as they did. -/
import Derived.Test.YtbeckkfacjkakaaGreatRows
import Derived.Test.YtbeckkfacjkakaaGreatP1
import Derived.WalkKit
import Derived.ProofKit
import Derived.OpenShut
import Derived.Deep.DeepHandedRow
import Derived.Lib.LaidTab
set_option linter.unusedVariables false
set_option linter.unusedSimpArgs false

namespace Go.Proofs.YtbeckkfacjkakaaGreat.showDates
open Go Dv Go.ChangeShapes Go.WideShapes Go.ChangeAt Go.RowKit

theorem law (B : Nat) (xs : List PV) (h : ArgsTy EE 12 Tryz.f3.params.toList xs B) : callF EE 3 xs = some (.bool true) := by
  have hp : Tryz.f3.params.toList = [ty_api_Date, ty_api_Stamp, ty_api_Style] := by kernel_rfl
  rw [hp] at h
  obtain ⟨xs, _, _, ps, rfl, h0, _, h, _⟩ := argsTy_cons h
  obtain ⟨xs, _, _, qs, rfl, h1, _, h, _⟩ := argsTy_cons h
  obtain ⟨xs, _, _, rs, rfl, h2, _, h, _⟩ := argsTy_cons h
  have := argsTy_nil h
  subst this
  obtain ⟨hl0, hf0⟩ := inTy_struct (fs := [(0, ty_int), (1, ty_int64)]) rfl h0
  obtain ⟨hl, hf⟩ := inTy_struct (fs := [(0, ty_int), (1, ty_int64)]) rfl h1
  obtain ⟨hl2, hf2⟩ := inTy_struct (fs := [(0, ty_int), (1, ty_int), (2, ty_int)]) rfl h2
  match ps, (show ps.length = 2 from hl0), qs, (show qs.length = 2 from hl), rs, (show rs.length = 3 from hl2) with
  | [p, q], _, [a, b], _, [x, y, z], _ =>
    obtain ⟨i, hi, _⟩ := inTy_int (k := .i64) rfl (hf0 (0, ty_int) (by simp))
    obtain ⟨m, hm, _⟩ := inTy_int (k := .i64) rfl (hf0 (1, ty_int64) (by simp))
    obtain ⟨n, hn, _⟩ := inTy_int (k := .i64) rfl (hf (0, ty_int) (by simp))
    obtain ⟨u, hu, u1, u2⟩ := inTy_int (k := .i64) rfl (hf (1, ty_int64) (by simp))
    obtain ⟨o1, ho1, _⟩ := inTy_int (k := .i64) rfl (hf2 (0, ty_int) (by simp))
    obtain ⟨o2, ho2, _⟩ := inTy_int (k := .i64) rfl (hf2 (1, ty_int) (by simp))
    obtain ⟨o3, ho3, _⟩ := inTy_int (k := .i64) rfl (hf2 (2, ty_int) (by simp))
    cases (show [p] = _ from hi); cases (show [q] = _ from hm); cases (show [a] = _ from hn); cases (show [b] = _ from hu)
    cases (show [x] = _ from ho1); cases (show [y] = _ from ho2); cases (show [z] = _ from ho3)
    exact showDates_s i m n (show In64 u from ⟨u1, u2⟩) o1 o2 o3


theorem own : ownKnob Tryz.prog.godebug = none := by kernel_rfl
noncomputable def witArgs : Array Value := #[.agg #[.int .i64 0, .int .i64 0], .agg #[.int .i64 0, .int .i64 0], .agg #[.int .i64 0, .int .i64 0, .int .i64 0]]
noncomputable def laidWorld (os : Os) : World := layW Tryz.prog Rows.showDatesRow.laid (World.holding Tryz.prog os ⟨#[], #[], []⟩)
theorem laid_met (os : Os) : laidMet Tryz.prog Rows.showDatesRow.laid ((laidWorld os).forCall (fun _ _ => 0) ⟨#[], witArgs, []⟩).memory :=
  laidMet_of_run' 8 (by kernel_rfl) (by kernel_rfl)
theorem reads (os : Os) {H : Type} (enc : TypeId × Value → H) : ∃ places, DataW.whole enc Tryz.prog ((laidWorld os).forCall (fun _ _ => 0) ⟨#[], witArgs, []⟩).memory Tryz.f3.params.toList Rows.showDatesSpec.vars false witArgs.toList 8 = some ([.agg [.lit (.int .i64 0), .lit (.int .i64 0)], .agg [.lit (.int .i64 0), .lit (.int .i64 0)], .agg [.lit (.int .i64 0), .lit (.int .i64 0), .lit (.int .i64 0)]], [], places) :=
  ⟨[], by kernel_rfl⟩

set_option maxRecDepth 100000 in
theorem lifted (os : Os) (started : os.Started) (H : Type) (enc : TypeId × Value → H) (F : Stop.Interp) :
    ReturnsInHanded {} Tryz.checked os 3 .any ((OpenSpec.ofChange Rows.showDatesSpec).preRow enc Tryz.prog Tryz.f3 Rows.showDatesRow.domain false Rows.showDatesRow.laid) (((OpenSpec.ofChange Rows.showDatesSpec).at F).post enc Tryz.prog Tryz.f3 false true false false) := by
  obtain ⟨places, hx⟩ := reads os enc
  refine returnsInHanded_of_row (C := Tryz.checked) (s := OpenSpec.ofChange Rows.showDatesSpec) own started (by kernel_rfl) Tryz.func3
    (witness_row_at (enc := enc) (C := Tryz.checked) false (laidWorld os) witArgs (layW_os _ _ _) (by kernel_rfl) (by kernel_rfl) (by kernel_rfl)
      (OpenSpec.preRow_of_cond 8 hx (by kernel_rfl) (fun k hk => by cases hk) (by kernel_rfl) (laid_met os))) ?_
  intro W base args ds gs before hval hW _ hcond _ _ _ _
  exact law_contract (E := EE) (n := 12) (tb := ty_bool) envOk extOk Tryz.func3 rfl Rows.showDatesSpec rfl
    (fun ds hl => by
      match ds, hl with
      | [_, _, _], _ => rfl) (by kernel_rfl) Tryz.underlying4 (by kernel_rfl) (by kernel_rfl) (by kernel_rfl) (law _) hval hW (Nat.le_refl _)

theorem said : Rows.ShowDatesSaid :=
  OpenClaim.holds_of_cond 3 Tryz.f3 rfl rfl rfl rfl rfl rfl rfl ⟨rfl, rfl, rfl, rfl, rfl⟩ rfl rfl rfl rfl rfl (by kernel_rfl) Tryz.func3 (by kernel_rfl)
    (of_decide_eq_true (by kernel_rfl)) (by unfold Func.isWrapper; first | (rw [if_pos (by decide +kernel)]; kernel_rfl) | (rw [if_neg (by decide +kernel)]; exact ⟨rfl, rfl⟩))
    (fun os started H enc _ F => by rw [OpenClaim.pre_eq_preRow]; exact lifted os started H enc F)

end Go.Proofs.YtbeckkfacjkakaaGreat.showDates
