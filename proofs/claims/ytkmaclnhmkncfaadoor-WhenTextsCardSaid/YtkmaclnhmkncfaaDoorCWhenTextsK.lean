/- WhenTexts: for every input the law returns true, and the arguments read as they did. -/
import Derived.Test.YtkmaclnhmkncfaaDoorCards
import Derived.Test.YtkmaclnhmkncfaaDoorTie
import Derived.Test.YtkmaclnhmkncfaaDoorP1
import Derived.WalkKit
import Derived.ProofKit
import Derived.OpenShut
import Derived.Deep.DeepHandedRow
import Derived.Lib.LaidTab
set_option linter.unusedVariables false
set_option linter.unusedSimpArgs false

namespace Go.Proofs.YtkmaclnhmkncfaaDoor.whenTexts
open Go Dv Go.ChangeShapes Go.WideShapes Go.ChangeAt Go.RowKit

theorem law (B : Nat) (xs : List PV) (h : ArgsTy EE 12 Tryd.f7.params.toList xs B) : callF EE 7 xs = some (.bool true) := by
  have hp : Tryd.f7.params.toList = [ty_computusref07_On, ty_computusref07_At] := by kernel_rfl
  rw [hp] at h
  obtain ⟨xs, _, _, ps, rfl, h1, _, h, _⟩ := argsTy_cons h
  obtain ⟨xs, _, _, qs, rfl, h2, _, h, _⟩ := argsTy_cons h
  have := argsTy_nil h
  subst this
  obtain ⟨hl, hf⟩ := inTy_struct (fs := [(0, ty_int), (1, ty_int64), (2, ty_int64)]) rfl h1
  obtain ⟨hm, hg⟩ := inTy_struct (fs := [(0, ty_int64), (1, ty_uint8)]) rfl h2
  match ps, (show ps.length = 3 from hl), qs, (show qs.length = 2 from hm) with
  | [a, b, c], _, [d, e], _ =>
    obtain ⟨k, hk, _⟩ := inTy_int (k := .i64) rfl (hf (0, ty_int) (by simp))
    obtain ⟨wd, hwd, _⟩ := inTy_int (k := .i64) rfl (hf (1, ty_int64) (by simp))
    obtain ⟨n, hn, _⟩ := inTy_int (k := .i64) rfl (hf (2, ty_int64) (by simp))
    obtain ⟨s, hs, s1, s2⟩ := inTy_int (k := .i64) rfl (hg (0, ty_int64) (by simp))
    obtain ⟨z, hz, _⟩ := inTy_int (k := .u8) rfl (hg (1, ty_uint8) (by simp))
    cases (show [a] = _ from hk); cases (show [b] = _ from hwd); cases (show [c] = _ from hn); cases (show [d] = _ from hs); cases (show [e] = _ from hz)
    exact whenTexts_s k wd n ⟨s1, s2⟩


theorem own : ownKnob Tryd.prog.godebug = none := by kernel_rfl
noncomputable def witArgs : Array Value := #[.agg #[.int .i64 0, .int .i64 0, .int .i64 0], .agg #[.int .i64 0, .int .u8 0]]
noncomputable def laidWorld (os : Os) : World := layW Tryd.prog Rows.whenTextsRow.laid (World.holding Tryd.prog os ⟨#[], #[], []⟩)
theorem laid_met (os : Os) : laidMet Tryd.prog Rows.whenTextsRow.laid ((laidWorld os).forCall (fun _ _ => 0) ⟨#[], witArgs, []⟩).memory :=
  laidMet_of_run' 8 (by kernel_rfl) (by kernel_rfl)
theorem reads (os : Os) {H : Type} (enc : TypeId × Value → H) : ∃ places, DataW.whole enc Tryd.prog ((laidWorld os).forCall (fun _ _ => 0) ⟨#[], witArgs, []⟩).memory Tryd.f7.params.toList Rows.whenTextsSpec.vars false witArgs.toList 8 = some ([.agg [.lit (.int .i64 0), .lit (.int .i64 0), .lit (.int .i64 0)], .agg [.lit (.int .i64 0), .lit (.int .u8 0)]], [], places) :=
  ⟨[], by kernel_rfl⟩

set_option maxRecDepth 100000 in
theorem lifted (os : Os) (started : os.Started) (H : Type) (enc : TypeId × Value → H) (F : Stop.Interp) :
    ReturnsInHanded {} Tryd.checked os 7 .any ((OpenSpec.ofChange Rows.whenTextsSpec).preRow enc Tryd.prog Tryd.f7 Rows.whenTextsRow.domain false Rows.whenTextsRow.laid) (((OpenSpec.ofChange Rows.whenTextsSpec).at F).post enc Tryd.prog Tryd.f7 false true false false) := by
  obtain ⟨places, hx⟩ := reads os enc
  refine returnsInHanded_of_row (C := Tryd.checked) (s := OpenSpec.ofChange Rows.whenTextsSpec) own started (by kernel_rfl) Tryd.func7
    (witness_row_at (enc := enc) (C := Tryd.checked) false (laidWorld os) witArgs (layW_os _ _ _) (by kernel_rfl) (by kernel_rfl) (by kernel_rfl)
      (OpenSpec.preRow_of_cond 8 hx (by kernel_rfl) (fun k hk => by cases hk) (by kernel_rfl) (laid_met os))) ?_
  intro W base args ds gs before hval hW _ hcond _ _ _ _
  exact law_contract (E := EE) (n := 12) (tb := ty_bool) envOk inlOk extOk Tryd.func7 rfl Rows.whenTextsSpec rfl
    (fun ds hl => by
      match ds, hl with
      | [_, _], _ => rfl) (by kernel_rfl) Tryd.underlying4 (by kernel_rfl) (by kernel_rfl) (by kernel_rfl) (law _) hval hW (Nat.le_refl _)

theorem said : Rows.WhenTextsSaid :=
  OpenClaim.holds_of_cond 7 Tryd.f7 rfl rfl rfl rfl rfl rfl rfl ⟨rfl, rfl, rfl, rfl, rfl⟩ rfl rfl rfl rfl rfl (by kernel_rfl) Tryd.func7 (by kernel_rfl)
    (of_decide_eq_true (by kernel_rfl)) (by unfold Func.isWrapper; first | (rw [if_pos (by decide +kernel)]; kernel_rfl) | (rw [if_neg (by decide +kernel)]; exact ⟨rfl, rfl⟩))
    (fun os started H enc _ F => by rw [OpenClaim.pre_eq_preRow]; exact lifted os started H enc F)

theorem plain (f : FuncId) (fn : Func) (hf : Tryd.pinned.checked.prog.funcNamed "computus/computuslaw07.WhenTexts" = some f) (hfn : Tryd.pinned.checked.prog.funcs[f]? = some fn) :
    true = Tryd.pinned.checked.prog.looks [] ∧ ∀ (j : Nat) t, fn.params[j]? = some t → Tryd.pinned.checked.prog.wantsStandIn t = false := by
  obtain rfl : f = 7 := Option.some.inj ((show Tryd.prog.funcNamed "computus/computuslaw07.WhenTexts" = some 7 by kernel_rfl).symm.trans hf) |>.symm
  obtain rfl : fn = Tryd.f7 := (Option.some.inj (Tryd.func7.symm.trans hfn)).symm
  refine ⟨by kernel_rfl, fun j t ht => ?_⟩
  have h := List.mem_of_getElem? (show Tryd.f7.params.toList[j]? = some t by simpa using ht)
  have hall : allB (fun t => !Tryd.prog.wantsStandIn t) Tryd.f7.params.toList = true := by kernel_rfl
  have := allB_spec hall t h
  show Tryd.prog.wantsStandIn t = false
  simpa using this

theorem card : Rows.WhenTextsCardSaid :=
  Claim7.holds_tied_plain_at .later [] _ _ _ _ said (fun _ h => by cases h) (by kernel_rfl) (fun _ h => by cases h) whenTexts_row_tie rfl ⟨rfl, rfl⟩ (by kernel_rfl) rfl plain (by kernel_rfl)
end Go.Proofs.YtkmaclnhmkncfaaDoor.whenTexts
