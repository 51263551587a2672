/- ShowValues: for every input (the arguments together of bulk up to 1048576) the law returns true, and the arguments read as they did. -/
import Derived.Test.YtpjebfbniheahaaGreatRows
import Derived.Test.YtpjebfbniheahaaGreatvP1
import Derived.Test.YtpjebfbniheahaaGreatvP2
import Derived.WalkKit
import Derived.ProofKit
import Derived.OpenShut
import Derived.Deep.DeepHandedRow
import Derived.Lib.LaidTab
set_option linter.unusedVariables false
set_option linter.unusedSimpArgs false

namespace Go.Proofs.YtpjebfbniheahaaGreat.showValues
open Go Dv Go.ChangeShapes Go.WideShapes Go.ChangeAt Go.RowKit

theorem law (xs : List PV) (h : zyo EE 12 Tryz.f4.params.toList xs 1048576) : callF EE 4 xs = some (.bool true) := by
  have hp : Tryz.f4.params.toList = [z59, zq, z2e] := by kernel_rfl
  rw [hp] at h
  obtain ⟨xs, _, _, qs, rfl, h1, _, h, hc1⟩ := zw6 h
  obtain ⟨xs, _, _, ps, rfl, h0, hb, h, hc⟩ := zw6 h
  obtain ⟨xs, _, _, rs, rfl, h2, _, h, _⟩ := zw6 h
  have := z1lt h
  subst this
  obtain ⟨V, v1, v2, v3, rfl⟩ := val_ex h1
  obtain ⟨T, t1, t2, t3, t4, rfl⟩ := table_ex h0 (by omega)
  obtain ⟨hl2, hf2⟩ := z4n (fs := [(0, zcj), (1, zcj), (2, zcj)]) rfl h2
  match rs, (show rs.length = 3 from hl2) with
  | [x, y, z], _ =>
    obtain ⟨o1, ho1, _⟩ := z29 (k := .i64) rfl (hf2 (0, zcj) (by simp))
    obtain ⟨o2, ho2, _⟩ := z29 (k := .i64) rfl (hf2 (1, zcj) (by simp))
    obtain ⟨o3, ho3, _⟩ := z29 (k := .i64) rfl (hf2 (2, zcj) (by simp))
    cases (show [x] = _ from ho1); cases (show [y] = _ from ho2); cases (show [z] = _ from ho3)
    exact z1cs V v1 v2 v3 T t1 t2 t3 t4 o1 o2 o3


mutual
theorem bulk1 {H : Type} : ∀ d : DataW H, Rows.uptoBulk d = dbulk d
  | .lit l => by cases l <;> simp only [Rows.uptoBulk, dbulk]
  | .nil => by simp only [Rows.uptoBulk, dbulk]
  | .ptr d => by simp only [Rows.uptoBulk, dbulk, bulk1 d]
  | .slice a b => by simp only [Rows.uptoBulk, dbulk, bulkL a, bulkL b]
  | .agg l => by simp only [Rows.uptoBulk, dbulk, bulkL l]
  | .iface t d => by simp only [Rows.uptoBulk, dbulk, bulk1 d]
  | .map l => by simp only [Rows.uptoBulk, dbulk, bulkE l]
  | .held h => by simp only [Rows.uptoBulk, dbulk]
theorem bulkL {H : Type} : ∀ l : List (DataW H), Rows.uptoBulkAll l = z8a l
  | [] => by simp only [Rows.uptoBulkAll, z8a]
  | d :: r => by simp only [Rows.uptoBulkAll, z8a, bulk1 d, bulkL r]
theorem bulkE {H : Type} : ∀ l : List (Lit × DataW H), Rows.uptoBulkEntries l = z1ef l
  | [] => by simp only [Rows.uptoBulkEntries, z1ef]
  | x :: r => by simp only [Rows.uptoBulkEntries, z1ef, bulkP x, bulkE r]
theorem bulkP {H : Type} : ∀ x : Lit × DataW H, Rows.uptoBulkEntry x = dbulkP x
  | (l, d) => by cases l <;> simp only [Rows.uptoBulkEntry, dbulkP, bulk1 d]
end

theorem own : ownKnob Tryz.prog.godebug = none := by kernel_rfl
noncomputable def witArgs : Array Value := #[.agg #[.int .i64 0, .bool false, .int .i64 0, .int .i64 0, .string ⟨#[]⟩, .int .i64 0, .int .i64 0, .int .i64 0, .int .i64 0, .int .i64 0, .int .i64 0, .int .i64 0, .int .i64 0], .agg #[.string ⟨#[]⟩, .int .i64 0, .int .i64 0, .bool false, .string ⟨#[]⟩, .slice none 0 0, .bool false, .int .i64 0, .int .i64 0, .int .i64 0, .int .i64 0, .int .i64 0, .int .i64 0, .int .i64 0, .int .u8 0, .int .i64 0, .string ⟨#[]⟩, .int .i64 0, .int .i64 0, .int .i64 0, .int .i64 0, .int .i64 0, .int .u8 0, .int .i64 0, .string ⟨#[]⟩], .agg #[.int .i64 0, .int .i64 0, .int .i64 0]]
noncomputable def laidWorld (os : Os) : World := layW Tryz.prog Rows.showValuesUptoRow.laid (World.holding Tryz.prog os ⟨#[], #[], []⟩)
theorem laid_met (os : Os) : laidMet Tryz.prog Rows.showValuesUptoRow.laid ((laidWorld os).forCall (fun _ _ => 0) ⟨#[], witArgs, []⟩).memory :=
  laidMet_of_run' 8 (by kernel_rfl) (by kernel_rfl)
theorem reads (os : Os) {H : Type} (enc : TypeId × Value → H) : ∃ places, DataW.whole enc Tryz.prog ((laidWorld os).forCall (fun _ _ => 0) ⟨#[], witArgs, []⟩).memory Tryz.f4.params.toList Rows.showValuesSpec.vars false witArgs.toList 8 = some ([.agg [.lit (.int .i64 0), .lit (.bool false), .lit (.int .i64 0), .lit (.int .i64 0), .lit (.string []), .agg [.lit (.int .i64 0), .lit (.int .i64 0)], .agg [.lit (.int .i64 0), .lit (.int .i64 0)], .agg [.lit (.int .i64 0), .lit (.int .i64 0), .lit (.int .i64 0), .lit (.int .i64 0)]], .agg [.lit (.string []), .agg [.lit (.int .i64 0), .lit (.int .i64 0), .lit (.bool false), .lit (.string [])], .nil, .agg [.lit (.bool false), .lit (.int .i64 0), .lit (.int .i64 0), .agg [.lit (.int .i64 0), .agg [.lit (.int .i64 0), .lit (.int .i64 0), .lit (.int .i64 0)], .agg [.lit (.int .i64 0), .lit (.int .u8 0)], .lit (.int .i64 0), .lit (.string [])], .agg [.lit (.int .i64 0), .agg [.lit (.int .i64 0), .lit (.int .i64 0), .lit (.int .i64 0)], .agg [.lit (.int .i64 0), .lit (.int .u8 0)], .lit (.int .i64 0), .lit (.string [])]]], .agg [.lit (.int .i64 0), .lit (.int .i64 0), .lit (.int .i64 0)]], [], places) :=
  ⟨[], by kernel_rfl⟩

set_option maxRecDepth 100000 in
theorem lifted (os : Os) (started : os.Started) (H : Type) (enc : TypeId × Value → H) (F : Stop.Interp) :
    ReturnsInHanded {} Tryz.checked os 4 .any ((Rows.OpenSpec.upto Rows.showValuesSpec).preRow enc Tryz.prog Tryz.f4 Rows.showValuesUptoRow.domain false Rows.showValuesUptoRow.laid) (((Rows.OpenSpec.upto Rows.showValuesSpec).at F).post enc Tryz.prog Tryz.f4 false true false false) := by
  obtain ⟨places, hx⟩ := reads os enc
  refine returnsInHanded_of_row (C := Tryz.checked) (s := Rows.OpenSpec.upto Rows.showValuesSpec) own started (by kernel_rfl) Tryz.func4
    (witness_row_at (enc := enc) (C := Tryz.checked) false (laidWorld os) witArgs (layW_os _ _ _) (by kernel_rfl) (by kernel_rfl) (by kernel_rfl)
      (OpenSpec.preRow_of_cond 8 hx (by kernel_rfl) (fun k hk => by cases hk; kernel_rfl) (by kernel_rfl) (laid_met os))) ?_
  intro W base args ds gs before hval hW _ hcond _ _ _ _
  have hb : z8a ds ≤ 1048576 := by
    have h := hcond _ rfl
    have h := of_decide_eq_true h
    rw [bulkL, zyb] at h
    omega
  exact z1dv (E := EE) (n := 12) (tb := zux) envOk extOk Tryz.func4 rfl Rows.showValuesSpec rfl
    (fun ds hl => by
      match ds, hl with
      | [_, _, _], _ => rfl) (by kernel_rfl) Tryz.underlying4 (by kernel_rfl) (by kernel_rfl) (by kernel_rfl) law hval hW hb

theorem said : Rows.ShowValuesUptoSaid :=
  OpenClaim.holds_of_cond 4 Tryz.f4 rfl rfl rfl rfl rfl rfl rfl ⟨rfl, rfl, rfl, rfl, rfl⟩ rfl rfl rfl rfl rfl (by kernel_rfl) Tryz.func4 (by kernel_rfl)
    (of_decide_eq_true (by kernel_rfl)) (by unfold Func.isWrapper; first | (rw [if_pos (by decide +kernel)]; kernel_rfl) | (rw [if_neg (by decide +kernel)]; exact ⟨rfl, rfl⟩))
    (fun os started H enc _ F => by rw [OpenClaim.pre_eq_preRow]; exact lifted os started H enc F)

end Go.Proofs.YtpjebfbniheahaaGreat.showValues
