/- ShowInstants: for every input (the arguments together of bulk up to 1048576) the law returns true, and the arguments read as they did. -/
import Derived.Test.YtpjebfbniheahaaGreatRows
import Derived.Test.YtpjebfbniheahaaGreatiP1
import Derived.Test.YtpjebfbniheahaaGreatiP2
import Derived.WalkKit
import Derived.ProofKit
import Derived.OpenShut
import Derived.Deep.DeepHandedRow
import Derived.Lib.LaidTab
set_option linter.unusedVariables false
set_option linter.unusedSimpArgs false

namespace Go.Proofs.YtpjebfbniheahaaGreat.showInstants
open Go Dv Go.ChangeShapes Go.WideShapes Go.ChangeAt Go.RowKit

theorem law (xs : List PV) (h : zum EE 12 Tryz.f3.params.toList xs 1048576) : callF EE 3 xs = some (.bool true) := by
  have hp : Tryz.f3.params.toList = [zr, z93, z6g] := by kernel_rfl
  rw [hp] at h
  obtain ⟨xs, _, _, ps, rfl, h0, hb, h, hc⟩ := zs5 h
  obtain ⟨xs, _, _, qs, rfl, h1, _, h, _⟩ := zs5 h
  obtain ⟨xs, _, _, rs, rfl, h2, _, h, _⟩ := zs5 h
  have := z1h6 h
  subst this
  obtain ⟨T, t1, t2, t3, t4, rfl⟩ := table_ex h0 (Nat.le_trans hb (Nat.le_trans (Nat.le_add_right _ _) hc))
  obtain ⟨hl, hf⟩ := z6p (fs := [(0, zpr), (1, z2d)]) rfl h1
  obtain ⟨hl2, hf2⟩ := z6p (fs := [(0, zpr), (1, zpr), (2, zpr)]) rfl h2
  match qs, (show qs.length = 2 from hl), rs, (show rs.length = 3 from hl2) with
  | [a, b], _, [x, y, z], _ =>
    obtain ⟨n, hn, _⟩ := z4z (k := .i64) rfl (hf (0, zpr) (by simp))
    obtain ⟨u, hu, u1, u2⟩ := z4z (k := .i64) rfl (hf (1, z2d) (by simp))
    obtain ⟨o1, ho1, _⟩ := z4z (k := .i64) rfl (hf2 (0, zpr) (by simp))
    obtain ⟨o2, ho2, _⟩ := z4z (k := .i64) rfl (hf2 (1, zpr) (by simp))
    obtain ⟨o3, ho3, _⟩ := z4z (k := .i64) rfl (hf2 (2, zpr) (by simp))
    cases (show [a] = _ from hn); cases (show [b] = _ from hu)
    cases (show [x] = _ from ho1); cases (show [y] = _ from ho2); cases (show [z] = _ from ho3)
    exact z127 T t1 t2 t3 t4 n (show In64 u from ⟨u1, u2⟩) o1 o2 o3


mutual
theorem bulk1 {H : Type} : ∀ d : DataW H, Rows.uptoBulk d = dbulk d
  | .lit l => by cases l <;> simp only [Rows.uptoBulk, dbulk]
  | .nil => by simp only [Rows.uptoBulk, dbulk]
  | .ptr d => by simp only [Rows.uptoBulk, dbulk, bulk1 d]
  | .slice a b => by simp only [Rows.uptoBulk, dbulk, bulkL a, bulkL b]
  | .agg l => by simp only [Rows.uptoBulk, dbulk, bulkL l]
  | .iface t d => by simp only [Rows.uptoBulk, dbulk, bulk1 d]
  | .map l => by simp only [Rows.uptoBulk, dbulk, bulkE l]
  | .held h => by simp only [Rows.uptoBulk, dbulk]
theorem bulkL {H : Type} : ∀ l : List (DataW H), Rows.uptoBulkAll l = z6u l
  | [] => by simp only [Rows.uptoBulkAll, z6u]
  | d :: r => by simp only [Rows.uptoBulkAll, z6u, bulk1 d, bulkL r]
theorem bulkE {H : Type} : ∀ l : List (Lit × DataW H), Rows.uptoBulkEntries l = z19u l
  | [] => by simp only [Rows.uptoBulkEntries, z19u]
  | x :: r => by simp only [Rows.uptoBulkEntries, z19u, bulkP x, bulkE r]
theorem bulkP {H : Type} : ∀ x : Lit × DataW H, Rows.uptoBulkEntry x = dbulkP x
  | (l, d) => by cases l <;> simp only [Rows.uptoBulkEntry, dbulkP, bulk1 d]
end

theorem own : ownKnob Tryz.prog.godebug = none := by kernel_rfl
noncomputable def witArgs : Array Value := #[.agg #[.string ⟨#[]⟩, .int .i64 0, .int .i64 0, .bool false, .string ⟨#[]⟩, .slice none 0 0, .bool false, .int .i64 0, .int .i64 0, .int .i64 0, .int .i64 0, .int .i64 0, .int .i64 0, .int .i64 0, .int .u8 0, .int .i64 0, .string ⟨#[]⟩, .int .i64 0, .int .i64 0, .int .i64 0, .int .i64 0, .int .i64 0, .int .u8 0, .int .i64 0, .string ⟨#[]⟩], .agg #[.int .i64 0, .int .i64 0], .agg #[.int .i64 0, .int .i64 0, .int .i64 0]]
noncomputable def laidWorld (os : Os) : World := layW Tryz.prog Rows.showInstantsUptoRow.laid (World.holding Tryz.prog os ⟨#[], #[], []⟩)
theorem laid_met (os : Os) : laidMet Tryz.prog Rows.showInstantsUptoRow.laid ((laidWorld os).forCall (fun _ _ => 0) ⟨#[], witArgs, []⟩).memory :=
  laidMet_of_run' 8 (by kernel_rfl) (by kernel_rfl)
theorem reads (os : Os) {H : Type} (enc : TypeId × Value → H) : ∃ places, DataW.whole enc Tryz.prog ((laidWorld os).forCall (fun _ _ => 0) ⟨#[], witArgs, []⟩).memory Tryz.f3.params.toList Rows.showInstantsSpec.vars false witArgs.toList 8 = some ([.agg [.lit (.string []), .agg [.lit (.int .i64 0), .lit (.int .i64 0), .lit (.bool false), .lit (.string [])], .nil, .agg [.lit (.bool false), .lit (.int .i64 0), .lit (.int .i64 0), .agg [.lit (.int .i64 0), .agg [.lit (.int .i64 0), .lit (.int .i64 0), .lit (.int .i64 0)], .agg [.lit (.int .i64 0), .lit (.int .u8 0)], .lit (.int .i64 0), .lit (.string [])], .agg [.lit (.int .i64 0), .agg [.lit (.int .i64 0), .lit (.int .i64 0), .lit (.int .i64 0)], .agg [.lit (.int .i64 0), .lit (.int .u8 0)], .lit (.int .i64 0), .lit (.string [])]]], .agg [.lit (.int .i64 0), .lit (.int .i64 0)], .agg [.lit (.int .i64 0), .lit (.int .i64 0), .lit (.int .i64 0)]], [], places) :=
  ⟨[], by kernel_rfl⟩

set_option maxRecDepth 100000 in
theorem lifted (os : Os) (started : os.Started) (H : Type) (enc : TypeId × Value → H) (F : Stop.Interp) :
    ReturnsInHanded {} Tryz.checked os 3 .any ((Rows.OpenSpec.upto Rows.showInstantsSpec).preRow enc Tryz.prog Tryz.f3 Rows.showInstantsUptoRow.domain false Rows.showInstantsUptoRow.laid) (((Rows.OpenSpec.upto Rows.showInstantsSpec).at F).post enc Tryz.prog Tryz.f3 false true false false) := by
  obtain ⟨places, hx⟩ := reads os enc
  refine returnsInHanded_of_row (C := Tryz.checked) (s := Rows.OpenSpec.upto Rows.showInstantsSpec) own started (by kernel_rfl) Tryz.func3
    (witness_row_at (enc := enc) (C := Tryz.checked) false (laidWorld os) witArgs (layW_os _ _ _) (by kernel_rfl) (by kernel_rfl) (by kernel_rfl)
      (OpenSpec.preRow_of_cond 8 hx (by kernel_rfl) (fun k hk => by cases hk; kernel_rfl) (by kernel_rfl) (laid_met os))) ?_
  intro W base args ds gs before hval hW _ hcond _ _ _ _
  have hb : z6u ds ≤ 1048576 := by
    have h := hcond _ rfl
    have h := of_decide_eq_true h
    rw [bulkL, zu8] at h
    omega
  exact z195 (E := EE) (n := 12) (tb := zyx) envOk extOk Tryz.func3 rfl Rows.showInstantsSpec rfl
    (fun ds hl => by
      match ds, hl with
      | [_, _, _], _ => rfl) (by kernel_rfl) Tryz.underlying4 (by kernel_rfl) (by kernel_rfl) (by kernel_rfl) law hval hW hb

theorem said : Rows.ShowInstantsUptoSaid :=
  OpenClaim.holds_of_cond 3 Tryz.f3 rfl rfl rfl rfl rfl rfl rfl ⟨rfl, rfl, rfl, rfl, rfl⟩ rfl rfl rfl rfl rfl (by kernel_rfl) Tryz.func3 (by kernel_rfl)
    (of_decide_eq_true (by kernel_rfl)) (by unfold Func.isWrapper; first | (rw [if_pos (by decide +kernel)]; kernel_rfl) | (rw [if_neg (by decide +kernel)]; exact ⟨rfl, rfl⟩))
    (fun os started H enc _ F => by rw [OpenClaim.pre_eq_preRow]; exact lifted os started H enc F)

end Go.Proofs.YtpjebfbniheahaaGreat.showInstants
