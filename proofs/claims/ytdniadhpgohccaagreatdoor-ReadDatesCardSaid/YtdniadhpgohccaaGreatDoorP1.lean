/- The seat's proofs. -/
import Derived.Test.YtdniadhpgohccaaGreatDoorQ1
import Derived.Test.YtdniadhpgohccaaGreatDoorL3
import Derived.Test.YtdniadhpgohccaaGreatDoorQ2
import Derived.Test.YtdniadhpgohccaaGreatDoorL4
import Derived.Laws.Bits64
import Derived.Laws.RangeAny
import Derived.Lib.TrimUEq
import Derived.Lib.IndexLaws
import Derived.Test.YtdniadhpgohccaaGreatDoorL1
set_option linter.unusedVariables false
set_option linter.unusedSimpArgs false
namespace Dv
open Go
theorem chkNames : z15r EE.P.funcs.toList = true := by kernel_rfl
theorem chkTypes : z17p EE.P 0 EE.tt = true := by kernel_rfl
theorem chkEqs : eqsChk EE = true := by kernel_rfl
theorem chkMt : allB (mtChk EE.P) EE.mt = true := by kernel_rfl
theorem chkOrders : EE.P.follows .mixedOrders = true := by kernel_rfl
theorem sameOk : ∀ g, memN g EE.same = true → ExtAt EE g Extern.AbiNoEscape.same := by
 intro g h
 have he : EE.same = [206] := rfl
 rw [he] at h
 simp only [memN, Bool.or_eq_true, Bool.or_false, beq_iff_eq, Bool.false_eq_true] at h
 subst h
 exact ⟨⟨(EE.P.funcs[206]?).getD default, by kernel_rfl, by kernel_rfl, by kernel_rfl, by kernel_rfl, by kernel_rfl⟩⟩
theorem mnzOk : ∀ g e, findN g EE.mnz = some e → ∃ ps t, EE.P.underlying t = some (.slice e) ∧ ExtAt EE g (Extern.BytealgMakeNoZero.makeNoZero ps #[t]) := by
 intro g e h
 have he : EE.mnz = [(207, 5)] := rfl
 rw [he] at h
 simp only [findN] at h
 cases h1 : (g == 207) with
 | true =>
  rw [h1] at h
  simp only [cond_true, Option.some.injEq] at h
  have := eq_of_beq h1
  subst this; subst h
  exact ⟨((EE.P.funcs[207]?).getD default).params, ((EE.P.funcs[207]?).getD default).resultTypes.getD 0 0, by kernel_rfl, ⟨⟨(EE.P.funcs[207]?).getD default, by kernel_rfl, by kernel_rfl, by kernel_rfl, by kernel_rfl, by kernel_rfl⟩⟩⟩
 | false =>
 rw [h1] at h
 simp only [cond_false] at h
 cases h
theorem envOk : EnvOk EE := envChk_ok (by unfold envChk; rw [chkNames, chkTypes, chkEqs, chkMt, chkOrders]; rfl) sameOk mnzOk
theorem extOk : ExtOk EE := by
 intro g m h args r hr
 right
 have he : EE.ext = [(209, zou), (210, z5t), (214, zk4)] := rfl
 rw [he] at h
 simp only [zai] at h
 cases h1 : (g == 209) with
 | true =>
  rw [h1] at h
  simp only [cond_true, Option.some.injEq] at h
  have := eq_of_beq h1
  subst this; subst h
  exact ext_add64 ⟨⟨(EE.P.funcs[209]?).getD default, by kernel_rfl, by kernel_rfl, by kernel_rfl, by kernel_rfl, by kernel_rfl⟩⟩ args r hr
 | false =>
 rw [h1] at h
 simp only [cond_false] at h
 cases h1 : (g == 210) with
 | true =>
  rw [h1] at h
  simp only [cond_true, Option.some.injEq] at h
  have := eq_of_beq h1
  subst this; subst h
  exact z16f ⟨⟨(EE.P.funcs[210]?).getD default, by kernel_rfl, by kernel_rfl, by kernel_rfl, by kernel_rfl, by kernel_rfl⟩⟩ args r hr
 | false =>
 rw [h1] at h
 simp only [cond_false] at h
 cases h1 : (g == 214) with
 | true =>
  rw [h1] at h
  simp only [cond_true, Option.some.injEq] at h
  have := eq_of_beq h1
  subst this; subst h
  exact ext_count ⟨⟨(EE.P.funcs[214]?).getD default, by kernel_rfl, by kernel_rfl, by kernel_rfl, by kernel_rfl, by kernel_rfl⟩⟩ args r hr
 | false =>
 rw [h1] at h
 simp only [cond_false] at h
 cases h
end Dv

namespace Dv
open Go
abbrev In64 (n : Int) : Prop := -9223372036854775808 ≤ n ∧ n ≤ 9223372036854775807
theorem zfw (a : Int) {b : Int} (hb : 0 < b) : 0 ≤ a % b ∧ a % b < b := ⟨Int.emod_nonneg a (by omega), Int.emod_lt_of_pos a hb⟩
theorem zxz (a : Int) {b : Int} (hb : 0 < b) : -b < a.tmod b ∧ a.tmod b < b := by
 have h2 := zfw a hb
 rcases Int.lt_or_le a 0 with h | h
 ·have h4 : a.tmod b = -((-a).tmod b) := by rw [Int.neg_tmod]; omega
  have h6 : (-a).tmod b = (-a) % b := zjo (by omega)
  have := zfw (-a) hb
  omega
 ·rw [zjo h]; omega
theorem zuj {a b : Int} (hb : 0 < b) (hb2 : b ≤ 9223372036854775807) : z4q a b = some (.int .i64 (a % b)) := by
 rw [zp6, ← zid hb]
 have := zxz a hb
 rw [c_eqF (by omega)]
 by_cases h : a.tmod b < 0
 ·rw [c_ltT h, if_pos h, w64 (by omega) (by omega)]
 ·rw [c_ltF h, if_neg h]
theorem z1d3 {a b : Int} (ha : In64 a) (hb : 0 < b) : -9223372036854775808 ≤ a.tdiv b ∧ a.tdiv b ≤ 9223372036854775807 := by
 have h1 := Int.tmod_add_mul_tdiv a b
 have h2 := zxz a hb
 rcases Int.lt_or_le a 0 with h | h
 ·have h3 : a.tdiv b = -((-a) / b) := by rw [← za3 (by omega), Int.neg_tdiv]; omega
  have h4 : (-a) / b ≤ -a := Int.ediv_le_self b (by omega)
  have h5 : 0 ≤ (-a) / b := Int.ediv_nonneg (by omega) (by omega)
  omega
 ·rw [za3 h]
  have h4 : a / b ≤ a := Int.ediv_le_self b h
  have h5 : 0 ≤ a / b := Int.ediv_nonneg h (by omega)
  omega
theorem ref_div {a b : Int} (ha : In64 a) (ha2 : -9223372036854775808 < a) (hb : 1 < b) : zab a b = some (.int .i64 (a / b)) := by
 rw [zp7, ← zub (by omega : 0 < b)]
 have h1 := z1d3 ha (by omega : 0 < b)
 rw [c_eqF (by omega), c_eqF (by omega)]
 by_cases h : a.tmod b < 0
 ·rw [c_ltT h, if_pos h, w64 h1.1 h1.2]
  have h3 : (if a.tmod b < 0 then a.tdiv b - 1 else a.tdiv b) = a / b := zub (by omega)
  rw [if_pos h] at h3
  have h4 : a ≤ a / b * b + (b - 1) := by
   have := Int.emod_add_mul_ediv a b
   have := zfw a (by omega : 0 < b)
   rw [Int.mul_comm]; omega
  have h5 : -9223372036854775808 ≤ a.tdiv b - 1 := by
   have ha0 : a < 0 := by
    rcases Int.lt_or_le a 0 with h' | h'
    ·exact h'
    ·rw [zjo h'] at h; have := zfw a (by omega : 0 < b); omega
   have : a.tdiv b = -((-a) / b) := by rw [← za3 (by omega), Int.neg_tdiv]; omega
   have h6 : (-a) / b ≤ -a := Int.ediv_le_self b (by omega)
   omega
  rw [w64 h5 (by omega)]
 ·rw [c_ltF h, if_neg h, w64 h1.1 h1.2]
theorem z19r {a b : Int} (ha : In64 a) (ha2 : -9223372036854775808 < a) (hb : 1 < b) (hb2 : b ≤ 9223372036854775807) : zki a b = some (.tuple [.int .i64 (a / b), .int .i64 (a % b)]) := by
 have h1 := z1d3 ha (by omega : 0 < b)
 have hm := zid (a := a) (by omega : 0 < b)
 have hd := zub (a := a) (by omega : 0 < b)
 have hr := zfw a (by omega : 0 < b)
 have hq := Int.emod_add_mul_ediv a b
 rw [z12h, c_eqF (by omega), c_eqF (by omega)]
 by_cases h : a.tmod b < 0
 ·rw [if_pos h] at hm hd
  have ha0 : a < 0 := by
   rcases Int.lt_or_le a 0 with h' | h'
   ·exact h'
   ·rw [zjo h'] at h; omega
  have h5 : a.tdiv b = -((-a) / b) := by rw [← za3 (by omega), Int.neg_tdiv]; omega
  have h6 : (-a) / b ≤ -a := Int.ediv_le_self b (by omega)
  rw [c_ltT h, w64 h1.1 h1.2, w64 (n := a.tdiv b - 1) (by omega) (by omega), hm, hd, w64 (by omega) (by omega)]
 ·rw [if_neg h] at hm hd
  rw [c_ltF h, w64 h1.1 h1.2, hm, hd]
theorem z15a (y : Int) : z7h y = some (.bool (leapI y)) := by
 rw [zml, zuj (by omega) (by omega), zuj (by omega) (by omega), zuj (by omega) (by omega)]
 simp only [Option.bind_some, PV.toI, leapI]
 by_cases a4 : y % 4 = 0 <;> by_cases a1 : y % 100 = 0 <;> by_cases a0 : y % 400 = 0 <;> simp [a4, a1, a0, PV.toI, eqB]
theorem zyz (a : Int) {b : Int} (hb : 0 < b) : a.tmod b = 0 ↔ a % b = 0 := by
 have h1 := zid (a := a) hb
 have h2 := zxz a hb
 split at h1 <;> omega
theorem civ_leap (y : Int) : zv0 y = some (.bool (leapI y)) := by
 have h4 := zyz y (by omega : (0 : Int) < 4)
 have h1 := zyz y (by omega : (0 : Int) < 100)
 have h0 := zyz y (by omega : (0 : Int) < 400)
 rw [z16k]
 by_cases a4 : y % 4 = 0 <;> by_cases a1 : y % 100 = 0 <;> by_cases a0 : y % 400 = 0 <;> simp [leapI, h4, h1, h0, a4, a1, a0, eqB]
theorem mcases {m : Int} (h1 : 1 ≤ m) (h2 : m ≤ 12) : m = 1 ∨ m = 2 ∨ m = 3 ∨ m = 4 ∨ m = 5 ∨ m = 6 ∨ m = 7 ∨ m = 8 ∨ m = 9 ∨ m = 10 ∨ m = 11 ∨ m = 12 := by omega
theorem zzf {y m : Int} (h1 : 1 ≤ m) (h2 : m ≤ 12) : z4r y m = some (.int .i64 (lenI y m)) := by
 rw [zp9]
 rcases mcases h1 h2 with rfl | rfl | rfl | rfl | rfl | rfl | rfl | rfl | rfl | rfl | rfl | rfl
 case inr.inl =>
  simp only [zbq, zja, z15a, Option.bind_some, PV.toB]
  unfold lenI
  cases leapI y <;> rfl
 all_goals first | rfl | (simp only [zbq]; rfl)
theorem z1cg {y m : Int} (h1 : 1 ≤ m) (h2 : m ≤ 12) : zgj y m = some (.int .i64 (lenI y m)) := by
 rw [zmr, c_ltF (by omega), c_ltF (by omega), z113]
 rcases mcases h1 h2 with rfl | rfl | rfl | rfl | rfl | rfl | rfl | rfl | rfl | rfl | rfl | rfl
 case inr.inl =>
  simp only [civ_leap, Option.bind_some, PV.toB]
  unfold lenI
  cases leapI y <;> rfl
 all_goals rfl
theorem zpk {y x : Int} (hy : -4800 ≤ y ∧ y ≤ 294500) : ∀ (j : Nat) (k : Int), 0 ≤ k → k + j = (y - 2000) % 400 → -3000000 ≤ x → x ≤ 108000000 →
  z4k y (x + zdc k) k = some (.int .i64 (x + zdc ((y - 2000) % 400)))
 | 0, k, h0, hk, hx1, hx2 => by
  rw [zb0, w64 (by omega) (by omega), zuj (by omega) (by omega)]
  simp only [Option.bind_some, PV.toI]
  rw [c_ltF (by omega)]
  congr 3
  rw [show k = (y - 2000) % 400 by omega]
 | j + 1, k, h0, hk, hx1, hx2 => by
  have hr := zfw (y - 2000) (by omega : (0 : Int) < 400)
  have hs := zyh h0 (by omega)
  have hy0 : 0 ≤ zdc k ∧ zdc k ≤ 146097 := by unfold zdc; omega
  have ih := zpk (x := x) hy j (k + 1) (by omega) (by omega) hx1 hx2
  rw [zb0, w64 (by omega) (by omega), zuj (by omega) (by omega)]
  simp only [Option.bind_some, PV.toI]
  rw [c_ltT (by omega), w64 (n := 2000 + k) (by omega) (by omega), z15a]
  simp only [Option.bind_some, PV.toB]
  rw [w64 (n := x + zdc k + 365) (by omega) (by omega), w64 (n := k + 1) (by omega) (by omega)]
  cases hl : leapI (2000 + k) with
  | true =>
   rw [hl] at hs
   simp only [if_true] at hs
   rw [cond_true, w64 (by omega) (by omega), ← ih, hs]
   congr 1; omega
  | false =>
   rw [hl] at hs
   simp only [Bool.false_eq_true, if_false] at hs
   rw [cond_false, ← ih, hs]
   congr 1; omega
theorem ref_start {y : Int} (hy : -4800 ≤ y ∧ y ≤ 294500) : zba y = some (.int .i64 (jan1 y)) := by
 have hr := zfw (y - 2000) (by omega : (0 : Int) < 400)
 have hq : -17 ≤ (y - 2000) / 400 ∧ (y - 2000) / 400 ≤ 732 := by omega
 rw [zl8, w64 (by omega) (by omega), ref_div (by unfold In64; omega) (by omega) (by omega)]
 simp only [Option.bind_some, PV.toI]
 rw [w64 (by omega) (by omega)]
 have := zpk (y := y) (x := (y - 2000) / 400 * 146097) hy ((y - 2000) % 400).toNat 0 (by omega) (by omega) (by omega) (by omega)
 rw [z1co, Int.add_zero] at this
 exact this
theorem zvv {y m x : Int} (h2 : m ≤ 12) : ∀ (j : Nat) (k : Int), 1 ≤ k → k + j = m → -4000000 ≤ x → x ≤ 109000000 →
  z80 y m (x + z48 y k) k = some (.int .i64 (x + z48 y m))
 | 0, k, h0, hk, hx1, hx2 => by
  rw [zcw, c_ltF (by omega), show k = m by omega]
 | j + 1, k, h0, hk, hx1, hx2 => by
  have hs := zeq (y := y) h0 (by omega : k ≤ 12)
  have hb := zpp (y := y) h0 (by omega : k ≤ 12)
  have hl := zis y k h0 (by omega)
  have ih := zvv (y := y) (x := x) h2 j (k + 1) (by omega) (by omega) hx1 hx2
  rw [zcw, c_ltT (by omega), zzf h0 (by omega)]
  simp only [Option.bind_some, PV.toI]
  rw [w64 (by omega) (by omega), w64 (by omega) (by omega), ← ih, hs]
  congr 1; omega
theorem z1b8 {y m d : Int} (hy : -4800 ≤ y ∧ y ≤ 294500) (h1 : 1 ≤ m) (h2 : m ≤ 12) (hd : -1000 ≤ d ∧ d ≤ 1000) : z89 y m d = some (.int .i64 (dayI y m d)) := by
 have hj := z1bu hy.1 hy.2
 rw [zp8, ref_start hy]
 simp only [Option.bind_some, PV.toI]
 rw [w64 (n := jan1 y + d) (by omega) (by omega), w64 (by omega) (by omega)]
 have := zvv (y := y) (m := m) (x := jan1 y + d - 1) h2 (m - 1).toNat 1 (by omega) (by omega) (by omega) (by omega)
 rw [z15s, Int.add_zero] at this
 rw [this]
 unfold dayI
 congr 2; omega
theorem z1fx {y : Int} (hy : -4801 ≤ y ∧ y ≤ 294500) : -3000000 ≤ y / 400 * 146097 ∧ y / 400 * 146097 ≤ 108000000 ∧ 0 ≤ y % 400 ∧ y % 400 ≤ 399 ∧ 0 ≤ y % 400 / 4 ∧ y % 400 / 4 ≤ 99 ∧ 0 ≤ y % 400 / 100 ∧ y % 400 / 100 ≤ 3 := by
 refine ⟨?_, ?_, ?_, ?_, ?_, ?_, ?_, ?_⟩ <;> omega
theorem z143 {y m d : Int} (hy : -4801 ≤ y ∧ y ≤ 294500) (hm : 3 ≤ m ∧ m ≤ 14) (hd : -1000 ≤ d ∧ d ≤ 1000) : zhj y m d = some (.int .i64 (zpr y + (153 * (m - 3) + 2) / 5 + d - 1 - 730425)) := by
 have hr := z1fx hy
 have h5 : 0 ≤ (153 * (m - 3) + 2) / 5 ∧ (153 * (m - 3) + 2) / 5 ≤ 400 := by omega
 rw [z111, z19r (by unfold In64; omega) (by omega) (by omega) (by omega)]
 simp only [Option.bind_some, PV.tnth, nthD, PV.toI]
 rw [za3 (a := y % 400) (by omega), za3 (a := y % 400) (by omega), w64 (n := m - 3) (by omega) (by omega), w64 (n := 153 * (m - 3)) (by omega) (by omega), w64 (n := 153 * (m - 3) + 2) (by omega) (by omega), za3 (a := 153 * (m - 3) + 2) (by omega)]
 unfold zpr
 generalize y / 400 * 146097 = a at *
 generalize y % 400 = b at *
 generalize b / 4 = c at *
 generalize b / 100 = e at *
 generalize (153 * (m - 3) + 2) / 5 = f at *
 rw [w64 (n := a) (by omega) (by omega), w64 (n := b * 365) (by omega) (by omega), w64 (n := c) (by omega) (by omega), w64 (n := e) (by omega) (by omega), w64 (n := f) (by omega) (by omega),
  w64 (n := a + b * 365) (by omega) (by omega), w64 (n := a + b * 365 + c) (by omega) (by omega), w64 (n := a + b * 365 + c - e) (by omega) (by omega), w64 (n := a + b * 365 + c - e + f) (by omega) (by omega),
  w64 (n := a + b * 365 + c - e + f + d) (by omega) (by omega), w64 (n := a + b * 365 + c - e + f + d - 1) (by omega) (by omega), w64 (by omega) (by omega)]
theorem z1ch {y m d : Int} (hy : -4800 ≤ y ∧ y ≤ 294500) (h1 : 1 ≤ m) (h2 : m ≤ 12) (hd : -1000 ≤ d ∧ d ≤ 1000) : zmq y m d = some (.int .i64 (dayI y m d)) := by
 have hm := zzw (y := y) (d := d) h1 h2
 rw [z19p]
 by_cases h : m ≤ 2
 ·rw [c_leT h, w64 (by omega) (by omega), w64 (by omega) (by omega), z143 (by omega) (by omega) hd]
  rw [if_pos h, if_pos h] at hm
  rw [hm]
 ·rw [c_leF h, z143 (by omega) (by omega) hd]
  rw [if_neg h, if_neg h] at hm
  rw [hm]
def rightI (y m d : Int) : Bool := decide (-4718 ≤ y ∧ y ≤ 294282 ∧ 1 ≤ m ∧ m ≤ 12 ∧ 1 ≤ d ∧ d ≤ lenI y m)
theorem ref_right (y m d : Int) : zbb y m d = some (.bool (rightI y m d)) := by
 rw [zl9]
 unfold rightI
 by_cases a : -4718 ≤ y <;> by_cases b : y ≤ 294282 <;> by_cases c : 1 ≤ m <;> by_cases e : m ≤ 12 <;> by_cases f : 1 ≤ d <;> simp [a, b, c, e, f, leB]
 rw [zzf c e]; rfl
theorem civ_right (y m d : Int) : zr0 y m d = some (.bool (rightI y m d)) := by
 rw [z12i]
 unfold rightI
 by_cases a : -4718 ≤ y <;> by_cases b : y ≤ 294282 <;> by_cases f : 1 ≤ d <;> simp [a, b, f, leB]
 by_cases c : 1 ≤ m <;> by_cases e : m ≤ 12
 ·rw [z1cg c e]; simp [c, e]; rfl
 all_goals
  have hz : zgj y m = some (.int .i64 0) := by
   rw [zmr]
   by_cases hm : m < 1
   ·rw [c_ltT hm, zgi]
   ·rw [c_ltF hm, c_ltT (by omega), zgi]
  rw [hz]
  simp [c, e, PV.toI]
  try exact decide_eq_false (by omega)
def daysV (y m d : Int) : PV := bif rightI y m d then .tuple [.int .i64 (dayI y m d), .int .i64 0] else .tuple [.int .i64 0, .int .i64 10]
theorem z1dl (y m d : Int) : zcx y m d = some (daysV y m d) := by
 rw [zmn, ref_right]
 unfold daysV
 simp only [Option.bind_some, PV.toB]
 cases h : rightI y m d with
 | false => rfl
 | true =>
  have := of_decide_eq_true h
  have hl := zis y m this.2.2.1 this.2.2.2.1
  rw [z1b8 (by omega) (by omega) (by omega) (by omega)]; rfl
theorem z1ex (y m d : Int) : zv1 y m d = some (daysV y m d) := by
 rw [z16m, civ_right]
 unfold daysV
 simp only [Option.bind_some, PV.toB]
 cases h : rightI y m d with
 | false => rfl
 | true =>
  have := of_decide_eq_true h
  have hl := zis y m this.2.2.1 this.2.2.2.1
  rw [z1ch (by omega) (by omega) (by omega) (by omega)]; rfl
end Dv

namespace Dv
open Go
def wdOk (wd : Int) : Bool := leB 0 wd && leB wd 6
def dayOk (n : Int) : Bool := leB 1 n && leB n 31
def rightV (k wd n : Int) : Bool :=
 bif eqB k 0 then dayOk n && eqB wd 0 else bif eqB k 1 then wdOk wd && eqB n 0 else bif eqB k 2 then wdOk wd && dayOk n else bif eqB k 3 then wdOk wd && dayOk n else false
def onI (n wd : Int) : Int := n + (wd - wkI n) % 7
def backI (n wd : Int) : Int := n - (wkI n - wd) % 7
def dayK (y m k wd n : Int) : Int :=
 if k = 0 then dayI y m 1 + n - 1 else if k = 1 then backI (dayI y m 1 + lenI y m - 1) wd else if k = 2 then onI (dayI y m 1 + n - 1) wd else backI (dayI y m 1 + n - 1) wd
def canBL (y m k wd n : Int) : Bool := rightV k wd n && (leB 1 m && leB m 12)
def yearB (y : Int) : Bool := ltB (-4718) y && ltB y 294282
def dayV (y m k wd n : Int) : PV :=
 bif !canBL y m k wd n then .tuple [.int .i64 0, .int .i64 1] else bif !yearB y then .tuple [.int .i64 0, .int .i64 10] else .tuple [.int .i64 (dayK y m k wd n), .int .i64 0]
def dvR (n : Int) : PV := .tuple [.int .i64 n, .int .i64 0]
end Dv

namespace Dv
open Go
abbrev Small (s : List UInt8) : Prop := s.length ≤ 70368744177664
theorem z17b (s : List UInt8) (hs : Small s) : ∀ (j i : Nat), i + j = s.length → za0 (s.length : Int) (i : Int) ((lowS (s.take i) ++ s.drop i).map byteV) = some (.str (lowS s))
 | 0, i, h => by
  have : i = s.length := by omega
  subst this
  rw [zkl, c_ltF (by omega)]
  simp only [List.take_length, List.drop_length, List.append_nil, zr1, Option.bind_some]
 | j + 1, i, h => by
  have hi : i < s.length := by omega
  have hlen : (lowS (s.take i)).length = i := by simp; omega
  have hget : (lowS (s.take i) ++ s.drop i)[i]? = some s[i] := by
   rw [List.getElem?_append_right (by omega), hlen, Nat.sub_self, List.getElem?_drop, Nat.add_zero, List.getElem?_eq_getElem hi]
  have hl2 : ((lowS (s.take i) ++ s.drop i).map byteV).length = s.length := by simp; omega
  have ih := z17b s hs j (i + 1) (by omega)
  have hset : (lowS (s.take i) ++ s.drop i).set i (lowB s[i]) = lowS (s.take (i + 1)) ++ s.drop (i + 1) := by
   rw [List.drop_eq_getElem_cons hi, List.take_succ_eq_append_getElem hi]
   rw [List.set_append, if_neg (by omega), hlen, Nat.sub_self, List.set_cons_zero]
   show _ = (s.take i ++ [s[i]]).map lowB ++ _
   rw [List.map_append, List.append_assoc]; rfl
  have hsame : ¬ (65 ≤ s[i].toNat ∧ s[i].toNat ≤ 90) → lowS (s.take i) ++ s.drop i = lowS (s.take (i + 1)) ++ s.drop (i + 1) := by
   intro hn
   have : lowB s[i] = s[i] := by unfold lowB; rw [if_neg hn]
   rw [← hset, this]
   apply List.ext_getElem?
   intro k
   by_cases hk : i = k
   ·subst hk; rw [List.getElem?_set_self (by simp; omega), hget]
   ·rw [List.getElem?_set_ne hk]
  have hcast : ((i + 1 : Nat) : Int) = (i : Int) + 1 := by omega
  rw [zkl, c_ltT (by omega), c_inT (by rw [hl2]; omega), Int.toNat_natCast, rdT_byte hget]
  simp only [Option.bind_some, getD_byte]
  rw [hl2]
  by_cases h1 : 65 ≤ s[i].toNat
  ·rw [c_leT (by omega)]
   by_cases h2 : s[i].toNat ≤ 90
   ·rw [c_leT (by omega), c_inT (by omega)]
    have ho := or32 ⟨s[i].toNat, UInt8.toNat_lt _⟩ h1 h2
    simp only at ho
    rw [ho]
    have hb : (PV.int .u8 ((s[i].toNat + 32 : Nat) : Int)) = byteV (lowB s[i]) := by
     unfold lowB byteV
     rw [if_pos ⟨h1, h2⟩, add32 _ ⟨h1, h2⟩]; rfl
    rw [hb, stC_map (by simp; omega)]
    simp only [Option.bind_some]
    rw [hset, w64 (by omega) (by omega), ← hcast]
    exact ih
   ·rw [c_leF (by omega), w64 (by omega) (by omega), ← hcast, hsame (by omega)]
    exact ih
  ·rw [c_leF (by omega), w64 (by omega) (by omega), ← hcast, hsame (by omega)]
   exact ih
theorem zyp (s : List UInt8) (hs : Small s) : za1 s = some (.str (lowS s)) := by
 rw [z14f, List.length_map]
 have := z17b s hs s.length 0 (by omega)
 simpa [lowS] using this
theorem z188 (s : List UInt8) (hs : Small s) : ∀ (j i : Nat), i + j = s.length → z3c s (i : Int) ((lowS (s.take i)).map byteV) = some (.str (lowS s))
 | 0, i, h => by
  have : i = s.length := by omega
  subst this
  rw [zay, c_ltF (by omega)]
  simp only [List.take_length, zr1, Option.bind_some]
 | j + 1, i, h => by
  have hi : i < s.length := by omega
  have hlen : ((lowS (s.take i)).map byteV).length = i := by simp; omega
  have ih := z188 s hs j (i + 1) (by omega)
  have hnext : (lowS (s.take i)).map byteV ++ [byteV (lowB s[i])] = (lowS (s.take (i + 1))).map byteV := by
   rw [List.take_succ_eq_append_getElem hi]
   show _ = ((s.take i ++ [s[i]]).map lowB).map byteV
   rw [List.map_append, List.map_append]; rfl
  have hcast : ((i + 1 : Nat) : Int) = (i : Int) + 1 := by omega
  have happ : ∀ v, appL 1 ((lowS (s.take i)).map byteV) [v] = some ((lowS (s.take i)).map byteV ++ [v]) := fun v => ze9 (by rw [hlen]; simp; omega)
  have hlt := UInt8.toNat_lt s[i]
  rw [zay, c_ltT (by omega), zgl (List.getElem?_eq_getElem hi)]
  simp only [Option.bind_some]
  have plain : ¬ (65 ≤ s[i].toNat ∧ s[i].toNat ≤ 90) → (PV.int .u8 (s[i].toNat : Int)) = byteV (lowB s[i]) := by
   intro hn; unfold lowB byteV; rw [if_neg hn]
  by_cases h1 : 65 ≤ s[i].toNat
  ·rw [c_leT (by omega)]
   by_cases h2 : s[i].toNat ≤ 90
   ·rw [c_leT (by omega), zi7, wu8 (by omega) (by omega)]
    have hb : (PV.int .u8 ((s[i].toNat : Int) + 32)) = byteV (lowB s[i]) := by
     unfold lowB byteV
     rw [if_pos ⟨h1, h2⟩, add32 _ ⟨h1, h2⟩]
    rw [hb, happ]
    simp only [Option.bind_some]
    rw [hnext, w64 (by omega) (by omega), ← hcast]
    exact ih
   ·rw [c_leF (by omega), plain (by omega), happ]
    simp only [Option.bind_some]
    rw [hnext, w64 (by omega) (by omega), ← hcast]
    exact ih
  ·rw [c_leF (by omega), plain (by omega), happ]
   simp only [Option.bind_some]
   rw [hnext, w64 (by omega) (by omega), ← hcast]
   exact ih
theorem rlow_s (s : List UInt8) (hs : Small s) : z8y s = some (.str (lowS s)) := by
 rw [zl7]
 have := z188 s hs s.length 0 (by omega)
 simpa [lowS] using this
theorem wsame_s (a b : List UInt8) (ha : Small a) (hb : Small b) : zyo a b = some (.bool (sameB a b)) := by
 rw [z179, zyp a ha, zyp b hb]; rfl
theorem zqd (a b : List UInt8) (ha : Small a) (hb : Small b) : z1n a b = some (.bool (sameB a b)) := by
 rw [zmj, rlow_s a ha, rlow_s b hb]; rfl
def begB (s t : List UInt8) : Bool := leN s.length t.length && sameB s (t.take s.length)
def findI (s : List UInt8) : Nat → List (List UInt8) → Int
 | _, [] => -1
 | i, t :: r => bif begB s t then (i : Int) else findI s (i + 1) r
def zvp (s : List UInt8) (l : List (List UInt8)) : Int := if s.length < 3 then -1 else findI s 0 l
theorem short1_s (s t : List UInt8) (hs : Small s) (ht : Small t) : zle t (.ref [.str s] 0) = some (.bool (begB s t)) := by
 rw [zyn]
 have e1 : okOther (.ref [.str s] 0) = true := rfl
 have e2 : rdP tiStr (.ref [.str s] 0) 0 = some (.str s) := rfl
 rw [e1, e2]
 simp only [cond_true, Option.bind_some, PV.toS]
 unfold begB
 by_cases h : s.length ≤ t.length
 ·rw [c_leT (by omega), zg7 h]
  simp only [Option.bind_some]
  rw [wsame_s _ _ hs (by simp; omega)]
  have : leN s.length t.length = true := decide_eq_true h
  rw [this]; rfl
 ·rw [c_leF (by omega)]
  have : leN s.length t.length = false := decide_eq_false h
  rw [this]; rfl
theorem z1b1 (s t : List UInt8) (hs : Small s) (ht : Small t) : callW EE [zpg] (.func (.func z6b) [] [.ref [.str s] 0]) [.str t] = some (.bool (begB s t)) := by
 rw [callW_cap]
 have e : funTI EE z6b = [zpg] := by kernel_rfl
 have h := short1_s s t hs ht
 unfold zle callF at h
 rw [e] at h
 exact h
theorem zpt (s : List UInt8) (hs : Small s) (l : List (List UInt8)) (hl : l.length ≤ 1000000) (ht : ∀ t ∈ l, Small t) : ∀ (r : List (List UInt8)) (i : Nat), l.drop i = r →
  z2p (l.map PV.str) (.func (.func z6b) [] [.ref [.str s] 0]) (l.length : Int) (i : Int) = some (.int .i64 (findI s i r))
 | [], i, h => by
  have hi : l.length ≤ i := by
   rcases Nat.lt_or_ge i l.length with h' | h'
   ·rw [List.drop_eq_getElem_cons h'] at h; cases h
   ·exact h'
  rw [z5r, c_ltF (by omega)]; rfl
 | t :: r, i, h => by
  have hi : i < l.length := by
   rcases Nat.lt_or_ge i l.length with h' | h'
   ·exact h'
   ·rw [List.drop_of_length_le h'] at h; cases h
  have hg : l[i]? = some t := by rw [← List.head?_drop, h]; rfl
  have hr : l.drop (i + 1) = r := by rw [← List.drop_drop, h]; rfl
  have ih := zpt s hs l hl ht r (i + 1) hr
  rw [z5r, c_ltT (by omega), rdI_n, z15k hg]
  simp only [Option.bind_some, PV.toS]
  rw [z1b1 s t hs (ht t (List.mem_of_getElem? hg))]
  simp only [Option.bind_some, PV.toB, findI]
  cases begB s t with
  | true => rfl
  | false =>
   rw [cond_false, cond_false, w64 (by omega) (by omega), ← ih]
   rfl
theorem wshort_s (s : List UInt8) (hs : Small s) (l : List (List UInt8)) (hl : l.length ≤ 1000000) (ht : ∀ t ∈ l, Small t) : ztt s (l.map PV.str) = some (.int .i64 (zvp s l)) := by
 rw [z14d]
 unfold zvp
 by_cases h : s.length < 3
 ·rw [c_ltT (by omega), if_pos h]
 ·rw [c_ltF (by omega), if_neg h, zc7]
  have := zpt s hs l hl ht l 0 rfl
  have e : (okOther (.func (.func z6b) [] [.ref [.str s] 0]) && true) = true := rfl
  rw [e, cond_true, List.length_map]
  rw [show ((0 : Nat) : Int) = 0 from rfl] at this
  rw [this]; rfl
theorem zzd (s : List UInt8) (hs : Small s) (h3 : 3 ≤ s.length) (l : List (List UInt8)) (hl : l.length ≤ 1000000) (ht : ∀ t ∈ l, Small t) : ∀ (r : List (List UInt8)) (i : Nat), l.drop i = r →
  z4i s (l.map PV.str) (i : Int) = some (.int .i64 (findI s i r))
 | [], i, h => by
  have hi : l.length ≤ i := by
   rcases Nat.lt_or_ge i l.length with h' | h'
   ·rw [List.drop_eq_getElem_cons h'] at h; cases h
   ·exact h'
  rw [z7q, List.length_map, c_ltF (by omega)]; rfl
 | t :: r, i, h => by
  have hi : i < l.length := by
   rcases Nat.lt_or_ge i l.length with h' | h'
   ·exact h'
   ·rw [List.drop_of_length_le h'] at h; cases h
  have hg : l[i]? = some t := by rw [← List.head?_drop, h]; rfl
  have hr : l.drop (i + 1) = r := by rw [← List.drop_drop, h]; rfl
  have ih := zzd s hs h3 l hl ht r (i + 1) hr
  have hts := ht t (List.mem_of_getElem? hg)
  rw [z7q, List.length_map, c_ltT (by omega), c_leT (by omega), zi6, rdI_n, z15k hg]
  simp only [Option.bind_some, PV.toS, findI]
  unfold begB
  have hcast : ((i + 1 : Nat) : Int) = (i : Int) + 1 := by omega
  by_cases hle : s.length ≤ t.length
  ·have e : leN s.length t.length = true := decide_eq_true hle
   rw [c_leT (by omega), zg7 hle, e]
   simp only [Option.bind_some, Bool.true_and]
   rw [zqd _ _ hs (by simp; omega)]
   simp only [Option.bind_some, PV.toB]
   cases sameB s (t.take s.length) with
   | true => rfl
   | false => rw [cond_false, cond_false, w64 (by omega) (by omega), ← hcast, ih]
  ·have e : leN s.length t.length = false := decide_eq_false hle
   rw [c_leF (by omega), e, w64 (by omega) (by omega), ← hcast, ih]; rfl
theorem rshort_s (s : List UInt8) (hs : Small s) (l : List (List UInt8)) (hl : l.length ≤ 1000000) (ht : ∀ t ∈ l, Small t) : zb9 s (l.map PV.str) = some (.int .i64 (zvp s l)) := by
 rw [zl5]
 unfold zvp
 by_cases h : s.length < 3
 ·rw [z7q, if_pos h]
  by_cases hl0 : (0 : Int) < ((l.map PV.str).length : Nat)
  ·rw [c_ltT hl0, c_leF (by omega)]
  ·rw [c_ltF hl0]
 ·rw [if_neg h]
  have := zzd s hs (by omega) l hl ht l 0 rfl
  exact this
def dayNames : List (List UInt8) := [[83, 117, 110, 100, 97, 121], [77, 111, 110, 100, 97, 121], [84, 117, 101, 115, 100, 97, 121], [87, 101, 100, 110, 101, 115, 100, 97, 121], [84, 104, 117, 114, 115, 100, 97, 121], [70, 114, 105, 100, 97, 121], [83, 97, 116, 117, 114, 100, 97, 121]]
theorem z10l (s : List UInt8) : ∀ (l : List (List UInt8)) (i : Nat), -1 ≤ findI s i l ∧ findI s i l < i + l.length
 | [], i => by simp [findI]; omega
 | t :: r, i => by
  have := z10l s r (i + 1)
  unfold findI
  cases begB s t <;> simp <;> omega
end Dv

namespace Dv
open Go
theorem shr32 {a : Int} : shrI .u64 a 32 = a / 4294967296 := by
 unfold shrI
 have : (min (32 : Int).toNat IntKind.u64.bits) = 32 := rfl
 rw [this]
 have h2 : ((2 : Int) ^ 32) = 4294967296 := by decide
 rw [h2, Int.fdiv_eq_ediv_of_nonneg _ (by omega)]
theorem and32 {a : Int} (h0 : 0 ≤ a) (h1 : a < 18446744073709551616) : andI .u64 a 4294967295 = a % 4294967296 := by
 unfold andI
 obtain ⟨n, rfl⟩ := Int.eq_ofNat_of_zero_le h0
 have hb : IntKind.u64.bits = 64 := rfl
 have e : (BitVec.ofInt IntKind.u64.bits (n : Int) &&& BitVec.ofInt IntKind.u64.bits 4294967295).toNat = n % 4294967296 := by
  rw [hb, BitVec.toNat_and]
  have e1 : (BitVec.ofInt 64 (n : Int)).toNat = n := by
   rw [BitVec.toNat_ofInt]; omega
  have e2 : (BitVec.ofInt 64 4294967295).toNat = 2 ^ 32 - 1 := by decide
  rw [e1, e2, Nat.and_two_pow_sub_one_eq_mod]
 rw [e, IntKind.wrap_u64]
 omega
theorem mul64_s {a b : Int} (ha : 0 ≤ a ∧ a < 18446744073709551616) (hb : 0 ≤ b ∧ b < 18446744073709551616) :
  zv6 a b = some (.tuple [.int .u64 (a * b / 18446744073709551616), .int .u64 (a * b % 18446744073709551616)]) := by
 rw [z16p]
 simp only [shr32, and32 ha.1 ha.2, and32 hb.1 hb.2]
 have hab : a * b = 18446744073709551616 * ((a / 4294967296) * (b / 4294967296)) + 4294967296 * ((a / 4294967296) * (b % 4294967296) + (a % 4294967296) * (b / 4294967296)) + (a % 4294967296) * (b % 4294967296) := by
  have gen : ∀ x1 x0 y1 y0 : Int, (4294967296 * x1 + x0) * (4294967296 * y1 + y0) = 18446744073709551616 * (x1 * y1) + 4294967296 * (x1 * y0 + x0 * y1) + x0 * y0 := by
   intro x1 x0 y1 y0
   have e1 : (4294967296 * x1) * (4294967296 * y1) = 18446744073709551616 * (x1 * y1) := by
    rw [Int.mul_assoc, Int.mul_left_comm x1, ← Int.mul_assoc]; rfl
   have e2 : (4294967296 * x1) * y0 = 4294967296 * (x1 * y0) := Int.mul_assoc _ _ _
   have e3 : x0 * (4294967296 * y1) = 4294967296 * (x0 * y1) := Int.mul_left_comm _ _ _
   rw [Int.add_mul, Int.mul_add, Int.mul_add, e1, e2, e3]
   omega
  have h := gen (a / 4294967296) (a % 4294967296) (b / 4294967296) (b % 4294967296)
  have ea : 4294967296 * (a / 4294967296) + a % 4294967296 = a := by omega
  have eb : 4294967296 * (b / 4294967296) + b % 4294967296 = b := by omega
  rw [ea, eb] at h
  exact h
 have x1 : 0 ≤ a / 4294967296 ∧ a / 4294967296 ≤ 4294967295 := by omega
 have x0 : 0 ≤ a % 4294967296 ∧ a % 4294967296 ≤ 4294967295 := by omega
 have y1 : 0 ≤ b / 4294967296 ∧ b / 4294967296 ≤ 4294967295 := by omega
 have y0 : 0 ≤ b % 4294967296 ∧ b % 4294967296 ≤ 4294967295 := by omega
 rw [hab]
 generalize a / 4294967296 = u1 at *
 generalize a % 4294967296 = u0 at *
 generalize b / 4294967296 = v1 at *
 generalize b % 4294967296 = v0 at *
 have bd : ∀ x y : Int, 0 ≤ x ∧ x ≤ 4294967295 → 0 ≤ y ∧ y ≤ 4294967295 → 0 ≤ x * y ∧ x * y ≤ 18446744065119617025 := by
  intro x y hx hy
  refine ⟨Int.mul_nonneg hx.1 hy.1, ?_⟩
  have := Int.mul_le_mul hx.2 hy.2 hy.1 (by omega)
  omega
 have bp := bd u0 v0 x0 y0
 have bq := bd u1 v0 x1 y0
 have br := bd u0 v1 x0 y1
 have bs := bd u1 v1 x1 y1
 clear hab
 generalize u0 * v0 = p at *
 generalize u1 * v0 = q at *
 generalize u0 * v1 = r at *
 generalize u1 * v1 = s at *
 have wu : ∀ n : Int, 0 ≤ n → n ≤ 18446744073709551615 → IntKind.u64.wrap n = n := fun n h1 h2 => wu64 h1 h2
 have hp0 : 0 ≤ p / 4294967296 ∧ p / 4294967296 ≤ 4294967294 := by omega
 have ht : 0 ≤ q + p / 4294967296 ∧ q + p / 4294967296 ≤ 18446744069414584319 := by omega
 rw [wu p (by omega) (by omega), wu q (by omega) (by omega), wu r (by omega) (by omega), wu s (by omega) (by omega), wu _ ht.1 (by omega), and32 ht.1 (by omega)]
 have hpq : ∃ t, t = q + p / 4294967296 := ⟨_, rfl⟩
 obtain ⟨t, hpq⟩ := hpq
 rw [← hpq] at ht ⊢
 have hw1 : 0 ≤ t % 4294967296 + r ∧ t % 4294967296 + r ≤ 18446744069414584320 := by omega
 have hs2 : 0 ≤ s + t / 4294967296 ∧ s + t / 4294967296 ≤ 18446744069414584320 := by omega
 rw [wu _ hw1.1 (by omega), wu _ hs2.1 (by omega)]
 have hw2 : 0 ≤ (t % 4294967296 + r) / 4294967296 ∧ (t % 4294967296 + r) / 4294967296 ≤ 4294967295 := by omega
 have key : (18446744073709551616 * s + 4294967296 * (q + r) + p) / 18446744073709551616 = s + t / 4294967296 + (t % 4294967296 + r) / 4294967296 := by
  have e1 : 4294967296 * (q + r) + p = 4294967296 * (t + r) + p % 4294967296 := by omega
  have e2 : t + r = 4294967296 * (t / 4294967296) + (t % 4294967296 + r) := by omega
  omega
 rw [key, IntKind.wrap_u64, IntKind.wrap_u64]
 congr 3
 rw [Int.emod_eq_of_lt (by omega) (by omega)]
theorem zz6 {a : Int} (h : In64 a) : zsc a = some (.int .u64 (if a < 0 then -a else a)) := by
 rw [z1bi]
 unfold In64 at h
 by_cases h0 : a < 0
 ·rw [c_ltT h0, if_pos h0, IntKind.wrap_u64, IntKind.wrap_u64]
  congr 2; omega
 ·rw [c_ltF h0, if_neg h0, IntKind.wrap_u64]
  congr 2; omega
def limV (n : Int) : PV := if In64 n then .tuple [.int .i64 n, .int .i64 0] else .tuple [.int .i64 0, .int .i64 10]
theorem rd1 (x y : Int) : rdT (tiInt .u64) [.int .u64 x, .int .u64 y] 1 0 = some (.int .u64 y) := rfl
theorem z180 (neg : Bool) {m : Int} (h0 : 0 ≤ m) (h1 : m < 340282366920938463463374607431768211456) :
  zg2 neg (m / 18446744073709551616) (m % 18446744073709551616) = some (limV (if neg then -m else m)) := by
 rw [z15m, zx9, rd1, c_not]
 have hq : 0 ≤ m / 18446744073709551616 := by omega
 by_cases hz : m / 18446744073709551616 = 0
 ·rw [c_eqT hz]
  have hm : m % 18446744073709551616 = m := by omega
  rw [hm]
  simp only [Option.bind_some, PV.toI]
  cases neg with
  | true =>
   simp only [cond_true, if_true]
   by_cases hl : m ≤ 9223372036854775808
   ·rw [c_leT hl, IntKind.wrap_u64, IntKind.wrap_i64]
    unfold limV
    rw [if_pos (by unfold In64; omega)]
    congr 3
    congr 1
    omega
   ·rw [c_leF hl]
    unfold limV
    rw [if_neg (by unfold In64; omega)]
  | false =>
   simp only [cond_false, Bool.false_eq_true, if_false]
   by_cases hl : 9223372036854775807 < m
   ·rw [c_ltT hl]
    unfold limV
    rw [if_neg (by unfold In64; omega)]
   ·rw [c_ltF hl, w64 (by omega) (by omega)]
    unfold limV
    rw [if_pos (by unfold In64; omega)]
 ·rw [c_eqF hz]
  unfold limV
  rw [if_neg (by unfold In64; cases neg <;> simp <;> omega)]
theorem mul_s {a b : Int} (ha : In64 a) (hb : In64 b) : z15n a b = some (limV (a * b)) := by
 rw [z1fq, zpn, zz6 ha, zz6 hb]
 simp only [Option.bind_some, zo]
 unfold In64 at ha hb
 have h1 : 0 ≤ (if a < 0 then -a else a) ∧ (if a < 0 then -a else a) ≤ 9223372036854775808 := by split <;> omega
 have h2 : 0 ≤ (if b < 0 then -b else b) ∧ (if b < 0 then -b else b) ≤ 9223372036854775808 := by split <;> omega
 rw [mul64_s (by omega) (by omega)]
 simp only [Option.bind_some, tn0, tn1, ag0, ag1, zo]
 have hm0 : 0 ≤ (if a < 0 then -a else a) * (if b < 0 then -b else b) := Int.mul_nonneg h1.1 h2.1
 have hm1 : (if a < 0 then -a else a) * (if b < 0 then -b else b) ≤ 9223372036854775808 * 9223372036854775808 := Int.mul_le_mul h1.2 h2.2 h2.1 (by omega)
 rw [z180 _ hm0 (by omega)]
 have e : (if (!(ltB a 0 == ltB b 0)) = true then -((if a < 0 then -a else a) * (if b < 0 then -b else b)) else (if a < 0 then -a else a) * (if b < 0 then -b else b)) = a * b := by
  by_cases x : a < 0 <;> by_cases y : b < 0 <;> simp [ltB, x, y, Int.neg_mul, Int.mul_neg]
 rw [e]
 simp only [Option.bind_some]
 unfold limV
 by_cases h : In64 (a * b)
 ·rw [if_pos h]; rfl
 ·rw [if_neg h]; rfl
theorem add_s {a b : Int} (ha : In64 a) (hb : In64 b) : z15o a b = some (limV (a + b)) := by
 rw [z1ft, c_not]
 unfold In64 at ha hb
 unfold limV
 by_cases h : In64 (a + b)
 ·rw [if_pos h]
  unfold In64 at h
  rw [w64 h.1 h.2]
  have : (ltB a (a + b) == ltB 0 b) = true := by
   unfold ltB
   by_cases hb0 : 0 < b
   ·rw [decide_eq_true hb0, decide_eq_true (by omega)]; rfl
   ·rw [decide_eq_false hb0, decide_eq_false (by omega)]; rfl
  rw [this]; rfl
 ·rw [if_neg h]
  unfold In64 at h
  have : (ltB a (IntKind.i64.wrap (a + b)) == ltB 0 b) = false := by
   unfold ltB
   rw [IntKind.wrap_i64]
   by_cases hb0 : 0 < b
   ·rw [decide_eq_true hb0, decide_eq_false (by omega)]; rfl
   ·rw [decide_eq_false hb0, decide_eq_true (by omega)]; rfl
  rw [this]; rfl
end Dv

namespace Dv
open Go
theorem zcr {s : List UInt8} {i : Nat} {c : UInt8} (h : s[i]? = some c) (hc : c.toNat < 128) : decR s i = (c.toNat, 1) := by
 have hi : i < s.length := (List.getElem?_eq_some_iff.1 h).1
 have hs : i < (⟨s.toArray⟩ : ByteArray).size := by simpa [ByteArray.size] using hi
 have hg : (⟨s.toArray⟩ : ByteArray)[i]'hs = c := by
  have := (List.getElem?_eq_some_iff.1 h).2
  exact this
 unfold decR
 rw [decode_ascii ⟨s.toArray⟩ i hs (by rw [hg]; exact hc), hg]
theorem zmd {s : List UInt8} {i : Nat} {c : UInt8} (h : s[i]? = some c) (hc : 128 ≤ c.toNat) : 128 ≤ (decR s i).1 ∧ 1 ≤ (decR s i).2 := by
 have hi : i < s.length := (List.getElem?_eq_some_iff.1 h).1
 have hs : i < (⟨s.toArray⟩ : ByteArray).size := by simpa [ByteArray.size] using hi
 have hg : (⟨s.toArray⟩ : ByteArray)[i]'hs = c := (List.getElem?_eq_some_iff.1 h).2
 unfold decR
 exact decode_high ⟨s.toArray⟩ i hs (by rw [hg]; exact hc)
theorem z1g2 {c : Int} (h : 48 ≤ c ∧ c ≤ 57) : zic c = some (.int .i64 1) := by
 rw [zv9, c_leT h.1, c_leT h.2, zym]
theorem z1g1 {c : Int} (h : ¬ (48 ≤ c ∧ c ≤ 57)) : ∃ k, zic c = some (.int .i64 k) ∧ k ≠ 1 := by
 have e : zic c = zgz c := by
  rw [zv9]
  by_cases h1 : 48 ≤ c
  ·rw [c_leT h1, c_leF (by omega)]
  ·rw [c_leF h1]
 rw [e, zyl, zyj, zyk, zwn]
 cases eqB c 95 <;> cases ltB 127 c <;> cases leB 97 (orI .i32 c 32) <;> cases leB (orI .i32 c 32) 122 <;> cases eqB c 32 <;> cases eqB c 9 <;> cases eqB c 10 <;> cases eqB c 13 <;> cases ltB c 32 <;> cases eqB c 127 <;>
  exact ⟨_, rfl, by decide⟩
def digB (c : UInt8) : Bool := decide (48 ≤ c.toNat ∧ c.toNat ≤ 57)
def badV : PV := .tuple [.int .i64 0, .int .i64 13]
def numG : List UInt8 → Int → Bool → PV
 | [], n, o => bif o then .tuple [.int .i64 0, .int .i64 10] else .tuple [.int .i64 n, .int .i64 0]
 | c :: r, n, o => bif digB c then (bif o then numG r 0 true else bif leB (10 * n + ((c.toNat : Int) - 48)) 9223372036854775807 then numG r (10 * n + ((c.toNat : Int) - 48)) false else numG r 0 true) else badV
def numV (s : List UInt8) : PV := bif eqS s [] then badV else numG s 0 false
theorem z9u {α : Type} {s : List α} {i : Nat} (h : s.drop i = []) : s.length ≤ i := by
 rcases Nat.lt_or_ge i s.length with h' | h'
 ·rw [List.drop_eq_getElem_cons h'] at h; cases h
 ·exact h'
theorem z3m {α : Type} {s r : List α} {c : α} {i : Nat} (h : s.drop i = c :: r) : i < s.length ∧ s[i]? = some c ∧ s.drop (i + 1) = r := by
 refine ⟨?_, ?_, ?_⟩
 ·rcases Nat.lt_or_ge i s.length with h' | h'
  ·exact h'
  ·rw [List.drop_of_length_le h'] at h; cases h
 ·rw [← List.head?_drop, h]; rfl
 ·rw [← List.drop_drop, h]; rfl
theorem z6l (c : UInt8) : digB c = true ↔ 48 ≤ c.toNat ∧ c.toNat ≤ 57 := by simp [digB]
theorem wnum_bad {s x0 : List UInt8} {i : Nat} {c : UInt8} (h : s[i]? = some c) (hd : digB c = false) (x e : Int) : z7k x0 x e s i = some badV := by
 have hi : i < s.length := (List.getElem?_eq_some_iff.1 h).1
 have hk : ∃ k, zic ((decR s i).1 : Int) = some (.int .i64 k) ∧ k ≠ 1 := by
  apply z1g1
  have hn : ¬ (48 ≤ c.toNat ∧ c.toNat ≤ 57) := by rw [← z6l, hd]; simp
  by_cases hc : c.toNat < 128
  ·rw [zcr h hc]; simp only; omega
  ·have := zmd h (by omega); omega
 obtain ⟨k, hk, hne⟩ := hk
 rw [z9z, ztg hi, hk]
 simp only [Option.bind_some, zo]
 rw [c_not, c_eqF hne]; rfl
theorem z19k {c : UInt8} (hd : digB c = true) : IntKind.i64.wrap (IntKind.i32.wrap ((c.toNat : Int) - 48)) = (c.toNat : Int) - 48 := by
 have := (z6l c).1 hd
 rw [w32 (by omega) (by omega), w64 (by omega) (by omega)]
theorem z15x {n : Int} (h : In64 n) : limV n = .tuple [.int .i64 n, .int .i64 0] := if_pos h
theorem z1ef {n : Int} (h : ¬ In64 n) : limV n = .tuple [.int .i64 0, .int .i64 10] := if_neg h
theorem z17a (s : List UInt8) (hs : Small s) (hne : s ≠ []) : ∀ (r : List UInt8) (i : Nat) (n : Int) (o : Bool), s.drop i = r → 0 ≤ n → n ≤ 9223372036854775807 →
  z7k s (bif o then 0 else n) (bif o then 10 else 0) s i = some (numG r n o)
 | [], i, n, o, h, h0, h1 => by
  have hi := z9u h
  rw [z9z, zmt (by omega), zd6 hne]
  cases o <;> rfl
 | c :: r, i, n, o, h, h0, h1 => by
  obtain ⟨hi, hg, hr⟩ := z3m h
  cases hd : digB c with
  | false => rw [wnum_bad hg hd]; simp only [numG, hd, cond_false]
  | true =>
   have hc := (z6l c).1 hd
   have hcl : c.toNat < 128 := by omega
   have ih := z17a s hs hne r (i + 1)
   rw [z9z, ztg hi, zcr hg hcl, z1g2 (by omega)]
   simp only [Option.bind_some, zo]
   rw [c_not, c_eqT rfl]
   have hover : z7k s 0 10 s (i + 1) = some (numG r 0 true) := ih 0 true hr (by omega) (by omega)
   cases o with
   | true =>
    simp only [cond_true, numG, hd]
    rw [c_eqF (by omega), zdv, c_eqF (by omega)]
    exact hover
   | false =>
    simp only [cond_false, cond_true, numG, hd]
    rw [c_eqT rfl, mul_s (by unfold In64; omega) (by unfold In64; omega)]
    simp only [Option.bind_some]
    by_cases hm : n * 10 ≤ 9223372036854775807
    ·rw [z15x (by unfold In64; omega)]
     simp only [tn0, tn1, zo]
     rw [zdv, c_eqT rfl, z19k hd, add_s (by unfold In64; omega) (by unfold In64; omega)]
     simp only [Option.bind_some]
     by_cases ha : 10 * n + ((c.toNat : Int) - 48) ≤ 9223372036854775807
     ·rw [z15x (by unfold In64; omega), c_leT ha]
      simp only [tn0, tn1, zo]
      rw [show n * 10 + ((c.toNat : Int) - 48) = 10 * n + ((c.toNat : Int) - 48) by omega]
      exact ih _ false hr (by omega) ha
     ·rw [z1ef (by unfold In64; omega), c_leF ha]
      simp only [tn0, tn1, zo]
      exact hover
    ·rw [z1ef (by unfold In64; omega), c_leF (by omega)]
     simp only [tn0, tn1, zo]
     rw [zdv, c_eqF (by omega)]
     exact hover
theorem zrc (s : List UInt8) (hs : Small s) : zjl s = some (numV s) := by
 rw [z11t]
 unfold numV
 by_cases h : s = []
 ·subst h
  rw [z9z, zmt (by simp), zq2 rfl, zq2 rfl]; rfl
 ·rw [zd6 h]
  exact z17a s hs h s 0 0 false rfl (by omega) (by omega)
theorem rdigit_s (c : UInt8) : zb8 (c.toNat : Int) = some (.bool (digB c)) := by
 rw [zl4]
 unfold digB
 by_cases h1 : 48 ≤ c.toNat
 ·rw [c_leT (by omega)]
  by_cases h2 : c.toNat ≤ 57
  ·have : leB (c.toNat : Int) 57 = true := decide_eq_true (by omega)
   rw [this, decide_eq_true ⟨h1, h2⟩]
  ·have : leB (c.toNat : Int) 57 = false := decide_eq_false (by omega)
   rw [this, decide_eq_false (by omega)]
 ·rw [c_leF (by omega), decide_eq_false (by omega)]
theorem z13x {c : UInt8} (hd : digB c = true) : IntKind.i64.wrap (IntKind.u8.wrap ((c.toNat : Int) - 48)) = (c.toNat : Int) - 48 := by
 have := (z6l c).1 hd
 rw [wu8 (by omega) (by omega), w64 (by omega) (by omega)]
theorem numG_over (r : List UInt8) : ∀ n m, numG r n true = numG r m true := by
 induction r with
 | nil => intro n m; rfl
 | cons c r ih => intro n m; simp only [numG, cond_true]
theorem z187 (s : List UInt8) (hs : Small s) (hne : s ≠ []) : ∀ (r : List UInt8) (i : Nat) (n : Int) (o : Bool), s.drop i = r → 0 ≤ n → n ≤ 9223372036854775807 →
  z43 s n (bif o then 10 else 0) (i : Int) = some (numG r n o)
 | [], i, n, o, h, h0, h1 => by
  have hi := z9u h
  have hl : s.length ≠ 0 := fun h => hne (List.eq_nil_of_length_eq_zero h)
  rw [z73, c_ltF (by omega), c_eqF (by omega)]
  cases o <;> rfl
 | c :: r, i, n, o, h, h0, h1 => by
  obtain ⟨hi, hg, hr⟩ := z3m h
  have hcast : ((i + 1 : Nat) : Int) = (i : Int) + 1 := by omega
  rw [z73, c_ltT (by omega), zgl hg]
  simp only [Option.bind_some]
  rw [rdigit_s]
  simp only [Option.bind_some, zr]
  cases hd : digB c with
  | false => simp only [numG, hd, cond_false]; rfl
  | true =>
   have hc := (z6l c).1 hd
   have ih := z187 s hs hne r (i + 1)
   rw [z13x hd]
   have hw : IntKind.i64.wrap ((i : Int) + 1) = ((i + 1 : Nat) : Int) := by rw [w64 (by omega) (by omega), hcast]
   simp only [zgf, zge, zgw, hw]
   have hover : z43 s n 10 ((i + 1 : Nat) : Int) = some (numG r 0 true) := by
    rw [numG_over r 0 n]; exact ih n true hr h0 h1
   cases o with
   | true =>
    simp only [cond_true, numG, hd]
    rw [c_not, zjf, c_eqF (by omega), c_eqF (by omega)]
    exact hover
   | false =>
    simp only [cond_false, cond_true, numG, hd]
    rw [c_not, zjf, c_eqT rfl]
    by_cases hm : 922337203685477580 < n
    ·rw [c_ltT hm, c_eqF (by omega), c_leF (by omega)]
     exact hover
    ·rw [c_ltF hm, w64 (n := 10 * n) (by omega) (by omega), w64 (n := 9223372036854775807 - ((c.toNat : Int) - 48)) (by omega) (by omega)]
     by_cases ha : 10 * n + ((c.toNat : Int) - 48) ≤ 9223372036854775807
     ·rw [c_ltF (by omega), c_eqT rfl, c_leT ha, w64 (by omega) (by omega)]
      exact ih _ false hr (by omega) ha
     ·rw [c_ltT (by omega), c_eqF (by omega), c_leF ha]
      exact hover
theorem rnum_s (s : List UInt8) (hs : Small s) : zaj s = some (numV s) := by
 rw [zkf]
 unfold numV
 by_cases h : s = []
 ·subst h
  rw [z73, c_ltF (by simp), c_eqT (by simp), zq2 rfl]; rfl
 ·rw [zd6 h]
  exact z187 s hs h s 0 0 false rfl (by omega) (by omega)
end Dv

namespace Dv
open Go
theorem z17s {α : Type} {s : List α} {a b : Nat} (h1 : a ≤ b) (h2 : b ≤ s.length) : subS s (a : Int) (b : Int) = some ((s.drop a).take (b - a)) := by
 unfold subS
 rw [decide_eq_true (by omega)]
 simp
def blB (c : UInt8) : Bool := decide (c.toNat = 32 ∨ c.toNat = 9 ∨ c.toNat = 10 ∨ c.toNat = 13)
def z5q : List UInt8 → List UInt8 → List (List UInt8)
 | cur, [] => if cur = [] then [] else [cur]
 | cur, c :: r => if blB c then (if cur = [] then z5q [] r else cur :: z5q [] r) else z5q (cur ++ [c]) r
def z2z (s : List UInt8) : List (List UInt8) := z5q [] s
theorem zg5 {cur r : List UInt8} {c : UInt8} (h : blB c = true) : z5q cur (c :: r) = if cur = [] then z5q [] r else cur :: z5q [] r := by rw [z5q, if_pos h]
theorem zrb {cur r : List UInt8} {c : UInt8} (h : blB c = false) : z5q cur (c :: r) = z5q (cur ++ [c]) r := by rw [z5q, if_neg (by rw [h]; simp)]
theorem zqu {s : List UInt8} {a i : Nat} (h2 : i ≤ s.length) : (s.drop a).take (i - a) = [] ↔ i ≤ a := by
 rw [List.take_eq_nil_iff, List.drop_eq_nil_iff]; omega
theorem cur_snoc {s r : List UInt8} {c : UInt8} {a i : Nat} (h : s.drop i = c :: r) (ha : a ≤ i) : (s.drop a).take (i - a) ++ [c] = (s.drop a).take (i + 1 - a) := by
 obtain ⟨h1, h2, h3⟩ := z3m h
 rw [show i + 1 - a = (i - a) + 1 by omega, List.take_add_one, List.getElem?_drop, show a + (i - a) = i by omega, h2]; rfl
theorem z12z (s : List UInt8) (hs : s.length ≤ 10000000000) (out : List (List UInt8)) (a i : Nat) (hi : i ≤ s.length) (ha : a ≤ i) (hout : out.length ≤ i) :
  z1z s (a : Int) (i : Int) (out.map PV.str) = z2m s ((i + 1 : Nat) : Int) ((i + 1 : Nat) : Int) ((out ++ if (s.drop a).take (i - a) = [] then [] else [(s.drop a).take (i - a)]).map PV.str) := by
 rw [zi1]
 by_cases h : a < i
 ·rw [c_ltT (by omega), z17s ha hi]
  simp only [Option.bind_some]
  rw [ze9 (by simp; omega)]
  simp only [Option.bind_some]
  rw [w64 (by omega) (by omega), if_neg (by rw [zqu hi]; omega), List.map_append]
  rfl
 ·rw [c_ltF (by omega), w64 (by omega) (by omega), if_pos ((zqu hi).2 (by omega)), List.append_nil]
  rfl
theorem zq9 (s : List UInt8) (hs : s.length ≤ 10000000000) : ∀ (r : List UInt8) (i a : Nat) (out : List (List UInt8)), s.drop i = r → i ≤ s.length → a ≤ i → out.length ≤ i →
  z2m s (a : Int) (i : Int) (out.map PV.str) = some (.sl 1 ((out ++ z5q ((s.drop a).take (i - a)) r).map PV.str))
 | [], i, a, out, h, hi, ha, ho => by
  have hl := z9u h
  obtain rfl : i = s.length := by omega
  rw [z7p, c_leT (by omega), c_eqT rfl, z12z s hs out a _ (by omega) ha ho, z7p, c_leF (by omega)]
  rfl
 | c :: r, i, a, out, h, hi, ha, ho => by
  obtain ⟨h1, h2, h3⟩ := z3m h
  have hc := UInt8.toNat_lt c
  have bl : blB c = true → z1z s (a : Int) (i : Int) (out.map PV.str) = some (.sl 1 ((out ++ z5q ((s.drop a).take (i - a)) (c :: r)).map PV.str)) := by
   intro hb
   rw [z12z s hs out a i (by omega) ha ho, zq9 s hs r (i + 1) (i + 1) _ h3 (by omega) (Nat.le_refl _) (by split <;> simp <;> omega)]
   rw [Nat.sub_self, List.take_zero]
   rw [zg5 hb]
   split <;> simp
  rw [z7p, c_leT (by omega), c_eqF (by omega), zgl h2]
  simp only [Option.bind_some]
  by_cases e1 : c.toNat = 32
  ·rw [c_eqT (by omega)]; exact bl (by simp [blB, e1])
  rw [c_eqF (by omega)]
  by_cases e2 : c.toNat = 9
  ·rw [c_eqT (by omega)]; exact bl (by simp [blB, e2])
  rw [c_eqF (by omega)]
  by_cases e3 : c.toNat = 10
  ·rw [c_eqT (by omega)]; exact bl (by simp [blB, e3])
  rw [c_eqF (by omega)]
  by_cases e4 : c.toNat = 13
  ·rw [c_eqT (by omega)]; exact bl (by simp [blB, e4])
  rw [c_eqF (by omega), w64 (by omega) (by omega)]
  have := zq9 s hs r (i + 1) a out h3 (by omega) (by omega) (by omega)
  rw [← cur_snoc h ha] at this
  rw [show ((i : Int) + 1) = ((i + 1 : Nat) : Int) by omega, this]
  rw [zrb (by simp [blB, e1, e2, e3, e4])]
theorem z154 (s : List UInt8) (hs : s.length ≤ 10000000000) : z8r s = some (.sl 1 ((z2z s).map PV.str)) := by
 rw [zl0]
 exact zq9 s hs s 0 0 [] rfl (Nat.zero_le _) (Nat.le_refl _) (Nat.le_refl _)
theorem blank_s (c : Int) : zlx c = some (.bool (decide (c = 32 ∨ c = 9 ∨ c = 10 ∨ c = 13))) := by
 rw [zzh]
 by_cases e1 : c = 32
 ·rw [c_eqT e1]; simp [e1]
 rw [c_eqF e1]
 by_cases e2 : c = 9
 ·rw [c_eqT e2]; simp [e2]
 rw [c_eqF e2]
 by_cases e3 : c = 10
 ·rw [c_eqT e3]; simp [e3]
 rw [c_eqF e3]
 unfold eqB; simp [e1, e2, e3]
abbrev blF : PV := .func (.func z9t) [] []
theorem z146 (c : Int) : callW EE [zpg] blF [.int .i32 c] = some (.bool (decide (c = 32 ∨ c = 9 ∨ c = 10 ∨ c = 13))) := by
 have e : funTI EE z9t = [zpg] := by kernel_rfl
 have h := blank_s c
 unfold zlx callF at h
 rw [e] at h
 exact h
theorem z1cd (n b0 b1 b2 b3 : Nat) (hn : 1 ≤ n) : ((Lib.decodeN n b0 b1 b2 b3).2 = 1) ∨ ((Lib.decodeN n b0 b1 b2 b3).2 = 2 ∧ 2 ≤ n ∧ 128 ≤ b1) ∨ ((Lib.decodeN n b0 b1 b2 b3).2 = 3 ∧ 3 ≤ n ∧ 128 ≤ b1 ∧ 128 ≤ b2) ∨
  ((Lib.decodeN n b0 b1 b2 b3).2 = 4 ∧ 4 ≤ n ∧ 128 ≤ b1 ∧ 128 ≤ b2 ∧ 128 ≤ b3) := by
 unfold Lib.decodeN
 split
 ·exact .inl rfl
 split
 ·rename_i h; split
  ·exact .inr (.inl ⟨rfl, by omega, by omega⟩)
  ·exact .inl rfl
 split
 ·rename_i h; split
  ·exact .inr (.inr (.inl ⟨rfl, by omega, by omega, by omega⟩))
  ·exact .inl rfl
 split
 ·rename_i h; split
  ·exact .inr (.inr (.inr ⟨rfl, by omega, by omega, by omega, by omega⟩))
  ·exact .inl rfl
 ·exact .inl rfl
theorem z13y {s : List UInt8} {i : Nat} {c : UInt8} (h : s[i]? = some c) (hc : 128 ≤ c.toNat) :
  1 ≤ (decR s i).2 ∧ i + (decR s i).2 ≤ s.length ∧ ∀ d ∈ (s.drop i).take (decR s i).2, 128 ≤ d.toNat := by
 have hi : i < s.length := (List.getElem?_eq_some_iff.1 h).1
 have e : decR s i = Lib.decodeN (s.length - i) (s.getD i 0).toNat (s.getD (i + 1) 0).toNat (s.getD (i + 2) 0).toNat (s.getD (i + 3) 0).toNat := by
  unfold decR; exact Lib.decode_N ⟨s.toArray⟩ i
 have ha := z1cd (s.length - i) (s.getD i 0).toNat (s.getD (i + 1) 0).toNat (s.getD (i + 2) 0).toNat (s.getD (i + 3) 0).toNat (by omega)
 rw [← e] at ha
 have h0 : (s.getD i 0).toNat = c.toNat := by rw [List.getD_eq_getElem?_getD, h]; rfl
 have key : ∀ n, (decR s i).2 = n → 1 ≤ n → n ≤ s.length - i → (∀ j, j < n → 128 ≤ (s.getD (i + j) 0).toNat) → 1 ≤ (decR s i).2 ∧ i + (decR s i).2 ≤ s.length ∧ ∀ d ∈ (s.drop i).take (decR s i).2, 128 ≤ d.toNat := by
  intro n hn h1 h2 h3
  rw [hn]
  refine ⟨h1, by omega, fun d hd => ?_⟩
  obtain ⟨j, hj⟩ := List.getElem?_of_mem hd
  have hjn : j < n := by
   have := (List.getElem?_eq_some_iff.1 hj).1
   simp at this; omega
  rw [List.getElem?_take_of_lt hjn, List.getElem?_drop] at hj
  have := h3 j hjn
  rwa [List.getD_eq_getElem?_getD, hj] at this
 rcases ha with ha | ⟨ha, hb, h1⟩ | ⟨ha, hb, h1, h2⟩ | ⟨ha, hb, h1, h2, h3⟩
 ·refine key 1 ha (by omega) (by omega) (fun j hj => ?_)
  match j, hj with
  | 0, _ => rw [Nat.add_zero, h0]; exact hc
 ·refine key 2 ha (by omega) (by omega) (fun j hj => ?_)
  match j, hj with
  | 0, _ => rw [Nat.add_zero, h0]; exact hc
  | 1, _ => exact h1
 ·refine key 3 ha (by omega) (by omega) (fun j hj => ?_)
  match j, hj with
  | 0, _ => rw [Nat.add_zero, h0]; exact hc
  | 1, _ => exact h1
  | 2, _ => exact h2
 ·refine key 4 ha (by omega) (by omega) (fun j hj => ?_)
  match j, hj with
  | 0, _ => rw [Nat.add_zero, h0]; exact hc
  | 1, _ => exact h1
  | 2, _ => exact h2
  | 3, _ => exact h3
theorem blB_high {c : UInt8} (h : 128 ≤ c.toNat) : blB c = false := by
 unfold blB; rw [decide_eq_false]; omega
theorem zg4 : ∀ (l : List UInt8) (cur r : List UInt8), (∀ d ∈ l, blB d = false) → z5q cur (l ++ r) = z5q (cur ++ l) r
 | [], cur, r, _ => by simp
 | d :: l, cur, r, h => by
  show z5q cur (d :: (l ++ r)) = _
  rw [zrb (h d (by simp)), zg4 l _ r (fun x hx => h x (by simp [hx]))]
  simp
theorem step_rune {s r : List UInt8} {c : UInt8} {i : Nat} (h : s.drop i = c :: r) : (blB c = true ∧ decR s i = (c.toNat, 1)) ∨
  (∃ n, (decR s i).2 = n ∧ 1 ≤ n ∧ i + n ≤ s.length ∧ ¬ ((decR s i).1 = 32 ∨ (decR s i).1 = 9 ∨ (decR s i).1 = 10 ∨ (decR s i).1 = 13) ∧ (∀ d ∈ (s.drop i).take n, blB d = false)) := by
 obtain ⟨h1, h2, h3⟩ := z3m h
 by_cases hb : blB c = true
 ·left
  refine ⟨hb, zcr h2 ?_⟩
  unfold blB at hb
  have := of_decide_eq_true hb
  omega
 ·right
  by_cases hc : c.toNat < 128
  ·refine ⟨1, by rw [zcr h2 hc], Nat.le_refl _, by omega, ?_, fun d hd => ?_⟩
   ·rw [zcr h2 hc]
    intro h'
    exact hb (decide_eq_true h')
   ·rw [h] at hd
    simp at hd
    subst hd
    cases hx : blB d
    ·rfl
    ·exact absurd hx hb
  ·obtain ⟨a1, a2, a3⟩ := z13y h2 (by omega)
   obtain ⟨b1, _⟩ := zmd h2 (by omega)
   exact ⟨_, rfl, a1, a2, by omega, fun d hd => blB_high (a3 d hd)⟩
def spV (p : Nat × Nat) : PV := .agg [.int .i64 p.1, .int .i64 p.2]
def spW (s : List UInt8) (p : Nat × Nat) : List UInt8 := (s.drop p.1).take (p.2 - p.1)
theorem spTI {l : List (Nat × Nat)} {k : Nat} {p : Nat × Nat} (h : l[k]? = some p) : rdT (EE.ti z1j) (l.map spV) k 0 = some (spV p) := by
 have e : EE.ti z1j = ⟨(EE.ti z1j).d, 2, 16, (EE.ti z1j).zero, [.int .i64, .int .i64]⟩ := by kernel_rfl
 have ha : (EE.ti z1j).isAgg = true := by kernel_rfl
 unfold rdT
 rw [List.getElem?_map, h]
 simp only [Option.map_some]
 have e1 : (EE.ti z1j).size = 2 := by rw [e]
 have e2 : (EE.ti z1j).leaves = [.int .i64, .int .i64] := by rw [e]
 rw [e1, e2, ha]
 rfl
theorem zud (s : List UInt8) (l : List (Nat × Nat)) (hl : l.length ≤ 1000000000000) (hp : ∀ p ∈ l, p.1 ≤ p.2 ∧ p.2 ≤ s.length) (F : List UInt8 → Int → Int → List PV → Nat → List PV → Option PV)
  (hF : ∀ x1 x2 x3 x4 x5, F s x1 x2 x3 x4 x5 = (bif (Dv.ltB x2 x1) then (bif (Dv.inB (0 : Int) x2 (((List.length x5) : Nat) : Int)) then ((Dv.rdT (EE.ti z1j) x5 (Int.toNat x2) 0).bind fun v24 => ((Dv.subS s (Dv.PV.toI (Dv.PV.nth v24 0)) (Dv.PV.toI (Dv.PV.nth v24 1))).bind fun v25 => (bif (Dv.inB (0 : Int) x2 (((List.length x3) : Nat) : Int)) then ((Dv.stC x3 (Int.toNat x2) 0 [(Dv.PV.str v25)]).bind fun v26 => (F s x1 (Go.IntKind.wrap Go.IntKind.i64 (x2 + (1 : Int))) v26 x4 x5)) else none))) else none) else (some (Dv.PV.sl 1 x3)))) (cp : Nat) :
  ∀ (j k : Nat), k + j = l.length → F s (l.length : Int) (k : Int) ((l.take k).map (fun p => PV.str (spW s p)) ++ List.replicate j (.str [])) cp (l.map spV) = some (.sl 1 (l.map fun p => PV.str (spW s p)))
 | 0, k, hk => by
  rw [hF, c_ltF (by omega)]
  simp [show k = l.length by omega]
 | j + 1, k, hk => by
  have hlt : k < l.length := by omega
  have hg : l[k]? = some l[k] := List.getElem?_eq_getElem hlt
  have ih := zud s l hl hp F hF cp j (k + 1) (by omega)
  obtain ⟨p1, p2⟩ := hp l[k] (List.getElem_mem hlt)
  rw [hF, c_ltT (by omega), c_inT (by simp; omega)]
  rw [Int.toNat_natCast, spTI hg]
  simp only [Option.bind_some]
  have e1 : (PV.nth (spV l[k]) 0).toI = (l[k].1 : Int) := rfl
  have e2 : (PV.nth (spV l[k]) 1).toI = (l[k].2 : Int) := rfl
  rw [e1, e2, z17s p1 p2]
  simp only [Option.bind_some]
  have hlen : ((l.take k).map (fun p => PV.str (spW s p)) ++ List.replicate (j + 1) (PV.str [])).length = l.length := by simp; omega
  rw [c_inT (by rw [hlen]; omega)]
  have hst : stC ((l.take k).map (fun p => PV.str (spW s p)) ++ List.replicate (j + 1) (PV.str [])) k 0 [.str ((s.drop l[k].1).take (l[k].2 - l[k].1))] = some ((l.take (k + 1)).map (fun p => PV.str (spW s p)) ++ List.replicate j (.str [])) := by
   have hk1 : ((l.take k).map (fun p => PV.str (spW s p))).length = k := by simp; omega
   unfold stC
   have : ((l.take k).map (fun p => PV.str (spW s p)) ++ List.replicate (j + 1) (PV.str []))[k]? = some (.str []) := by
    rw [List.getElem?_append_right (by omega), hk1, Nat.sub_self]; simp
   rw [this]
   simp only [Option.some.injEq]
   rw [List.set_append_right _ _ (by omega), hk1, Nat.sub_self, List.replicate_succ, List.set_cons_zero]
   have ht : l.take (k + 1) = l.take k ++ [l[k]] := by rw [List.take_add_one, hg]; rfl
   rw [ht, List.map_append]
   simp [spW]
  rw [hst]
  simp only [Option.bind_some]
  rw [w64 (by omega) (by omega), show ((k : Int) + 1) = ((k + 1 : Nat) : Int) by omega]
  exact ih
termination_by j => j
end Dv

namespace Dv
open Go
theorem extIBL : zai z71 EE.ext = some z5t := by kernel_rfl
theorem extCB : zai zdn EE.ext = some zk4 := by kernel_rfl
theorem z153 (s : List UInt8) (c : UInt8) : z77 s (c.toNat : Int) = some (.int .i64 (Lib.indexByte s c)) := by
 rw [zbg, zte EE _ _ _ extIBL]
 have e : z5t [.str s, .int .u8 (c.toNat : Int)] = some (.int .i64 (Lib.indexByte s c)) := by
  unfold z5t
  simp
 rw [e]; rfl
theorem z195 (s : List UInt8) (c : UInt8) : Lib.indexByte s c < s.length := by
 induction s with
 | nil => simp [Lib.indexByte]
 | cons b s ih =>
  unfold Lib.indexByte
  split
  ·simp <;> omega
  ·split
   ·simp <;> omega
   ·simp <;> omega
def splitB (c : UInt8) : List UInt8 → List (List UInt8)
 | [] => [[]]
 | x :: r => if x = c then [] :: splitB c r else match splitB c r with
  | p :: ps => (x :: p) :: ps
  | [] => [[x]]
theorem zc6 (c : UInt8) (s : List UInt8) : splitB c s ≠ [] := by
 cases s with
 | nil => simp [splitB]
 | cons x r => unfold splitB; split <;> (try split) <;> simp
theorem z1ay {c : UInt8} {s : List UInt8} (h : Lib.indexByte s c = -1) : splitB c s = [s] := by
 induction s with
 | nil => rfl
 | cons b s ih =>
  unfold Lib.indexByte at h
  split at h
  ·omega
  ·rename_i hb
   split at h
   ·rename_i hs
    have := ih (by simpa using hs)
    unfold splitB
    rw [if_neg (by simpa using hb), this]
   ·have := Lib.indexByte_ge s c
    simp at *
    omega
theorem z1ax {c : UInt8} {s : List UInt8} {m : Nat} (h : Lib.indexByte s c = m) : splitB c s = s.take m :: splitB c (s.drop (m + 1)) := by
 induction s generalizing m with
 | nil => simp only [Lib.indexByte] at h; omega
 | cons b s ih =>
  unfold Lib.indexByte at h
  split at h
  ·rename_i hb
   have : m = 0 := by omega
   subst this
   conv => lhs; unfold splitB
   rw [if_pos (by simpa using hb)]; rfl
  ·rename_i hb
   split at h
   ·omega
   ·rename_i hne
    have hne : Lib.indexByte s c ≠ -1 := by simpa using hne
    have hge := Lib.indexByte_ge s c
    obtain ⟨k, rfl⟩ : ∃ k, m = k + 1 := ⟨m - 1, by omega⟩
    have := ih (m := k) (by omega)
    conv => lhs; unfold splitB
    rw [if_neg (by simpa using hb), this]
    rfl
theorem z1ff (c : UInt8) (s : List UInt8) : (splitB c s).length = Lib.countByte s c + 1 := by
 induction s with
 | nil => rfl
 | cons x r ih =>
  unfold splitB Lib.countByte
  rw [List.count_cons]
  unfold Lib.countByte at ih
  split
  ·rename_i h
   simp [h, ih]
  ·rename_i h
   have hne := zc6 c r
   cases hs : splitB c r with
   | nil => exact absurd hs hne
   | cons p ps =>
    rw [hs] at ih
    simp at ih ⊢
    simp [h, ih]
theorem z17x (c : UInt8) (s : List UInt8) : ∀ p ∈ splitB c s, p.length ≤ s.length := by
 induction s with
 | nil => intro p hp; simp [splitB] at hp; simp [hp]
 | cons x r ih =>
  intro p hp
  unfold splitB at hp
  split at hp
  ·rcases List.mem_cons.1 hp with rfl | hp
   ·simp
   ·have := ih p hp; simp; omega
  ·cases hs : splitB c r with
   | nil => exact absurd hs (zc6 c r)
   | cons q qs =>
    rw [hs] at hp ih
    rcases List.mem_cons.1 hp with rfl | hp
    ·have := ih q (by simp); simp; omega
    ·have := ih p (by simp [hp]); simp; omega
theorem z1aw {l : List PV} {i : Nat} {v : PV} (h : i < l.length) (hs : ∀ p ∈ l, ∃ t, p = .str t) : stC l i 0 [v] = some (l.set i v) := by
 unfold stC
 rw [List.getElem?_eq_getElem h]
 obtain ⟨t, ht⟩ := hs l[i] (List.getElem_mem h)
 rw [ht]; rfl
theorem z1ek (s : List UInt8) (c : UInt8) : zjs s [c] = some (.int .i64 (Lib.indexByte s c)) := by
 rw [zww, zfi]
 have e1 : (((List.length [c] : Nat)) : Int) = 1 := rfl
 rw [e1, c_eqF (by omega)]
 by_cases h : [c] = s
 ·rw [zq2 h, zc5, ← h]
  simp [Lib.indexByte, PV.toI]
 ·rw [zd6 h, zc4, c_eqT rfl, atS_z (c := c) rfl]
  simp only [Option.bind_some]
  rw [z153]; rfl
theorem count1_s (s : List UInt8) (c : UInt8) : zjt s [c] = some (.int .i64 ((Lib.countByte s c : Nat) : Int)) := by
 rw [zwx]
 have e1 : (((List.length [c] : Nat)) : Int) = 1 := rfl
 rw [e1, c_eqF (by omega), c_eqT rfl, atS_z (c := c) rfl]
 simp only [Option.bind_some]
 rw [zte EE _ _ _ extCB]
 have e : zk4 [.str s, .int .u8 (c.toNat : Int)] = some (.int .i64 ((Lib.countByte s c : Nat) : Int)) := by
  unfold zk4
  simp
 rw [e]; rfl
theorem z19m (s : List UInt8) (c : UInt8) : Lib.countByte s c ≤ s.length := List.count_le_length
theorem z12v (c : UInt8) (N : Nat) (hN : N ≤ 100000000000) (x6 : Nat) : ∀ (k : Nat) (s : List UInt8) (i : Nat) (l : List PV), (splitB c s).length = k → i + k = N → l.length = N → (∀ p ∈ l, ∃ t, p = .str t) → s.length ≤ 100000000000 →
  z7u s [c] 0 ((N : Int) - 1) (i : Int) l x6 = some (.sl 1 (l.take i ++ (splitB c s).map PV.str))
 | 0, s, i, l, hk, _, _, _, _ => absurd (List.eq_nil_of_length_eq_zero hk) (zc6 c s)
 | k + 1, s, i, l, hk, hi, hl, hs, hlen => by
  have hcast : ((i + 1 : Nat) : Int) = (i : Int) + 1 := by omega
  have hge := Lib.indexByte_ge s c
  have hlt := z195 s c
  have fin : ∀ t, ((stC l i 0 [PV.str t]).bind fun v => bif (decide ((0 : Int) ≤ IntKind.i64.wrap ((i : Int) + 1) ∧ IntKind.i64.wrap ((i : Int) + 1) ≤ ((v.length : Nat) : Int))) then
    some (PV.sl 1 (v.take (IntKind.i64.wrap ((i : Int) + 1)).toNat)) else none) = some (.sl 1 (l.take i ++ [PV.str t])) := by
   intro t
   rw [z1aw (by omega) hs, w64 (by omega) (by omega)]
   simp only [Option.bind_some, List.length_set]
   rw [decide_eq_true (by omega), cond_true]
   congr 2
   rw [← hcast, Int.toNat_natCast, List.take_succ_eq_append_getElem (by simp; omega), List.getElem_set_self]
   congr 1
   exact List.take_set_of_le (Nat.le_refl _)
  rw [zjr]
  by_cases hin : Lib.indexByte s c = -1
  ·rw [z1ay hin]
   simp only [List.map_cons, List.map_nil]
   by_cases hlast : (i : Int) < (N : Int) - 1
   ·rw [c_ltT hlast, z1ek]
    simp only [Option.bind_some, zo]
    rw [hin, c_ltT (by omega), c_inT (by omega), Int.toNat_natCast]
    exact fin s
   ·rw [c_ltF hlast, c_inT (by omega), Int.toNat_natCast]
    exact fin s
  ·obtain ⟨m, hm⟩ := Int.eq_ofNat_of_zero_le (show 0 ≤ Lib.indexByte s c by omega)
   have hsp := z1ax hm
   rw [hsp] at hk ⊢
   simp only [List.length_cons] at hk
   have hne := List.length_pos_iff.2 (zc6 c (s.drop (m + 1)))
   have hml : m < s.length := by omega
   have ih := z12v c N hN x6 k (s.drop (m + 1)) (i + 1) (l.set i (.str (s.take m))) (by omega) (by omega) (by simpa using hl) (by
    intro p hp
    rcases List.mem_or_eq_of_mem_set hp with h | h
    ·exact hs p h
    ·exact ⟨_, h⟩) (by simp; omega)
   rw [c_ltT (by omega), z1ek]
   simp only [Option.bind_some, zo]
   have e1 : (((List.length [c] : Nat)) : Int) = 1 := rfl
   rw [hm, c_ltF (by omega), w64 (n := (m : Int) + 0) (by omega) (by omega), Int.add_zero, zg7 (by omega)]
   simp only [Option.bind_some]
   rw [c_inT (by omega), Int.toNat_natCast, z1aw (by omega) hs]
   simp only [Option.bind_some]
   rw [e1, w64 (n := (m : Int) + 1) (by omega) (by omega), show ((m : Int) + 1) = ((m + 1 : Nat) : Int) by omega, z8q (by omega)]
   simp only [Option.bind_some]
   rw [w64 (n := (i : Int) + 1) (by omega) (by omega), ← hcast, ih]
   congr 2
   rw [List.take_succ_eq_append_getElem (by simp; omega), List.getElem_set_self, List.take_set_of_le (Nat.le_refl _)]
   simp
theorem zz3 (s : List UInt8) (c : UInt8) (hs : s.length ≤ 10000000000) : zfo s [c] = some (.sl 1 ((splitB c s).map PV.str)) := by
 have hc := z19m s c
 have hl := z1ff c s
 rw [zwv, zq4, c_eqF (by omega), zd6 (by simp), c_ltT (by omega), count1_s]
 simp only [Option.bind_some, zo]
 rw [zkx, w64 (n := ((Lib.countByte s c : Nat) : Int) + 1) (by omega) (by omega), w64 (n := ((s.length : Nat) : Int) + 1) (by omega) (by omega)]
 have hmin : minI (((Lib.countByte s c : Nat) : Int) + 1) (((s.length : Nat) : Int) + 1) = (((splitB c s).length : Nat) : Int) := by
  unfold minI
  rw [hl]
  by_cases h : ((s.length : Nat) : Int) + 1 < ((Lib.countByte s c : Nat) : Int) + 1
  ·omega
  ·rw [decide_eq_false h, cond_false]; omega
 rw [hmin]
 have hp : (HPow.hPow (2 : Int) 46 : Int) = 70368744177664 := by decide
 rw [hp, decide_eq_true (by omega), cond_true, w64 (by omega) (by omega), Int.toNat_natCast]
 have := z12v c (splitB c s).length (by omega) (splitB c s).length (splitB c s).length s 0 (List.replicate (splitB c s).length (.str [])) rfl (by omega) (by simp) (by intro p hp; exact ⟨[], (List.mem_replicate.1 hp).2⟩) (by omega)
 simp only [List.take_zero, List.nil_append] at this
 rw [show ((0 : Nat) : Int) = 0 from rfl] at this
 rw [this]
 rfl
end Dv

namespace Dv
open Go
def numN (s : List UInt8) : Int := ((numV s).tnth 0).toI
def numE (s : List UInt8) : Int := ((numV s).tnth 1).toI
def okSh (s : List UInt8) : Bool := eqB (numE s) 0 && leB ((s.length : Nat) : Int) 2
def shortN (s : List UInt8) : Int := if okSh s then numN s else -1
theorem zse : ∀ (r : List UInt8) (n : Int) (o : Bool), ∃ a b, numG r n o = .tuple [.int .i64 a, .int .i64 b]
 | [], n, o => by cases o <;> exact ⟨_, _, rfl⟩
 | c :: r, n, o => by
  simp only [numG]
  cases digB c with
  | false => exact ⟨_, _, rfl⟩
  | true =>
   cases o with
   | true => exact zse r 0 true
   | false => cases leB (10 * n + ((c.toNat : Int) - 48)) 9223372036854775807 with
    | true => exact zse r _ false
    | false => exact zse r 0 true
theorem zzt (s : List UInt8) : numV s = .tuple [.int .i64 (numN s), .int .i64 (numE s)] := by
 have : ∃ a b, numV s = .tuple [.int .i64 a, .int .i64 b] := by
  unfold numV
  cases eqS s [] with
  | true => exact ⟨_, _, rfl⟩
  | false => exact zse s 0 false
 obtain ⟨a, b, h⟩ := this
 unfold numN numE
 rw [h]; rfl
theorem numG_bad {c : UInt8} {r : List UInt8} {n : Int} {o : Bool} (hd : digB c = false) : numG (c :: r) n o = badV := by
 simp only [numG, hd, cond_false]
theorem zy3 {x : UInt8} (hx : digB x = false) : ∀ (r : List UInt8) (n : Int) (o : Bool), x ∈ r → numG r n o = badV
 | [], _, _, h => by simp at h
 | c :: r, n, o, h => by
  cases hd : digB c with
  | false => exact numG_bad hd
  | true =>
   have hm : x ∈ r := by
    rcases List.mem_cons.1 h with rfl | h
    ·rw [hx] at hd; cases hd
    ·exact h
   simp only [numG, hd, cond_true]
   cases o with
   | true => exact zy3 hx r 0 true hm
   | false =>
    simp only [cond_false]
    cases leB (10 * n + ((c.toNat : Int) - 48)) 9223372036854775807 with
    | true => exact zy3 hx r _ false hm
    | false => exact zy3 hx r 0 true hm
def okMS (t : List UInt8) : Bool := okSh t && (eqB ((t.length : Nat) : Int) 2 && ltB (numN t) 60)
def allOk : List (List UInt8) → Bool
 | [] => true
 | t :: r => okMS t && allOk r
def accN : Int → Int → List (List UInt8) → Int
 | n, _, [] => n
 | n, u, t :: r => accN (IntKind.i64.wrap (n + IntKind.i64.wrap (numN t * u))) (IntKind.i64.wrap (u.tdiv 60)) r
def okSec (l : List (List UInt8)) : Bool :=
 match l with
 | h :: r => okSh h && allOk r && leB (((h :: r).length : Nat) : Int) 3
 | [] => false
def secN (l : List (List UInt8)) : Int :=
 match l with
 | h :: r => accN (IntKind.i64.wrap (numN h * 3600)) 60 r
 | [] => 0
def secI (l : List (List UInt8)) : Int := if okSec l then secN l else -1
end Dv

namespace Dv
open Go
def glue (p : List UInt8) : List (List UInt8) → List (List UInt8)
 | q :: qs => (p ++ q) :: qs
 | [] => [p]
theorem z1e9 (init : List (List UInt8)) (p : List UInt8) : rdT tiStr ((init ++ [p]).map PV.str) init.length 0 = some (.str p) := z15k (by rw [List.getElem?_append_right (Nat.le_refl _), Nat.sub_self]; rfl)
theorem z1db (init : List (List UInt8)) (p q : List UInt8) : stC ((init ++ [p]).map PV.str) init.length 0 [.str q] = some ((init ++ [q]).map PV.str) := by
 rw [z1aw (by simp) (by intro v hv; obtain ⟨t, _, rfl⟩ := List.mem_map.1 hv; exact ⟨t, rfl⟩)]
 congr 1
 rw [List.map_append, List.map_append, List.set_append, if_neg (by simp)]
 simp
end Dv

namespace Dv
open Go
abbrev Sm (s : List UInt8) : Prop := s.length ≤ 10000000000
theorem Sm.small {s : List UInt8} (h : Sm s) : Small s := by unfold Small; have : s.length ≤ 10000000000 := h; omega
def dgs (s : List UInt8) (lo hi : Int) : Bool := leB lo (s.length : Int) && (leB (s.length : Int) hi && s.all digB)
theorem zy4 : ∀ (r : List UInt8) (n : Int) (o : Bool), r.all digB = true → ((numG r n o).tnth 1).toI ≠ 13
 | [], n, o, _ => by cases o <;> simp [numG, PV.tnth, nthD, PV.toI]
 | c :: r, n, o, h => by
  simp only [List.all_cons, Bool.and_eq_true] at h
  simp only [numG, h.1, cond_true]
  cases o with
  | true => exact zy4 r 0 true h.2
  | false =>
   cases leB (10 * n + ((c.toNat : Int) - 48)) 9223372036854775807 with
   | true => exact zy4 r _ false h.2
   | false => exact zy4 r 0 true h.2
theorem z1ds {s : List UInt8} (hne : s ≠ []) : numE s = 13 ↔ s.all digB = false := by
 have e : numV s = numG s 0 false := by unfold numV; rw [zd6 hne]
 constructor
 ·intro h
  cases ha : s.all digB with
  | false => rfl
  | true => exact absurd (by unfold numE at h; rw [e] at h; exact h) (zy4 s 0 false ha)
 ·intro h
  rw [List.all_eq_false] at h
  obtain ⟨x, hx, hd⟩ := h
  have hd : digB x = false := by cases hh : digB x <;> simp_all
  unfold numE
  rw [e, zy3 hd s 0 false hx]; rfl
theorem zfb (s : List UInt8) (hs : Sm s) {lo : Int} (hl : 1 ≤ lo) (hi : Int) : z4m s lo hi = some (.bool (dgs s lo hi)) := by
 rw [z12a, zrc s hs.small]
 simp only [Option.bind_some]
 rw [zzt]
 simp only [tn1, zo]
 unfold dgs
 by_cases h1 : lo ≤ (s.length : Int)
 ·have hne : s ≠ [] := by rintro rfl; simp at h1; omega
  have e1 : leB lo (s.length : Int) = true := decide_eq_true h1
  rw [c_leT h1, e1]
  cases ha : s.all digB with
  | true =>
   rw [c_not, c_eqF (by rw [z1ds hne, ha]; simp)]
   simp
  | false =>
   rw [c_not, c_eqT ((z1ds hne).2 ha)]
   simp
 ·have e1 : leB lo (s.length : Int) = false := decide_eq_false h1
  rw [c_leF h1, e1]
  cases (!eqB (numE s) 13) <;> rfl
theorem zol (s : List UInt8) (hs : Sm s) : ∀ (r : List UInt8) (i : Nat) (b : Bool), s.drop i = r → z32 s b (i : Int) = some (.bool (b && r.all digB))
 | [], i, b, h => by
  have := z9u h
  rw [zaf, c_ltF (by omega)]; simp
 | c :: r, i, b, h => by
  obtain ⟨hi, hg, hr⟩ := z3m h
  have hsl : s.length ≤ 10000000000 := hs
  have hw : IntKind.i64.wrap ((i : Int) + 1) = ((i + 1 : Nat) : Int) := by rw [w64 (by omega) (by omega)]; omega
  rw [zaf, c_ltT (by omega), hw]
  cases b with
  | false =>
   rw [zv5, zol s hs r (i + 1) false hr]; simp
  | true =>
   rw [zjf, zgl hg]
   simp only [Option.bind_some]
   by_cases h1 : 48 ≤ c.toNat
   ·rw [c_leT (by omega), zol s hs r (i + 1) _ hr]
    have : leB (c.toNat : Int) 57 = digB c := by
     unfold leB digB
     rw [decide_eq_decide]; omega
    rw [this]; simp
   ·rw [c_leF (by omega), zol s hs r (i + 1) _ hr]
    have : digB c = false := decide_eq_false (by omega)
    simp [this]
theorem zhv (s : List UInt8) (hs : Sm s) (lo hi : Int) : z1a s lo hi = some (.bool (dgs s lo hi)) := by
 rw [zkc]
 unfold dgs
 simp only [zgv]
 have e := fun b => zol s hs s 0 b rfl
 simp only [Int.ofNat_zero, Int.natCast_zero] at e
 by_cases h1 : lo ≤ (s.length : Int)
 ·have e1 : leB lo (s.length : Int) = true := decide_eq_true h1
  rw [c_leT h1, e1, e]; simp
 ·have e1 : leB lo (s.length : Int) = false := decide_eq_false h1
  rw [c_leF h1, e1, e]; simp
theorem zjm (s : List UInt8) (hs : Sm s) : z7l s = some (.int .i64 (numN s)) := by
 rw [z128, zrc s hs.small, zzt]; rfl
theorem zlw (s : List UInt8) (hs : Sm s) : z1k s = some (.int .i64 (numN s)) := by
 rw [zka, rnum_s s hs.small, zzt]; rfl
def yearO (s : List UInt8) : Int :=
 if dgs s 3 6 then numN s else if dgs s 1 2 then (if numN s < 70 then IntKind.i64.wrap (2000 + numN s) else IntKind.i64.wrap (1900 + numN s)) else 0
theorem wyear_s (s : List UInt8) (hs : Sm s) : zzg s = some (.int .i64 (yearO s)) := by
 rw [z18a, zjm s hs]
 simp only [Option.bind_some, zo]
 rw [zfb s hs (by omega), zfb s hs (by omega)]
 simp only [Option.bind_some, zr]
 unfold yearO
 cases dgs s 3 6 with
 | true => rfl
 | false =>
  rw [cond_false, c_not]
  cases dgs s 1 2 with
  | false => rfl
  | true =>
   rw [cond_true]
   by_cases h : numN s < 70
   ·rw [c_ltT h]; simp [h]
   ·rw [c_ltF h]; simp [h]
theorem ryear_s (s : List UInt8) (hs : Sm s) : zcs s = some (.int .i64 (yearO s)) := by
 rw [zmg, zhv s hs, zhv s hs, zlw s hs]
 simp only [Option.bind_some, zr, zo]
 unfold yearO
 cases dgs s 3 6 with
 | true => rfl
 | false =>
  rw [cond_false, c_not]
  cases dgs s 1 2 with
  | false => rfl
  | true =>
   rw [cond_true]
   by_cases h : numN s < 70
   ·rw [c_ltT h]; simp [h]
   ·rw [c_ltF h]; simp [h]
def z7v : List (List UInt8) := [[74, 97, 110, 117, 97, 114, 121], [70, 101, 98, 114, 117, 97, 114, 121], [77, 97, 114, 99, 104], [65, 112, 114, 105, 108], [77, 97, 121], [74, 117, 110, 101], [74, 117, 108, 121], [65, 117, 103, 117, 115, 116], [83, 101, 112, 116, 101, 109, 98, 101, 114], [79, 99, 116, 111, 98, 101, 114], [78, 111, 118, 101, 109, 98, 101, 114], [68, 101, 99, 101, 109, 98, 101, 114]]
theorem zpq : ∀ t ∈ z7v, Small t := by
 intro t ht
 unfold Small
 simp only [z7v, List.mem_cons, List.not_mem_nil, or_false] at ht
 rcases ht with rfl | rfl | rfl | rfl | rfl | rfl | rfl | rfl | rfl | rfl | rfl | rfl <;> simp
def monI (s : List UInt8) : Int := zvp s z7v + 1
theorem zy7 (s : List UInt8) : 0 ≤ monI s ∧ monI s ≤ 12 := by
 unfold monI zvp
 have := z10l s z7v 0
 simp only [z7v, List.length_cons, List.length_nil] at this
 split
 ·omega
 ·simp only [z7v]; omega
theorem z1cr (s : List UInt8) (hs : Sm s) : zfz s = some (.int .i64 (monI s)) := by
 have h := zy7 s
 rw [z14e]
 have := wshort_s s hs.small z7v (by simp [z7v]) zpq
 simp only [z7v, List.map_cons, List.map_nil] at this ⊢
 rw [this]
 simp only [Option.bind_some, zo]
 have e : IntKind.i64.wrap (zvp s z7v + 1) = monI s := by unfold monI at h ⊢; rw [w64 (by omega) (by omega)]
 simp only [z7v] at e
 rw [e]
theorem zvt (s : List UInt8) (hs : Sm s) : z2d s = some (.int .i64 (monI s)) := by
 have h := zy7 s
 rw [zl6]
 have := rshort_s s hs.small z7v (by simp [z7v]) zpq
 simp only [z7v, List.map_cons, List.map_nil] at this ⊢
 rw [this]
 simp only [Option.bind_some, zo]
 have e : IntKind.i64.wrap (zvp s z7v + 1) = monI s := by unfold monI at h ⊢; rw [w64 (by omega) (by omega)]
 simp only [z7v] at e
 rw [e]
theorem rd0 {a : List UInt8} {l : List (List UInt8)} : rdI tiStr ((a :: l).map PV.str) 0 = some (.str a) := rfl
theorem rd1s {a b : List UInt8} {l : List (List UInt8)} : rdI tiStr ((a :: b :: l).map PV.str) 1 = some (.str b) := rfl
theorem rd2s {a b c : List UInt8} {l : List (List UInt8)} : rdI tiStr ((a :: b :: c :: l).map PV.str) 2 = some (.str c) := rfl
def monB (a b : List UInt8) : Bool := ltB 0 (monI a) || ltB 0 (monI b)
theorem zxl (a b : List UInt8) (l : List (List UInt8)) (ha : Sm a) (hb : Sm b) : zg1 ((a :: b :: l).map PV.str) = some (.bool (monB a b)) := by
 rw [z15f, rd0, rd1s]
 simp only [Option.bind_some, z2j]
 rw [z1cr a ha, z1cr b hb]
 simp only [Option.bind_some, zo]
 unfold monB
 cases ltB 0 (monI a) <;> rfl
theorem zqc (s : List UInt8) (hs : Sm s) (b : UInt8) : ∀ (r : List UInt8) (i : Nat) (init : List (List UInt8)) (p : List UInt8), s.drop i = r → init.length ≤ i → p.length ≤ i →
  z3n s (b.toNat : Int) (i : Int) ((init ++ [p]).map PV.str) = some (.sl 1 ((init ++ glue p (splitB b r)).map PV.str))
 | [], i, init, p, h, hn, hp => by
  have := z9u h
  rw [z9v, c_ltF (by omega)]
  simp only [splitB, glue, List.append_nil]
 | x :: r, i, init, p, h, hn, hp => by
  obtain ⟨hi, hg, hr⟩ := z3m h
  have hsl : s.length ≤ 10000000000 := hs
  have hcast : ((i + 1 : Nat) : Int) = (i : Int) + 1 := by omega
  have hw : IntKind.i64.wrap ((i : Int) + 1) = ((i + 1 : Nat) : Int) := by rw [w64 (by omega) (by omega), hcast]
  have hlen : (((((init ++ [p]).map PV.str).length : Nat)) : Int) = ((init.length : Nat) : Int) + 1 := by simp
  have hlw : IntKind.i64.wrap (((((init ++ [p]).map PV.str).length : Nat) : Int) - 1) = ((init.length : Nat) : Int) := by rw [hlen, w64 (by omega) (by omega)]; omega
  rw [z9v, c_ltT (by omega), zgl hg]
  simp only [Option.bind_some]
  by_cases hx : x = b
  ·subst hx
   have e1 : splitB x (x :: r) = [] :: splitB x r := by simp [splitB]
   rw [c_eqT rfl, ze9 (by simp; omega)]
   simp only [Option.bind_some]
   rw [hw, show (init ++ [p]).map PV.str ++ [PV.str []] = ((init ++ [p]) ++ [[]]).map PV.str by simp,
    zqc s hs x r (i + 1) (init ++ [p]) [] hr (by simp; omega) (by simp), e1]
   congr 3
   cases hsp : splitB x r with
   | nil => exact absurd hsp (zc6 x r)
   | cons q qs => simp [glue]
  ·have hne : ¬ (x.toNat : Int) = (b.toNat : Int) := by
    intro h; apply hx; apply UInt8.toNat_inj.1; omega
   have hsub : subS s (i : Int) ((i + 1 : Nat) : Int) = some [x] := by
    rw [z17s (by omega) (by omega), h]
    have : (i + 1 - i) = 1 := by omega
    rw [this]; rfl
   have hcat : catS p [x] = some (p ++ [x]) := z16n (by simp; omega)
   rw [c_eqF hne, hlw, c_inT (by omega), Int.toNat_natCast, z1e9]
   simp only [Option.bind_some, z2j]
   rw [hw, hsub]
   simp only [Option.bind_some]
   rw [hcat]
   simp only [Option.bind_some]
   rw [c_inT (by omega), z1db]
   simp only [Option.bind_some]
   rw [zqc s hs b r (i + 1) init (p ++ [x]) hr (by omega) (by simp; omega)]
   have e2 : splitB b (x :: r) = match splitB b r with | p :: ps => (x :: p) :: ps | [] => [[x]] := by rw [splitB, if_neg hx] <;> cases splitB b r <;> rfl
   rw [e2]
   congr 3
   cases hsp : splitB b r with
   | nil => exact absurd hsp (zc6 b r)
   | cons q qs => simp [glue]
theorem zvs (s : List UInt8) (hs : Sm s) (b : UInt8) : ∀ (r : List UInt8) (i : Nat) (p : List UInt8), s.drop i = r → p.length ≤ i →
  z4g s (b.toNat : Int) (i : Int) [PV.str p] 1 = some (.sl 1 ((glue p (splitB b r)).map PV.str))
 | [], i, p, h, hp => by
  have := z9u h
  rw [zas, c_ltF (by omega)]
  simp [splitB, glue]
 | x :: r, i, p, h, hp => by
  obtain ⟨hi, hg, hr⟩ := z3m h
  have hsl : s.length ≤ 10000000000 := hs
  have hcast : ((i + 1 : Nat) : Int) = (i : Int) + 1 := by omega
  have hw : IntKind.i64.wrap ((i : Int) + 1) = ((i + 1 : Nat) : Int) := by rw [w64 (by omega) (by omega), hcast]
  have hlw : IntKind.i64.wrap ((([PV.str p].length : Nat) : Int) - 1) = ((0 : Nat) : Int) := by rw [w64 (by simp) (by simp)]; simp
  rw [zas, c_ltT (by omega), zgl hg]
  simp only [Option.bind_some]
  by_cases hx : x = b
  ·subst hx
   have e1 : splitB x (x :: r) = [] :: splitB x r := by simp [splitB]
   rw [c_eqT rfl, ze9 (by simp)]
   simp only [Option.bind_some]
   rw [c_lenF (by simp), hw, show [PV.str p] ++ [PV.str []] = ([p] ++ [[]]).map PV.str by simp,
    zqc s hs x r (i + 1) [p] [] hr (by simp) (by simp), e1]
   congr 3
   cases hsp : splitB x r with
   | nil => exact absurd hsp (zc6 x r)
   | cons q qs => simp [glue]
  ·have hne : ¬ (x.toNat : Int) = (b.toNat : Int) := by
    intro h; apply hx; apply UInt8.toNat_inj.1; omega
   have hsub : subS s (i : Int) ((i + 1 : Nat) : Int) = some [x] := by
    rw [z17s (by omega) (by omega), h]
    have : (i + 1 - i) = 1 := by omega
    rw [this]; rfl
   have hcat : catS p [x] = some (p ++ [x]) := z16n (by simp; omega)
   have ml := z1e9 [] p
   have sl := fun q => z1db [] p q
   simp only [List.nil_append, List.length_nil, List.map_cons, List.map_nil] at ml sl
   rw [c_eqF hne, hlw, c_inT (by simp), Int.toNat_natCast, ml]
   simp only [Option.bind_some, z2j]
   rw [hw, hsub]
   simp only [Option.bind_some]
   rw [hcat]
   simp only [Option.bind_some]
   rw [c_inT (by simp), sl]
   simp only [Option.bind_some]
   rw [zvs s hs b r (i + 1) (p ++ [x]) hr (by simp; omega)]
   have e2 : splitB b (x :: r) = match splitB b r with | p :: ps => (x :: p) :: ps | [] => [[x]] := by rw [splitB, if_neg hx] <;> cases splitB b r <;> rfl
   rw [e2]
   congr 3
   cases hsp : splitB b r with
   | nil => exact absurd hsp (zc6 b r)
   | cons q qs => simp [glue]
theorem rsplit_s (s : List UInt8) (hs : Sm s) (b : UInt8) : zb6 s (b.toNat : Int) = some (.sl 1 ((splitB b s).map PV.str)) := by
 rw [zl1]
 have := zvs s hs b s 0 [] rfl (Nat.le_refl _)
 rw [show ((0 : Int)) = ((0 : Nat) : Int) from rfl, this]
 congr 3
 cases hsp : splitB b s with
 | nil => exact absurd hsp (zc6 b s)
 | cons q qs => simp [glue]
theorem splitB_sm (b : UInt8) {s : List UInt8} (hs : Sm s) : ∀ p ∈ splitB b s, Sm p := fun p hp => Nat.le_trans (z17x b s p hp) hs
end Dv

namespace Dv
open Go
theorem z1ae {a : Int} (h0 : 0 ≤ a) (h1 : a ≤ 1000000000000) : xorI .i64 (-1) a < 0 := by
 show IntKind.i64.wrap ((BitVec.ofInt 64 (-1) ^^^ BitVec.ofInt 64 a).toNat : Int) < 0
 have e1 : BitVec.ofInt 64 (-1) = BitVec.allOnes 64 := by decide
 have e3 : (BitVec.ofInt 64 a).toNat = a.toNat := by
  rw [BitVec.toNat_ofInt]; omega
 rw [e1, BitVec.allOnes_xor, BitVec.toNat_not, e3, IntKind.wrap_i64]
 omega
theorem fin1 (s : List UInt8) (sp : List (Nat × Nat)) (hl : sp.length ≤ 1000000000000) (hp : ∀ p ∈ sp, p.1 ≤ p.2 ∧ p.2 ≤ s.length) :
  z3j s (sp.map spV) = some (.sl 1 ((sp.map (spW s)).map PV.str)) := by
 rw [zg9, decide_eq_true (by simp; omega), cond_true]
 have h := zud s sp hl hp (fun s a b c d e => z56 s a b c d e) (fun x1 x2 x3 x4 x5 => zg8 s x1 x2 x3 x4 x5) sp.length sp.length 0 (by omega)
 simp only [List.take_zero, List.map_nil, List.nil_append] at h
 rw [List.length_map, Int.toNat_natCast]
 rw [show ((0 : Int)) = ((0 : Nat) : Int) from rfl, h]
 simp [Function.comp_def]
theorem fin0 (s : List UInt8) (sp : List (Nat × Nat)) (hl : sp.length ≤ 1000000000000) (hp : ∀ p ∈ sp, p.1 ≤ p.2 ∧ p.2 ≤ s.length) (cp : Nat) :
  z6j s (sp.map spV) cp = some (.sl 1 ((sp.map (spW s)).map PV.str)) := by
 rw [zhr, decide_eq_true (by simp; omega), cond_true]
 have h := zud s sp hl hp (fun s a b c d e => z6i s a b c d e cp) (fun x1 x2 x3 x4 x5 => zhq s x1 x2 x3 x4 x5 cp) sp.length sp.length 0 (by omega)
 simp only [List.take_zero, List.map_nil, List.nil_append] at h
 rw [List.length_map, Int.toNat_natCast]
 rw [show ((0 : Int)) = ((0 : Nat) : Int) from rfl, h]
 simp [Function.comp_def]
def StOk (s : List UInt8) (i : Nat) (x2 : Int) (cur : List UInt8) : Prop := (x2 < 0 ∧ cur = []) ∨ ∃ a : Nat, x2 = (a : Int) ∧ a < i ∧ cur = (s.drop a).take (i - a)
theorem cur_app {s : List UInt8} {a i n : Nat} (ha : a ≤ i) (hn : i + n ≤ s.length) : (s.drop a).take (i - a) ++ (s.drop i).take n = (s.drop a).take (i + n - a) := by
 rw [show i + n - a = (i - a) + n by omega, List.take_add, List.drop_drop, show a + (i - a) = i by omega]
theorem ff_loop1 (s : List UInt8) (hs : Sm s) : ∀ (m i : Nat) (x2 : Int) (sp : List (Nat × Nat)) (cur : List UInt8), s.length - i ≤ m → i ≤ s.length → sp.length ≤ i → (∀ p ∈ sp, p.1 ≤ p.2 ∧ p.2 ≤ s.length) → StOk s i x2 cur →
  z2a s blF x2 (sp.map spV) s i = some (.sl 1 ((sp.map (spW s) ++ z5q cur (s.drop i)).map PV.str)) := by
 have hsl : s.length ≤ 10000000000 := hs
 intro m
 induction m with
 | zero =>
  intro i x2 sp cur hm hi hsp hp hst
  obtain rfl : i = s.length := by omega
  rw [z6z, zmt (by omega), List.drop_length]
  rcases hst with ⟨h1, rfl⟩ | ⟨a, rfl, h1, h2⟩
  ·rw [c_leF (by omega), fin1 s sp (by omega) hp]
   simp [z5q]
  ·have hne : cur ≠ [] := by rw [h2, Ne, zqu (Nat.le_refl _)]; omega
   rw [c_leT (by omega), ze9 (by simp; omega)]
   simp only [Option.bind_some]
   have e : sp.map spV ++ [PV.agg [PV.int .i64 (a : Int), PV.int .i64 ((s.length : Nat) : Int)]] = (sp ++ [(a, s.length)]).map spV := by simp [spV]
   rw [e, fin1 s _ (by simp; omega) (by intro p hpm; rcases List.mem_append.1 hpm with h | h; exact hp p h; simp at h; subst h; exact ⟨by omega, Nat.le_refl _⟩)]
   have ew : z5q cur [] = [cur] := by rw [z5q, if_neg hne]
   have e3 : spW s (a, s.length) = cur := h2.symm
   simp [ew, e3]
 | succ m ih =>
  intro i x2 sp cur hm hi hsp hp hst
  by_cases hend : i = s.length
  ·exact (by
    subst hend
    rw [z6z, zmt (by omega), List.drop_length]
    rcases hst with ⟨h1, rfl⟩ | ⟨a, rfl, h1, h2⟩
    ·rw [c_leF (by omega), fin1 s sp (by omega) hp]
     simp [z5q]
    ·have hne : cur ≠ [] := by rw [h2, Ne, zqu (Nat.le_refl _)]; omega
     rw [c_leT (by omega), ze9 (by simp; omega)]
     simp only [Option.bind_some]
     have e : sp.map spV ++ [PV.agg [PV.int .i64 (a : Int), PV.int .i64 ((s.length : Nat) : Int)]] = (sp ++ [(a, s.length)]).map spV := by simp [spV]
     rw [e, fin1 s _ (by simp; omega) (by intro p hpm; rcases List.mem_append.1 hpm with h | h; exact hp p h; simp at h; subst h; exact ⟨by omega, Nat.le_refl _⟩)]
     have ew : z5q cur [] = [cur] := by rw [z5q, if_neg hne]
     have e3 : spW s (a, s.length) = cur := h2.symm
     simp [ew, e3])
  ·have hlt : i < s.length := by omega
   obtain ⟨c, r, hr⟩ : ∃ c r, s.drop i = c :: r := ⟨_, _, List.drop_eq_getElem_cons hlt⟩
   obtain ⟨_, h2, h3⟩ := z3m hr
   rw [z6z, ztg hlt, z146]
   simp only [Option.bind_some, zr]
   rcases step_rune hr with ⟨hb, hd⟩ | ⟨n, hn, hn1, hn2, hno, hall⟩
   ·have hb' := of_decide_eq_true hb
    rw [decide_eq_true (by rw [hd]; simp only; omega), cond_true, hd]
    simp only
    rcases hst with ⟨h1, rfl⟩ | ⟨a, rfl, h1, hcur⟩
    ·rw [c_leF (by omega), ih (i + 1) x2 sp [] (by omega) (by omega) (by omega) hp (.inl ⟨h1, rfl⟩), h3, hr, zg5 hb, if_pos rfl]
    ·have hne : cur ≠ [] := by rw [hcur, Ne, zqu (by omega)]; omega
     rw [c_leT (by omega), ze9 (by simp; omega)]
     simp only [Option.bind_some]
     have e : sp.map spV ++ [PV.agg [PV.int .i64 (a : Int), PV.int .i64 ((i : Nat) : Int)]] = (sp ++ [(a, i)]).map spV := by simp [spV]
     rw [e, ih (i + 1) _ _ [] (by omega) (by omega) (by simp; omega) (by intro p hpm; rcases List.mem_append.1 hpm with h | h; exact hp p h; simp at h; subst h; exact ⟨by omega, by omega⟩) (.inl ⟨z1ae (by omega) (by omega), rfl⟩)]
     rw [h3, hr, zg5 hb, if_neg hne]
     simp [spW, hcur]
   ·rw [decide_eq_false (by omega), cond_false]
    rw [hn]
    have hsplit : s.drop i = (s.drop i).take n ++ s.drop (i + n) := by
     rw [← List.drop_drop, List.take_append_drop]
    rcases hst with ⟨h1, rfl⟩ | ⟨a, rfl, h1, hcur⟩
    ·rw [c_ltT h1, ih (i + n) (i : Int) sp ((s.drop i).take n) (by omega) hn2 (by omega) hp (.inr ⟨i, rfl, by omega, by rw [show i + n - i = n by omega]⟩)]
     conv => rhs; rw [hsplit]
     rw [zg4 _ _ _ hall]; simp
    ·rw [c_ltF (by omega), ih (i + n) (a : Int) sp (cur ++ (s.drop i).take n) (by omega) hn2 (by omega) hp (.inr ⟨a, rfl, by omega, by rw [hcur, cur_app (by omega) hn2]⟩)]
     conv => rhs; rw [hsplit]
     rw [zg4 _ _ _ hall]
theorem ff_loop (s : List UInt8) (hs : Sm s) (cp : Nat) : ∀ (m i : Nat) (x2 : Int) (sp : List (Nat × Nat)) (cur : List UInt8), s.length - i ≤ m → i ≤ s.length → sp.length ≤ i → (∀ p ∈ sp, p.1 ≤ p.2 ∧ p.2 ≤ s.length) → StOk s i x2 cur →
  z25 s blF x2 (sp.map spV) cp s i = some (.sl 1 ((sp.map (spW s) ++ z5q cur (s.drop i)).map PV.str)) := by
 have hsl : s.length ≤ 10000000000 := hs
 have done : ∀ (x2 : Int) (sp : List (Nat × Nat)) (cur : List UInt8), sp.length ≤ s.length → (∀ p ∈ sp, p.1 ≤ p.2 ∧ p.2 ≤ s.length) → StOk s s.length x2 cur →
   z25 s blF x2 (sp.map spV) cp s s.length = some (.sl 1 ((sp.map (spW s) ++ z5q cur (s.drop s.length)).map PV.str)) := by
  intro x2 sp cur hsp hp hst
  rw [zbh, zmt (by omega), List.drop_length]
  rcases hst with ⟨h1, rfl⟩ | ⟨a, rfl, h1, h2⟩
  ·rw [c_leF (by omega), fin0 s sp (by omega) hp]
   simp [z5q]
  ·have hne : cur ≠ [] := by rw [h2, Ne, zqu (Nat.le_refl _)]; omega
   rw [c_leT (by omega), ze9 (by simp; omega)]
   simp only [Option.bind_some]
   have e : sp.map spV ++ [PV.agg [PV.int .i64 (a : Int), PV.int .i64 ((s.length : Nat) : Int)]] = (sp ++ [(a, s.length)]).map spV := by simp [spV]
   have hp' : ∀ p ∈ sp ++ [(a, s.length)], p.1 ≤ p.2 ∧ p.2 ≤ s.length := by
    intro p hpm; rcases List.mem_append.1 hpm with h | h
    ·exact hp p h
    ·simp at h; subst h; exact ⟨by omega, Nat.le_refl _⟩
   rw [e, fin0 s _ (by simp; omega) hp', fin1 s _ (by simp; omega) hp']
   have ew : z5q cur [] = [cur] := by rw [z5q, if_neg hne]
   have e3 : spW s (a, s.length) = cur := h2.symm
   cases leN ((sp ++ [(a, s.length)]).map spV).length cp <;> simp [ew, e3]
 intro m
 induction m with
 | zero =>
  intro i x2 sp cur hm hi hsp hp hst
  obtain rfl : i = s.length := by omega
  exact done x2 sp cur hsp hp hst
 | succ m ih =>
  intro i x2 sp cur hm hi hsp hp hst
  by_cases hend : i = s.length
  ·subst hend; exact done x2 sp cur hsp hp hst
  ·have hlt : i < s.length := by omega
   obtain ⟨c, r, hr⟩ : ∃ c r, s.drop i = c :: r := ⟨_, _, List.drop_eq_getElem_cons hlt⟩
   obtain ⟨_, h2, h3⟩ := z3m hr
   rw [zbh, ztg hlt, z146]
   simp only [Option.bind_some, zr]
   rcases step_rune hr with ⟨hb, hd⟩ | ⟨n, hn, hn1, hn2, hno, hall⟩
   ·have hb' := of_decide_eq_true hb
    rw [decide_eq_true (by rw [hd]; simp only; omega), cond_true, hd]
    simp only
    rcases hst with ⟨h1, rfl⟩ | ⟨a, rfl, h1, hcur⟩
    ·rw [c_leF (by omega), ih (i + 1) x2 sp [] (by omega) (by omega) (by omega) hp (.inl ⟨h1, rfl⟩), h3, hr, zg5 hb, if_pos rfl]
    ·have hne : cur ≠ [] := by rw [hcur, Ne, zqu (by omega)]; omega
     rw [c_leT (by omega), ze9 (by simp; omega)]
     simp only [Option.bind_some]
     have e : sp.map spV ++ [PV.agg [PV.int .i64 (a : Int), PV.int .i64 ((i : Nat) : Int)]] = (sp ++ [(a, i)]).map spV := by simp [spV]
     have hp' : ∀ p ∈ sp ++ [(a, i)], p.1 ≤ p.2 ∧ p.2 ≤ s.length := by
      intro p hpm; rcases List.mem_append.1 hpm with h | h
      ·exact hp p h
      ·simp at h; subst h; exact ⟨by omega, by omega⟩
     rw [e, ih (i + 1) _ _ [] (by omega) (by omega) (by simp; omega) hp' (.inl ⟨z1ae (by omega) (by omega), rfl⟩),
      ff_loop1 s hs m (i + 1) _ _ [] (by omega) (by omega) (by simp; omega) hp' (.inl ⟨z1ae (by omega) (by omega), rfl⟩)]
     rw [h3, hr, zg5 hb, if_neg hne]
     cases leN ((sp ++ [(a, i)]).map spV).length cp <;> simp [spW, hcur]
   ·rw [decide_eq_false (by omega), cond_false]
    rw [hn]
    have hsplit : s.drop i = (s.drop i).take n ++ s.drop (i + n) := by
     rw [← List.drop_drop, List.take_append_drop]
    rcases hst with ⟨h1, rfl⟩ | ⟨a, rfl, h1, hcur⟩
    ·rw [c_ltT h1, ih (i + n) (i : Int) sp ((s.drop i).take n) (by omega) hn2 (by omega) hp (.inr ⟨i, rfl, by omega, by rw [show i + n - i = n by omega]⟩)]
     conv => rhs; rw [hsplit]
     rw [zg4 _ _ _ hall]; simp
    ·rw [c_ltF (by omega), ih (i + n) (a : Int) sp (cur ++ (s.drop i).take n) (by omega) hn2 (by omega) hp (.inr ⟨a, rfl, by omega, by rw [hcur, cur_app (by omega) hn2]⟩)]
     conv => rhs; rw [hsplit]
     rw [zg4 _ _ _ hall]
theorem zr9 (s : List UInt8) (hs : Sm s) : zin s = some (.sl 1 ((z2z s).map PV.str)) := by
 rw [z15c, zlr]
 have h := ff_loop s hs 32 s.length 0 (-1) [] [] (by omega) (Nat.zero_le _) (Nat.le_refl _) (by simp) (.inl ⟨by omega, rfl⟩)
 simp only [List.map_nil, List.nil_append, List.drop_zero] at h
 have e : (okOther blF && true) = true := rfl
 rw [e, cond_true, h]
 rfl
end Dv

namespace Dv
open Go
abbrev DateO := Option (Int × Int × Int)
def tupO : DateO → Int → Int → Int → PV
 | some (y, m, d), _, _, _ => .tuple [.agg [.int .i64 y, .int .i64 m, .int .i64 d], .bool true]
 | none, y, m, d => .tuple [.agg [.int .i64 y, .int .i64 m, .int .i64 d], .bool false]
def IsW (v : PV) (o : DateO) : Prop := ∃ y m d, v = tupO o y m d
def IsR (v : PV) (o : DateO) : Prop := match o with
 | some (y, m, d) => v = .agg [.int .i64 y, .int .i64 m, .int .i64 d, .bool true]
 | none => ∃ y m d, v = .agg [.int .i64 y, .int .i64 m, .int .i64 d, .bool false]
def namO (a b c : List UInt8) : DateO :=
 if 0 < monI a then (if dgs b 1 2 && dgs c 3 6 then some (numN c, monI a, numN b) else none)
 else if 0 < monI b then
  (if dgs a 3 6 then (if dgs c 1 2 && dgs a 3 6 then some (numN a, monI b, numN c) else none)
   else (if dgs a 1 2 && dgs c 3 6 then some (numN c, monI b, numN a) else none))
 else none
theorem z1e3 (s : List UInt8) (hs : Sm s) : callW EE [zpg] (.func (.func z34) [] []) [.str s] = some (.bool (ltB 0 (monI s))) := by
 have e : funTI EE z34 = [zpg] := by kernel_rfl
 have h := zp2 s
 rw [z1cr s hs] at h
 simp only [Option.bind_some, zo] at h
 unfold zip callF at h
 rw [e] at h
 exact h
theorem at_s (a b : List UInt8) (ha : Sm a) (hb : Sm b) : z9j [.str a, .str b] (.func (.func z34) [] []) = some (.int .i64 (if 0 < monI a then 0 else if 0 < monI b then 1 else -1)) := by
 have e0 : okOther (.func (.func z34) [] []) = true := rfl
 have w1 : IntKind.i64.wrap (0 + 1) = 1 := rfl
 have w2 : IntKind.i64.wrap (1 + 1) = 2 := rfl
 have r0 : rdI tiStr [.str a, .str b] 0 = some (.str a) := rfl
 have r1 : rdI tiStr [.str a, .str b] 1 = some (.str b) := rfl
 rw [zio, e0, Bool.true_and, cond_true, z65, c_ltT (by simp), r0]
 simp only [Option.bind_some, z2j]
 rw [z1e3 a ha]
 simp only [Option.bind_some, zr]
 by_cases h1 : 0 < monI a
 ·rw [c_ltT h1, if_pos h1]
 ·rw [c_ltF h1, if_neg h1, w1, z65, c_ltT (by simp), r1]
  simp only [Option.bind_some, z2j]
  rw [z1e3 b hb]
  simp only [Option.bind_some, zr]
  by_cases h2 : 0 < monI b
  ·rw [c_ltT h2, if_pos h2]
  ·rw [c_ltF h2, if_neg h2, w2, z65, c_ltF (by simp)]
theorem zzu (l : List PV) (k : Int) (x : List UInt8) (hk : rdI tiStr l k = some (.str x)) (p q r : List UInt8) (hx : Sm x) (hp : Sm p) (hq : Sm q) (y m d : Int) :
  ∃ v, z20 l k 0 2 y m d [.str p, .str q, .str r] = some v ∧ IsW v (if dgs p 1 2 && dgs q 3 6 then some (numN q, monI x, numN p) else none) := by
 have r0 : rdT tiStr [.str p, .str q, .str r] 0 0 = some (.str p) := rfl
 have r1 : rdT tiStr [.str p, .str q, .str r] (0 + 1) 0 = some (.str q) := rfl
 have i0 : inB 0 0 ((2 : Nat) : Int) = true := rfl
 have i1 : inB 0 1 ((2 : Nat) : Int) = true := rfl
 rw [zjw]
 simp only [i0, i1, cond_true]
 rw [r1, r0, hk]
 simp only [Option.bind_some, z2j]
 rw [zjm q hq, z1cr x hx, zjm p hp]
 simp only [Option.bind_some, zo]
 rw [zfb p hp (by omega), zfb q hq (by omega)]
 simp only [Option.bind_some, zr]
 cases dgs p 1 2 with
 | false => exact ⟨_, rfl, _, _, _, rfl⟩
 | true =>
  rw [cond_true]
  cases dgs q 3 6 with
  | false => exact ⟨_, rfl, _, _, _, rfl⟩
  | true => exact ⟨_, rfl, 0, 0, 0, rfl⟩
theorem zxk (a b c : List UInt8) (ha : Sm a) (hb : Sm b) (hc : Sm c) : ∃ v, zcd ([a, b, c].map PV.str) = some v ∧ IsW v (namO a b c) := by
 have t2 : takeS ([a, b, c].map PV.str) (2 : Int) = some [.str a, .str b] := rfl
 rw [zs3, t2]
 simp only [Option.bind_some]
 rw [at_s a b ha hb]
 simp only [Option.bind_some, zo]
 unfold namO
 by_cases h1 : 0 < monI a
 ·rw [if_pos h1, if_pos h1]
  obtain ⟨v, hv, hw⟩ := zzu ([a, b, c].map PV.str) 0 a rfl b c [] ha hb hc 0 0 0
  refine ⟨v, ?_, hw⟩
  rw [← hv]
  have e : z5e ([a, b, c].map PV.str) 0 0 2 0 0 0 [.str b, .str c, .str []] = z20 ([a, b, c].map PV.str) 0 0 2 0 0 0 [.str b, .str c, .str []] := by
   rw [zcc, c_eqF (by omega)]
  rw [← e]
  show _ = _
  kernel_rfl
 ·rw [if_neg h1, if_neg h1]
  by_cases h2 : 0 < monI b
  ·rw [if_pos h2, if_pos h2]
   have e : z5e ([a, b, c].map PV.str) 1 0 2 0 0 0 [.str a, .str c, .str []] = bif dgs a 3 6 then z20 ([a, b, c].map PV.str) 1 0 2 0 0 0 [.str c, .str a, .str []] else z20 ([a, b, c].map PV.str) 1 0 2 0 0 0 [.str a, .str c, .str []] := by
    have r0 : rdT tiStr [.str a, .str c, .str []] 0 0 = some (.str a) := rfl
    rw [zcc, c_eqT rfl, c_inT (by simp), r0]
    simp only [Option.bind_some, z2j]
    rw [zfb a ha (by omega)]
    simp only [Option.bind_some, zr]
    rw [zjx, z36]
    have e2 : z1f 0 2 1 0 [.str c, .str a, .str []] 0 0 0 ([a, b, c].map PV.str) 1 0 2 0 2 = z20 ([a, b, c].map PV.str) 1 0 2 0 0 0 [.str c, .str a, .str []] := by
     rw [z36, c_ltF (by omega)]
    rw [← e2]
    show _ = _
    kernel_rfl
   obtain ⟨v, hv, hw⟩ : ∃ v, z5e ([a, b, c].map PV.str) 1 0 2 0 0 0 [.str a, .str c, .str []] = some v ∧ IsW v (if dgs a 3 6 then (if dgs c 1 2 && dgs a 3 6 then some (numN a, monI b, numN c) else none)
     else (if dgs a 1 2 && dgs c 3 6 then some (numN c, monI b, numN a) else none)) := by
    rw [e]
    have f1 := zzu ([a, b, c].map PV.str) 1 b rfl c a [] hb hc ha 0 0 0
    have f2 := zzu ([a, b, c].map PV.str) 1 b rfl a c [] hb ha hc 0 0 0
    cases hd : dgs a 3 6 with
    | true => rw [hd] at f1; exact f1
    | false => exact f2
   refine ⟨v, ?_, hw⟩
   rw [← hv]
   show _ = _
   kernel_rfl
  ·rw [if_neg h2, if_neg h2, c_ltT (by omega)]
   exact ⟨_, rfl, _, _, _, rfl⟩
theorem z1dh (a b c : List UInt8) (ha : Sm a) (hb : Sm b) (hc : Sm c) : ∃ v, z8s ([a, b, c].map PV.str) = some v ∧ IsR v (namO a b c) := by
 have h0 := zy7 a
 have h1 := zy7 b
 have fin : ∀ (m : Int) (p q : List UInt8), Sm p → Sm q → ∃ v, z40 m p q 0 0 0 false = some v ∧ IsR v (if 0 < m ∧ (dgs p 1 2 && dgs q 3 6) = true then some (numN q, m, numN p) else none) := by
  intro m p q hp hq
  rw [zgs]
  by_cases hm : 0 < m
  ·rw [c_ltT hm, zhv p hp]
   simp only [Option.bind_some, zr]
   cases dgs p 1 2 with
   | false =>
    rw [cond_false, z72]
    exact ⟨_, rfl, by simp [IsR]⟩
   | true =>
    rw [cond_true, zhv q hq]
    simp only [Option.bind_some, zr]
    rw [z72, zlw p hp, zlw q hq]
    cases dgs q 3 6 with
    | false => exact ⟨_, rfl, by simp [IsR]⟩
    | true => exact ⟨_, rfl, by simp [IsR, hm, PV.toI]⟩
  ·rw [c_ltF hm, z72]
   exact ⟨_, rfl, by simp [IsR, hm]⟩
 rw [zl3, c_not, c_eqT (by simp), rd0, rd1s, rd2s]
 simp only [Option.bind_some, z2j]
 rw [zvt a ha, zvt b hb]
 simp only [Option.bind_some, zo]
 unfold namO
 by_cases ha0 : monI a = 0
 ·rw [c_eqT ha0, zau, rd0]
  simp only [Option.bind_some, z2j]
  rw [zvt a ha]
  simp only [Option.bind_some, zo]
  rw [c_eqT ha0, zhv a ha]
  simp only [Option.bind_some, zr]
  rw [if_neg (by omega)]
  cases hd : dgs a 3 6 with
  | true =>
   rw [cond_true, zgt]
   obtain ⟨v, hv, hr⟩ := fin (monI b) c a hc ha
   refine ⟨v, hv, ?_⟩
   by_cases hb0 : 0 < monI b
   ·simpa [hb0, hd] using hr
   ·simpa [hb0] using hr
  | false =>
   rw [cond_false]
   obtain ⟨v, hv, hr⟩ := fin (monI b) a c ha hc
   refine ⟨v, hv, ?_⟩
   by_cases hb0 : 0 < monI b
   ·simpa [hb0] using hr
   ·simpa [hb0] using hr
 ·rw [c_eqF ha0, zau, rd0]
  simp only [Option.bind_some, z2j]
  rw [zvt a ha]
  simp only [Option.bind_some, zo]
  rw [c_eqF ha0, if_pos (by omega)]
  obtain ⟨v, hv, hr⟩ := fin (monI a) b c hb hc
  refine ⟨v, hv, ?_⟩
  have : 0 < monI a := by omega
  simpa [this] using hr
def grpO (y m d : List UInt8) : DateO := if dgs m 1 2 && (dgs d 1 2 && dgs y 1 6) then some (yearO y, numN m, numN d) else none
def zvj (a b c : List UInt8) (o : Int) : DateO := if dgs a 3 6 || eqB o 0 then grpO a b c else if eqB o 1 then grpO c b a else grpO c a b
theorem z1ct (y m d : List UInt8) (hy : Sm y) (hm : Sm m) (hd : Sm d) (i j k : Int) : ∃ v, z57 y m d i j k = some v ∧ IsW v (grpO y m d) := by
 rw [zly, wyear_s y hy, zjm m hm, zjm d hd]
 simp only [Option.bind_some, zo]
 rw [zfb m hm (by omega), zfb d hd (by omega), zfb y hy (by omega)]
 simp only [Option.bind_some, zr]
 unfold grpO
 cases dgs m 1 2 <;> cases dgs d 1 2 <;> cases dgs y 1 6 <;> first | exact ⟨_, rfl, 0, 0, 0, rfl⟩ | exact ⟨_, rfl, _, _, _, rfl⟩
theorem z1cp (a b c : List UInt8) (ha : Sm a) (hb : Sm b) (hc : Sm c) (o : Int) : ∃ v, zca ([a, b, c].map PV.str) o = some v ∧ IsW v (zvj a b c o) := by
 rw [zs1, rd0, rd1s, rd2s]
 simp only [Option.bind_some, z2j]
 rw [zfb a ha (by omega)]
 simp only [Option.bind_some, zr]
 unfold zvj
 cases dgs a 3 6 with
 | true => exact z1ct a b c ha hb hc 0 0 0
 | false =>
  rw [cond_false]
  cases h0 : eqB o 0 with
  | true => exact z1ct a b c ha hb hc 0 0 0
  | false =>
   rw [cond_false, zlz, rd0, rd1s, rd2s]
   simp only [Option.bind_some, z2j]
   cases h1 : eqB o 1 with
   | true => exact z1ct c b a hc hb ha 0 0 0
   | false => exact z1ct c a b hc ha hb 0 0 0
theorem z1di (y m d : List UInt8) (hy : Sm y) (hm : Sm m) (hd : Sm d) : ∃ v, z31 y m d 0 0 0 false = some v ∧ IsR v (grpO y m d) := by
 rw [zgp, zhv m hm, zhv d hd, zhv y hy]
 simp only [Option.bind_some, zr]
 rw [zgo, zgn, ryear_s y hy, zlw m hm, zlw d hd]
 simp only [Option.bind_some, zo]
 unfold grpO
 cases dgs m 1 2 <;> cases dgs d 1 2 <;> cases dgs y 1 6 <;> exact ⟨_, rfl, by simp [IsR]⟩
theorem z1de (a b c : List UInt8) (ha : Sm a) (hb : Sm b) (hc : Sm c) (o : Int) (ho : 0 ≤ o ∧ o ≤ 2) : ∃ v, z5l o ([a, b, c].map PV.str) 0 0 0 false = some v ∧ IsR v (zvj a b c o) := by
 rw [zgq, rd0, rd1s, rd2s]
 simp only [Option.bind_some, z2j]
 rw [zhv a ha]
 simp only [Option.bind_some, zr]
 unfold zvj
 rw [c_not]
 cases dgs a 3 6 with
 | true => exact z1di a b c ha hb hc
 | false =>
  rw [cond_false]
  by_cases h1 : o = 1
  ·subst h1
   exact z1di c b a hc hb ha
  ·rw [c_eqF h1]
   by_cases h2 : o = 2
   ·subst h2
    exact z1di c a b hc ha hb
   ·rw [c_eqF h2]
    have h0 : eqB o 0 = true := decide_eq_true (by omega)
    rw [h0]
    exact z1di a b c ha hb hc
def signO (s : List UInt8) (o : Int) : List UInt8 → DateO
 | [] => none
 | g :: gs => match splitB g s with
  | [a, b, c] => if (g == 45 && monB a b) = true then namO a b c else zvj a b c o
  | _ => signO s o gs
def ziq (s : List UInt8) (o : Int) : DateO := if dgs s 8 8 then some (numN (s.take 4), numN ((s.drop 4).take 2), numN (s.drop 6)) else signO s o [45, 47, 46]
end Dv

namespace Dv
open Go
theorem z1df (s : List UInt8) (hs : Sm s) (h : dgs s 8 8 = true) : takeS s (4 : Int) = some (s.take 4) ∧ subS s (4 : Int) (6 : Int) = some ((s.drop 4).take 2) ∧ dropS s (6 : Int) = some (s.drop 6) := by
 unfold dgs leB at h
 simp only [Bool.and_eq_true, decide_eq_true_eq] at h
 refine ⟨zg7 (n := 4) (by omega), z17s (a := 4) (b := 6) (by omega) (by omega), z8q (n := 6) (by omega)⟩
theorem zz4 {s : List UInt8} (hs : Sm s) (n : Nat) : Sm (s.take n) := by have : s.length ≤ 10000000000 := hs; show (s.take n).length ≤ _; simp; omega
theorem zue {s : List UInt8} (hs : Sm s) (n : Nat) : Sm (s.drop n) := by have : s.length ≤ 10000000000 := hs; show (s.drop n).length ≤ _; simp; omega
theorem three_split {b : UInt8} {s : List UInt8} (hs : Sm s) : (∃ x y z, splitB b s = [x, y, z] ∧ Sm x ∧ Sm y ∧ Sm z) ∨ ((splitB b s).length ≠ 3) := by
 have h := splitB_sm b hs
 match hsp : splitB b s with
 | [] => exact .inr (by simp)
 | [_] => exact .inr (by simp)
 | [_, _] => exact .inr (by simp)
 | [x, y, z] =>
  rw [hsp] at h
  exact .inl ⟨x, y, z, rfl, h x (by simp), h y (by simp), h z (by simp)⟩
 | _ :: _ :: _ :: _ :: _ => exact .inr (by simp)
theorem z14z {s : List UInt8} {o : Int} {g : UInt8} {gs : List UInt8} (h : (splitB g s).length ≠ 3) : signO s o (g :: gs) = signO s o gs := by
 rw [signO]
 split
 ·rename_i hsp; rw [hsp] at h; simp at h
 ·rfl
theorem zz7 {s : List UInt8} {o : Int} {g : UInt8} {gs : List UInt8} {x y z : List UInt8} (h : splitB g s = [x, y, z]) : signO s o (g :: gs) = if (g == 45 && monB x y) = true then namO x y z else zvj x y z o := by
 rw [signO, h]
theorem z132 (s : List UInt8) (hs : Sm s) (o : Int) (ho : 0 ≤ o ∧ o ≤ 2) : ∀ (gs : List UInt8) (i : Nat), ([45, 47, 46] : List UInt8).drop i = gs → i ≤ 3 →
  ∃ v, z6m s o [45, 47, 46] (i : Int) 0 0 0 false = some v ∧ IsR v (signO s o gs)
 | [], i, h, hi => by
  have hl := z9u h
  simp at hl
  rw [zat, c_ltF (by simp; omega)]
  exact ⟨_, rfl, 0, 0, 0, rfl⟩
 | g :: gs, i, h, hi => by
  obtain ⟨h1, h2, h3⟩ := z3m h
  have hl3 : i < 3 := h1
  obtain ⟨v, hv, hr⟩ := z132 s hs o ho gs (i + 1) h3 (by omega)
  have hw : IntKind.i64.wrap ((i : Int) + 1) = ((i + 1 : Nat) : Int) := by rw [w64 (by omega) (by omega)]; omega
  rw [zat, c_ltT (by simp; omega), zgl h2]
  simp only [Option.bind_some]
  rw [rsplit_s s hs g]
  simp only [Option.bind_some, zbx]
  rcases three_split (b := g) hs with ⟨x, y, z, hsp, hx, hy, hz⟩ | hno
  ·rw [hsp, c_not, c_eqT (by simp), rd0, rd1s]
   simp only [Option.bind_some, z2j]
   rw [zvt x hx, zvt y hy, zz7 hsp]
   simp only [Option.bind_some, zo]
   obtain ⟨v2, hv2, hr2⟩ := z1dh x y z hx hy hz
   have n10 : z5m ([x, y, z].map PV.str) 0 0 0 false = some v2 := by
    rw [zgr, hv2]
    simp only [Option.bind_some]
    unfold IsR at hr2
    split at hr2
    ·rw [hr2]; rfl
    ·obtain ⟨_, _, _, hr2⟩ := hr2; rw [hr2]; rfl
   by_cases hg : g = 45
   ·subst hg
    rw [c_eqT (show (((45 : UInt8).toNat : Nat) : Int) = 45 from rfl)]
    unfold monB
    cases hm1 : ltB 0 (monI x) with
    | true => rw [cond_true]; exact ⟨v2, n10, by simpa using hr2⟩
    | false =>
     rw [cond_false]
     cases hm2 : ltB 0 (monI y) with
     | true => rw [cond_true]; exact ⟨v2, n10, by simpa using hr2⟩
     | false =>
      rw [cond_false]
      exact z1de x y z hx hy hz o ho
   ·have hne : ¬ (g.toNat : Int) = 45 := by
     intro h; apply hg; apply UInt8.toNat_inj.1; show g.toNat = 45; omega
    rw [c_eqF hne]
    have : (g == 45) = false := by simpa using hg
    rw [this]
    exact z1de x y z hx hy hz o ho
  ·rw [c_not, c_eqF (by simp; omega), hw, z14z hno]
   exact ⟨v, hv, hr⟩
theorem rplain_s (s : List UInt8) (hs : Sm s) (o : Int) (ho : 0 ≤ o ∧ o ≤ 2) : ∃ v, zb7 s o = some v ∧ IsR v (ziq s o) := by
 rw [zl2, zhv s hs]
 simp only [Option.bind_some, zr]
 unfold ziq
 cases hd : dgs s 8 8 with
 | true =>
  obtain ⟨e1, e2, e3⟩ := z1df s hs hd
  rw [cond_true, e1, e2, e3]
  simp only [Option.bind_some]
  rw [zlw _ (zz4 hs 4), zlw _ (zz4 (zue hs 4) 2), zlw _ (zue hs 6)]
  exact ⟨_, rfl, by simp [IsR, PV.toI]⟩
 | false =>
  rw [cond_false]
  obtain ⟨v, hv, hr⟩ := z132 s hs o ho [45, 47, 46] 0 rfl (by omega)
  exact ⟨v, hv, by simpa using hr⟩
def takeR (bc : Bool) : DateO → DateO
 | none => none
 | some (y, m, d) => if y = 0 ∨ m < 1 ∨ 12 < m then none else
  if 1 ≤ d ∧ d ≤ lenI (if bc then IntKind.i64.wrap (1 - y) else y) m then some (if bc then IntKind.i64.wrap (1 - y) else y, m, d) else none
def z47 (l : List (List UInt8)) (o : Int) : DateO × List (List UInt8) :=
 match l with
 | [] => (none, [])
 | [a] => (ziq a o, [])
 | [a, b] => (ziq a o, [b])
 | a :: b :: c :: r => if monB a b then (namO a b c, r) else (ziq a o, b :: c :: r)
def dateV (t : DateO) (r : List (List UInt8)) : PV := match t with
 | some (y, m, d) => .tuple [.int .i64 y, .int .i64 m, .int .i64 d, .sl 1 (r.map PV.str), .bool true]
 | none => .tuple [.int .i64 0, .int .i64 0, .int .i64 0, .sl 0 [], .bool false]
theorem z1dn (l : List (List UInt8)) (bc : Bool) (n : Nat) (hn : n ≤ l.length) (v : PV) (t : DateO) (h : IsR v t) :
  z52 (l.map PV.str) bc (n : Int) (PV.toI (PV.nth v 0)) (PV.toI (PV.nth v 1)) (PV.toI (PV.nth v 2)) (PV.toB (PV.nth v 3)) = some (dateV (takeR bc t) (l.drop n)) := by
 have c9 : z3o = some (dateV none (l.drop n)) := zj0
 have c13 : z6n = some (dateV none (l.drop n)) := zi3
 unfold IsR at h
 rw [zj1]
 split at h
 ·rename_i y m d
  subst h
  have b3 : (PV.agg [.int .i64 y, .int .i64 m, .int .i64 d, .bool true]).nth 3 = .bool true := rfl
  rw [b3, ag0, ag1, ag2]
  simp only [zo, zr, takeR]
  rw [c_not, zjf]
  by_cases hy : y = 0
  ·rw [c_eqT hy, if_pos (.inl hy), c9]
  rw [c_eqF hy]
  by_cases h1 : m < 1
  ·rw [c_ltT h1, if_pos (.inr (.inl h1)), c9]
  rw [c_ltF h1]
  by_cases h2 : 12 < m
  ·rw [c_ltT h2, if_pos (.inr (.inr h2)), c9]
  rw [c_ltF h2, if_neg (by omega)]
  have fin : ∀ y', z6o (l.map PV.str) (n : Int) y' m d true = some (dateV (if 1 ≤ d ∧ d ≤ lenI y' m then some (y', m, d) else none) (l.drop n)) := by
   intro y'
   rw [zi4]
   by_cases h3 : d < 1
   ·rw [c_ltT h3, if_neg (by omega), c13]
   rw [c_ltF h3, zzf (by omega) (by omega)]
   simp only [Option.bind_some, zo]
   by_cases h4 : lenI y' m < d
   ·rw [c_ltT h4, if_neg (by omega), c13]
   rw [c_ltF h4, if_pos (by omega), zi2, z8q (by simpa using hn)]
   simp [dateV]
  rw [zi5]
  cases bc with
  | true => rw [cond_true, fin]; rfl
  | false => rw [cond_false, fin]; rfl
 ·obtain ⟨y, m, d, rfl⟩ := h
  have b3 : (PV.agg [.int .i64 y, .int .i64 m, .int .i64 d, .bool false]).nth 3 = .bool false := rfl
  rw [b3]
  simp only [zr]
  rw [c_not, zv5, c9]
  rfl
theorem z15j (l : List (List UInt8)) (hl : ∀ p ∈ l, Sm p) (bc : Bool) (o : Int) (ho : 0 ≤ o ∧ o ≤ 2) :
  z9g (l.map PV.str) bc o = some (dateV (takeR bc (z47 l o).1) (z47 l o).2) := by
 rw [zmh]
 match l, hl with
 | [], _ => rw [c_eqT (by simp)]; rfl
 | a :: l', hl =>
  have ha := hl a (by simp)
  obtain ⟨v, hv, hr⟩ := rplain_s a ha o ho
  rw [c_eqF (by simp; omega), rd0]
  simp only [Option.bind_some, z2j]
  rw [hv]
  simp only [Option.bind_some]
  have one := z1dn (a :: l') bc 1 (by simp) v _ hr
  match l', hl, one with
  | [], _, one =>
   rw [c_leF (by simp)]
   exact one
  | [b], _, one =>
   rw [c_leF (by simp)]
   exact one
  | b :: c :: r, hl, one =>
   have hb := hl b (by simp)
   have hc := hl c (by simp)
   rw [c_leT (by simp; omega), rd1s, zvt a ha]
   simp only [Option.bind_some, z2j, zo]
   rw [zvt b hb]
   simp only [Option.bind_some, zo]
   have n6 : ∀ y m d k, z7d ((a :: b :: c :: r).map PV.str) bc y m d k = some (dateV (takeR bc (namO a b c)) r) := by
    intro y m d k
    obtain ⟨v2, hv2, hr2⟩ := z1dh a b c ha hb hc
    have t3 : takeS ((a :: b :: c :: r).map PV.str) (3 : Int) = some ([a, b, c].map PV.str) := by
     rw [show (3 : Int) = ((3 : Nat) : Int) from rfl, zg7 (by simp)]; rfl
    rw [zj2, t3]
    simp only [Option.bind_some]
    rw [hv2]
    simp only [Option.bind_some]
    have := z1dn (a :: b :: c :: r) bc 3 (by simp) v2 _ hr2
    exact this
   unfold z47 monB
   cases hm1 : ltB 0 (monI a) with
   | true => rw [cond_true, n6]; simp [hm1]
   | false =>
    rw [cond_false]
    cases hm2 : ltB 0 (monI b) with
    | true => rw [cond_true, n6]; simp [hm2]
    | false => rw [cond_false]; simpa [hm1, hm2] using one
theorem z115 {y m : Int} (h : m < 1 ∨ 12 < m) : zgj y m = some (.int .i64 0) := by
 rw [zmr, zgi]
 by_cases h1 : m < 1
 ·rw [c_ltT h1]
 ·rw [c_ltF h1, c_ltT (by omega)]
theorem z12s {bc : Bool} {y m d : Int} (hy : y ≠ 0) : takeR bc (some (y, m, d)) = if 1 ≤ d ∧ (1 ≤ m ∧ m ≤ 12 ∧ d ≤ lenI (if bc then IntKind.i64.wrap (1 - y) else y) m) then some (if bc then IntKind.i64.wrap (1 - y) else y, m, d) else none := by
 simp only [takeR]
 generalize (if bc = true then IntKind.i64.wrap (1 - y) else y) = Y
 by_cases h1 : m < 1 ∨ 12 < m
 ·rw [if_pos (.inr h1), if_neg (by omega)]
 ·rw [if_neg (by omega)]
  by_cases h2 : 1 ≤ d ∧ d ≤ lenI Y m
  ·rw [if_pos h2, if_pos (by omega)]
  ·rw [if_neg h2, if_neg (by omega)]
def OkD (t : DateO) (ok : Bool) (y m d : Int) : Prop := t = if ok then some (y, m, d) else none
theorem z1cq (s : List UInt8) (hs : Sm s) (h : dgs s 8 8 = true) : ∃ v, zcb s = some v ∧ IsW v (some (numN (s.take 4), numN ((s.drop 4).take 2), numN (s.drop 6))) := by
 obtain ⟨e1, e2, e3⟩ := z1df s hs h
 rw [zs2, e1, e2, e3]
 simp only [Option.bind_some]
 rw [zjm _ (zz4 hs 4), zjm _ (zz4 (zue hs 4) 2), zjm _ (zue hs 6)]
 exact ⟨_, rfl, 0, 0, 0, rfl⟩
theorem dec3 {i : Nat} {g : UInt8} {gs : List UInt8} (h : ([45, 47, 46] : List UInt8).drop i = g :: gs) : decR ([45, 47, 46] : List UInt8) i = (g.toNat, 1) ∧ encR ((g.toNat : Nat) : Int) = [g] ∧ i < 3 ∧ (g = 45 ↔ (g.toNat : Int) = 45) := by
 obtain ⟨h1, h2, h3⟩ := z3m h
 have hl3 : i < 3 := h1
 have hg : g = 45 ∨ g = 47 ∨ g = 46 := by
  match i, hl3, h2 with
  | 0, _, h2 => simp at h2; exact .inl h2.symm
  | 1, _, h2 => simp at h2; exact .inr (.inl h2.symm)
  | 2, _, h2 => simp at h2; exact .inr (.inr h2.symm)
 refine ⟨zcr h2 (by rcases hg with rfl | rfl | rfl <;> decide), ?_, hl3, ?_⟩
 ·rcases hg with rfl | rfl | rfl <;> (show encR _ = _; kernel_rfl)
 ·rcases hg with rfl | rfl | rfl <;> decide
end Dv

namespace Dv
open Go
theorem zyf (bc : Bool) (v : PV) (t : DateO) (h : IsW v t) (rest : List PV) (y m d : Int) (st1 st2 st3 i j : Int) (b1 b2 : Bool) (o1 : Int) :
  ∃ ok Y M D, (bif (!(PV.toB (PV.tnth v 1))) then (z14 y m d st1 st2 st3 i j rest b1 b2 o1) else (bif (eqB (PV.toI (PV.nth (PV.tnth v 0) 0)) (0 : Int)) then (z14 y m d st1 st2 st3 i j rest b1 b2 o1) else (z33 bc y m d (PV.toI (PV.nth (PV.tnth v 0) 0)) (PV.toI (PV.nth (PV.tnth v 0) 1)) (PV.toI (PV.nth (PV.tnth v 0) 2)) st1 st2 st3 i j rest b1 b2 o1))) =
   z3h ok i j (rest) Y M D ∧ OkD (takeR bc t) ok Y M D := by
 obtain ⟨y0, m0, d0, rfl⟩ := h
 cases t with
 | none =>
  simp only [tupO, tn1, zr]
  rw [c_not, zv5, z90]
  exact ⟨false, 0, 0, 0, rfl, rfl⟩
 | some p =>
  obtain ⟨a, b, c⟩ := p
  simp only [tupO, tn0, tn1, ag0, ag1, ag2, zr, zo]
  rw [c_not, zjf]
  by_cases ha : a = 0
  ·rw [c_eqT ha, z90]
   exact ⟨false, 0, 0, 0, rfl, by unfold OkD; simp [takeR, ha]⟩
  ·rw [c_eqF ha, zfd]
   have fin : ∀ Y, ∃ ok Y' M D, z49 y m d Y b c st1 st2 st3 i j rest b1 b2 o1 = z3h ok i j rest Y' M D ∧ (if 1 ≤ c ∧ (1 ≤ b ∧ b ≤ 12 ∧ c ≤ lenI Y b) then some (Y, b, c) else none : DateO) = if ok then some (Y', M, D) else none := by
    intro Y
    rw [zfc]
    by_cases h1 : 1 ≤ c
    ·rw [c_leT h1]
     by_cases h2 : 1 ≤ b ∧ b ≤ 12
     ·rw [z1cg h2.1 h2.2]
      simp only [Option.bind_some, zo]
      refine ⟨_, _, _, _, rfl, ?_⟩
      unfold leB
      by_cases h3 : c ≤ lenI Y b
      ·rw [if_pos (by omega), decide_eq_true h3]; rfl
      ·rw [if_neg (by omega), decide_eq_false h3]; rfl
     ·rw [z115 (by omega)]
      simp only [Option.bind_some, zo]
      refine ⟨_, _, _, _, rfl, ?_⟩
      unfold leB
      rw [if_neg (by omega), decide_eq_false (by omega)]; rfl
    ·rw [c_leF h1]
     exact ⟨_, _, _, _, rfl, by rw [if_neg (by omega)]; rfl⟩
   rw [show OkD (takeR bc (some (a, b, c))) = fun ok Y M D => takeR bc (some (a, b, c)) = if ok then some (Y, M, D) else none from rfl]
   simp only [z12s ha]
   cases bc with
   | true => exact fin _
   | false => exact fin _
theorem z14b (s : List UInt8) (hs : Sm s) (bc : Bool) (o : Int) (rest : List PV) (y m d : Int) (st1 st2 st3 i j : Int) (b1 b2 : Bool) (o1 : Int) (oo o2 : Int) (s1 s2 : List UInt8) : ∀ (gs : List UInt8) (k : Nat), ([45, 47, 46] : List UInt8).drop k = gs →
  ∃ ok Y M D, z3y s o [45, 47, 46] k y m d st1 st2 st3 i j rest bc oo s1 s2 o2 b1 b2 o1 = z3h ok i j (rest) Y M D ∧ OkD (takeR bc (signO s o gs)) ok Y M D
 | [], k, h => by
  have hl := z9u h
  rw [z8k, zmt (by simpa using hl), z8j]
  exact ⟨false, 0, 0, 0, rfl, rfl⟩
 | g :: gs, k, h => by
  obtain ⟨e1, e2, hk, hg⟩ := dec3 h
  obtain ⟨h1, h2, h3⟩ := z3m h
  obtain ⟨ok, Y, M, D, hv, hr⟩ := z14b s hs bc o rest y m d st1 st2 st3 i j b1 b2 o1 oo o2 s1 s2 gs (k + 1) h3
  rw [z8k, ztg (by simpa using hk), e1]
  simp only
  rw [e2, zz3 s g hs]
  simp only [Option.bind_some, zbx]
  rcases three_split (b := g) hs with ⟨x, z, w, hsp, hx, hz, hw⟩ | hno
  ·rw [hsp, c_not, c_eqT (by simp), zz7 hsp, zxl x z [w] hx hz]
   simp only [Option.bind_some, zr]
   have three : ∃ ok Y M D, z3x bc ([x, z, w].map PV.str) o y m d st1 st2 st3 i j rest b1 b2 o1 = z3h ok i j (rest) Y M D ∧ OkD (takeR bc (zvj x z w o)) ok Y M D := by
    obtain ⟨v, hv, hw⟩ := z1cp x z w hx hz hw o
    rw [zel, hv]
    simp only [Option.bind_some]
    exact zyf bc v _ hw rest y m d st1 st2 st3 i j b1 b2 o1
   by_cases hg45 : g = 45
   ·subst hg45
    rw [c_eqT (hg.1 rfl)]
    cases hm : monB x z with
    | true =>
     rw [cond_true]
     obtain ⟨v, hv, hw⟩ := zxk x z w hx hz hw
     rw [z9c, hv]
     simp only [Option.bind_some]
     exact zyf bc v _ hw rest y m d st1 st2 st3 i j b1 b2 o1
    | false => rw [cond_false]; exact three
   ·have : (g == 45) = false := by simpa using hg45
    rw [c_eqF (fun hx => hg45 (hg.2 hx)), this]
    exact three
  ·rw [c_not, c_eqF (by simp; omega), z14z hno]
   exact ⟨ok, Y, M, D, hv, hr⟩
theorem Date_word (s : List UInt8) (hs : Sm s) (bc : Bool) (o : Int) (rest : List PV) (y m d : Int) (st1 st2 st3 i j : Int) (b1 b2 : Bool) (o1 : Int) :
  ∃ ok Y M D, z4t bc o s true y m d st1 st2 st3 i j rest b1 b2 o1 = z3h ok i j (rest) Y M D ∧ OkD (takeR bc (ziq s o)) ok Y M D := by
 rw [z9d, cond_true, zfb s hs (by omega)]
 simp only [Option.bind_some, zr]
 unfold ziq
 cases hd : dgs s 8 8 with
 | true =>
  obtain ⟨v, hv, hw⟩ := z1cq s hs hd
  rw [cond_true, zem, hv]
  simp only [Option.bind_some]
  exact zyf bc v _ hw rest y m d st1 st2 st3 i j b1 b2 o1
 | false =>
  rw [cond_false]
  have := z14b s hs bc o rest y m d st1 st2 st3 i j b1 b2 o1 o o s s [45, 47, 46] 0 rfl
  simpa using this
theorem Date_take (l : List (List UInt8)) (hl : ∀ p ∈ l, Sm p) (bc : Bool) (o : Int) (st1 st3 i j : Int) :
  ∃ ok Y M D, z9p bc st1 o st3 i j (l.map PV.str) = z3h ok i j ((z47 l o).2.map PV.str) Y M D ∧ OkD (takeR bc (z47 l o).1) ok Y M D := by
 rw [zzl]
 match l, hl with
 | [], _ =>
  rw [c_leF (by simp), z9e, c_eqT (by simp), z9d, cond_false, z8j]
  exact ⟨false, 0, 0, 0, rfl, rfl⟩
 | a :: l', hl =>
  have ha := hl a (by simp)
  have hd1 : dropS ((a :: l').map PV.str) (1 : Int) = some (l'.map PV.str) := by
   rw [show (1 : Int) = ((1 : Nat) : Int) from rfl, z8q (by simp)]; rfl
  have one : ∀ y m d st1 st2 st3 i j b1 b2 o1, ∃ ok Y M D, z4u bc o ((a :: l').map PV.str) y m d st1 st2 st3 i j b1 b2 o1 = z3h ok i j (l'.map PV.str) Y M D ∧ OkD (takeR bc (ziq a o)) ok Y M D := by
   intro y m d st1 st2 st3 i j b1 b2 o1
   rw [z9e, c_eqF (by simp; omega), rd0, hd1]
   simp only [Option.bind_some, z2j]
   exact Date_word a ha bc o (l'.map PV.str) y m d st1 st2 st3 i j b1 b2 o1
  match l', hl, one with
  | [], _, one => rw [c_leF (by simp)]; exact one _ _ _ _ _ _ _ _ _ _ _
  | [b], _, one => rw [c_leF (by simp)]; exact one _ _ _ _ _ _ _ _ _ _ _
  | b :: c :: r, hl, one =>
   have hb := hl b (by simp)
   have hc := hl c (by simp)
   rw [c_leT (by simp; omega), zxl a b (c :: r) ha hb]
   simp only [Option.bind_some, zr]
   cases hm : monB a b with
   | true =>
    have ef : z47 (a :: b :: c :: r) o = (namO a b c, r) := by simp [z47, hm]
    rw [ef]
    have t3 : takeS ((a :: b :: c :: r).map PV.str) (3 : Int) = some ([a, b, c].map PV.str) := by
     rw [show (3 : Int) = ((3 : Nat) : Int) from rfl, zg7 (by simp)]; rfl
    have d3 : dropS ((a :: b :: c :: r).map PV.str) (3 : Int) = some (r.map PV.str) := by
     rw [show (3 : Int) = ((3 : Nat) : Int) from rfl, z8q (by simp)]; rfl
    obtain ⟨v, hv, hw⟩ := zxk a b c ha hb hc
    rw [cond_true, zfr, t3, d3]
    simp only [Option.bind_some]
    rw [z9c, hv]
    simp only [Option.bind_some]
    exact zyf bc v _ hw _ _ _ _ _ _ _ _ _ _ _ _
   | false =>
    have ef : z47 (a :: b :: c :: r) o = (ziq a o, b :: c :: r) := by simp [z47, hm]
    rw [ef, cond_false]
    exact one _ _ _ _ _ _ _ _ _ _ _
theorem zoo (bc : Bool) (v : PV) (t : DateO) (h : IsW v t) (rest : List PV) (y m d : Int) (i j : Int) (o0 : Int) (zb b1 b2 : Bool) (o1 : Int) :
  ∃ ok Y M D, (bif (!(PV.toB (PV.tnth v 1))) then (z11 y m d i j rest o0 zb b1 b2 o1) else (bif (eqB (PV.toI (PV.nth (PV.tnth v 0) 0)) (0 : Int)) then (z11 y m d i j rest o0 zb b1 b2 o1) else (z2q bc y m d (PV.toI (PV.nth (PV.tnth v 0) 0)) (PV.toI (PV.nth (PV.tnth v 0) 1)) (PV.toI (PV.nth (PV.tnth v 0) 2)) i j rest o0 zb b1 b2 o1))) =
   z2h zb ok i j (rest) Y M D ∧ OkD (takeR bc t) ok Y M D := by
 obtain ⟨y0, m0, d0, rfl⟩ := h
 cases t with
 | none =>
  simp only [tupO, tn1, zr]
  rw [c_not, zv5, z82]
  exact ⟨false, 0, 0, 0, rfl, rfl⟩
 | some p =>
  obtain ⟨a, b, c⟩ := p
  simp only [tupO, tn0, tn1, ag0, ag1, ag2, zr, zo]
  rw [c_not, zjf]
  by_cases ha : a = 0
  ·rw [c_eqT ha, z82]
   exact ⟨false, 0, 0, 0, rfl, by unfold OkD; simp [takeR, ha]⟩
  ·rw [c_eqF ha, ze2]
   have fin : ∀ Y, ∃ ok Y' M D, z3q y m d Y b c i j rest o0 zb b1 b2 o1 = z2h zb ok i j rest Y' M D ∧ (if 1 ≤ c ∧ (1 ≤ b ∧ b ≤ 12 ∧ c ≤ lenI Y b) then some (Y, b, c) else none : DateO) = if ok then some (Y', M, D) else none := by
    intro Y
    rw [ze1]
    by_cases h1 : 1 ≤ c
    ·rw [c_leT h1]
     by_cases h2 : 1 ≤ b ∧ b ≤ 12
     ·rw [z1cg h2.1 h2.2]
      simp only [Option.bind_some, zo]
      refine ⟨_, _, _, _, rfl, ?_⟩
      unfold leB
      by_cases h3 : c ≤ lenI Y b
      ·rw [if_pos (by omega), decide_eq_true h3]; rfl
      ·rw [if_neg (by omega), decide_eq_false h3]; rfl
     ·rw [z115 (by omega)]
      simp only [Option.bind_some, zo]
      refine ⟨_, _, _, _, rfl, ?_⟩
      unfold leB
      rw [if_neg (by omega), decide_eq_false (by omega)]; rfl
    ·rw [c_leF h1]
     exact ⟨_, _, _, _, rfl, by rw [if_neg (by omega)]; rfl⟩
   rw [show OkD (takeR bc (some (a, b, c))) = fun ok Y M D => takeR bc (some (a, b, c)) = if ok then some (Y, M, D) else none from rfl]
   simp only [z12s ha]
   cases bc with
   | true => exact fin _
   | false => exact fin _
theorem zw1 (s : List UInt8) (hs : Sm s) (bc : Bool) (o : Int) (rest : List PV) (y m d : Int) (i j : Int) (o0 : Int) (zb b1 b2 : Bool) (o1 : Int) (oo o2 : Int) (s1 s2 : List UInt8) : ∀ (gs : List UInt8) (k : Nat), ([45, 47, 46] : List UInt8).drop k = gs →
  ∃ ok Y M D, z3g s o [45, 47, 46] k y m d i j rest bc oo s1 s2 o2 o0 zb b1 b2 o1 = z2h zb ok i j (rest) Y M D ∧ OkD (takeR bc (signO s o gs)) ok Y M D
 | [], k, h => by
  have hl := z9u h
  rw [z7s, zmt (by simpa using hl), z7r]
  exact ⟨false, 0, 0, 0, rfl, rfl⟩
 | g :: gs, k, h => by
  obtain ⟨e1, e2, hk, hg⟩ := dec3 h
  obtain ⟨h1, h2, h3⟩ := z3m h
  obtain ⟨ok, Y, M, D, hv, hr⟩ := zw1 s hs bc o rest y m d i j o0 zb b1 b2 o1 oo o2 s1 s2 gs (k + 1) h3
  rw [z7s, ztg (by simpa using hk), e1]
  simp only
  rw [e2, zz3 s g hs]
  simp only [Option.bind_some, zbx]
  rcases three_split (b := g) hs with ⟨x, z, w, hsp, hx, hz, hw⟩ | hno
  ·rw [hsp, c_not, c_eqT (by simp), zz7 hsp, zxl x z [w] hx hz]
   simp only [Option.bind_some, zr]
   have three : ∃ ok Y M D, z3f bc ([x, z, w].map PV.str) o y m d i j rest o0 zb b1 b2 o1 = z2h zb ok i j (rest) Y M D ∧ OkD (takeR bc (zvj x z w o)) ok Y M D := by
    obtain ⟨v, hv, hw⟩ := z1cp x z w hx hz hw o
    rw [zd9, hv]
    simp only [Option.bind_some]
    exact zoo bc v _ hw rest y m d i j o0 zb b1 b2 o1
   by_cases hg45 : g = 45
   ·subst hg45
    rw [c_eqT (hg.1 rfl)]
    cases hm : monB x z with
    | true =>
     rw [cond_true]
     obtain ⟨v, hv, hw⟩ := zxk x z w hx hz hw
     rw [z8f, hv]
     simp only [Option.bind_some]
     exact zoo bc v _ hw rest y m d i j o0 zb b1 b2 o1
    | false => rw [cond_false]; exact three
   ·have : (g == 45) = false := by simpa using hg45
    rw [c_eqF (fun hx => hg45 (hg.2 hx)), this]
    exact three
  ·rw [c_not, c_eqF (by simp; omega), z14z hno]
   exact ⟨ok, Y, M, D, hv, hr⟩
theorem z1bn (s : List UInt8) (hs : Sm s) (bc : Bool) (o : Int) (rest : List PV) (y m d : Int) (i j : Int) (o0 : Int) (zb b1 b2 : Bool) (o1 : Int) :
  ∃ ok Y M D, z3u bc o s true y m d i j rest o0 zb b1 b2 o1 = z2h zb ok i j (rest) Y M D ∧ OkD (takeR bc (ziq s o)) ok Y M D := by
 rw [z8g, cond_true, zfb s hs (by omega)]
 simp only [Option.bind_some, zr]
 unfold ziq
 cases hd : dgs s 8 8 with
 | true =>
  obtain ⟨v, hv, hw⟩ := z1cq s hs hd
  rw [cond_true, zda, hv]
  simp only [Option.bind_some]
  exact zoo bc v _ hw rest y m d i j o0 zb b1 b2 o1
 | false =>
  rw [cond_false]
  have := zw1 s hs bc o rest y m d i j o0 zb b1 b2 o1 o o s s [45, 47, 46] 0 rfl
  simpa using this
theorem z1bo (l : List (List UInt8)) (hl : ∀ p ∈ l, Sm p) (bc : Bool) (o : Int) (zb : Bool) (i j : Int) :
  ∃ ok Y M D, z7m o zb bc i j (l.map PV.str) = z2h zb ok i j ((z47 l o).2.map PV.str) Y M D ∧ OkD (takeR bc (z47 l o).1) ok Y M D := by
 rw [zun]
 match l, hl with
 | [], _ =>
  rw [c_leF (by simp), z8h, c_eqT (by simp), z8g, cond_false, z7r]
  exact ⟨false, 0, 0, 0, rfl, rfl⟩
 | a :: l', hl =>
  have ha := hl a (by simp)
  have hd1 : dropS ((a :: l').map PV.str) (1 : Int) = some (l'.map PV.str) := by
   rw [show (1 : Int) = ((1 : Nat) : Int) from rfl, z8q (by simp)]; rfl
  have one : ∀ y m d i j o0 zb b1 b2 o1, ∃ ok Y M D, z3v bc o ((a :: l').map PV.str) y m d i j o0 zb b1 b2 o1 = z2h zb ok i j (l'.map PV.str) Y M D ∧ OkD (takeR bc (ziq a o)) ok Y M D := by
   intro y m d i j o0 zb b1 b2 o1
   rw [z8h, c_eqF (by simp; omega), rd0, hd1]
   simp only [Option.bind_some, z2j]
   exact z1bn a ha bc o (l'.map PV.str) y m d i j o0 zb b1 b2 o1
  match l', hl, one with
  | [], _, one => rw [c_leF (by simp)]; exact one _ _ _ _ _ _ _ _ _ _
  | [b], _, one => rw [c_leF (by simp)]; exact one _ _ _ _ _ _ _ _ _ _
  | b :: c :: r, hl, one =>
   have hb := hl b (by simp)
   have hc := hl c (by simp)
   rw [c_leT (by simp; omega), zxl a b (c :: r) ha hb]
   simp only [Option.bind_some, zr]
   cases hm : monB a b with
   | true =>
    have ef : z47 (a :: b :: c :: r) o = (namO a b c, r) := by simp [z47, hm]
    rw [ef]
    have t3 : takeS ((a :: b :: c :: r).map PV.str) (3 : Int) = some ([a, b, c].map PV.str) := by
     rw [show (3 : Int) = ((3 : Nat) : Int) from rfl, zg7 (by simp)]; rfl
    have d3 : dropS ((a :: b :: c :: r).map PV.str) (3 : Int) = some (r.map PV.str) := by
     rw [show (3 : Int) = ((3 : Nat) : Int) from rfl, z8q (by simp)]; rfl
    obtain ⟨v, hv, hw⟩ := zxk a b c ha hb hc
    rw [cond_true, zej, t3, d3]
    simp only [Option.bind_some]
    rw [z8f, hv]
    simp only [Option.bind_some]
    exact zoo bc v _ hw _ _ _ _ _ _ _ _ _ _ _
   | false =>
    have ef : z47 (a :: b :: c :: r) o = (ziq a o, b :: c :: r) := by simp [z47, hm]
    rw [ef, cond_false]
    exact one _ _ _ _ _ _ _ _ _ _
end Dv

namespace Dv
open Go
theorem product_s {a b : Int} (ha : In64 a) (hb : In64 b) : zk0 a b = some (.agg [.int .u64 ((if a < 0 then -a else a) * (if b < 0 then -b else b) / 18446744073709551616), .int .u64 ((if a < 0 then -a else a) * (if b < 0 then -b else b) % 18446744073709551616)]) := by
 rw [zpn, zz6 ha, zz6 hb]
 simp only [Option.bind_some, zo]
 unfold In64 at ha hb
 rw [mul64_s (by split <;> omega) (by split <;> omega)]
 rfl
theorem signed0 (neg : Bool) {m : Int} (h0 : 0 ≤ m) (h1 : m < 18446744073709551616) : zg2 neg 0 m = some (limV (if neg then -m else m)) := by
 have := z180 neg (m := m) h0 (by omega)
 rw [show m / 18446744073709551616 = 0 by omega, show m % 18446744073709551616 = m by omega] at this
 exact this
theorem limV2 (n : Int) : some (PV.tuple [.int .i64 (PV.toI (PV.tnth (limV n) 0)), .int .i64 (PV.toI (PV.tnth (limV n) 1))]) = some (limV n) := by
 unfold limV
 split <;> rfl
theorem z1dd (neg : Bool) {m : Int} (h0 : 0 ≤ m) (h1 : m < 18446744073709551616) : zh8 neg m = some (limV (if neg then -m else m)) := by
 rw [zzs, signed0 neg h0 h1]
 simp only [Option.bind_some]
 exact limV2 _
theorem z1gt {x y c : Int} (hx : 0 ≤ x) (hy : 0 ≤ y) (hc : 0 ≤ c) (hc1 : c ≤ 1) :
  callW EE [tiInt .u64, tiInt .u64] (.func (.func zt0) [] []) [.int .u64 x, .int .u64 y, .int .u64 c] = some (.tuple [.int .u64 ((x + y + c) % 18446744073709551616), .int .u64 ((x + y + c) / 18446744073709551616)]) := by
 rw [zte EE _ _ _ (m := zou) rfl]
 unfold zou
 have : (leB 0 x && leB 0 y && leB 0 c && leB c 1) = true := by simp [leB, hx, hy, hc, hc1]
 simp only
 rw [this]
 rfl
theorem ndiv_s {a b : Int} (ha : In64 a) (hb : 0 < b) (hb2 : b ≤ 9223372036854775807) : z1bl a b = some (limV (a / b)) := by
 have hB : In64 b := by unfold In64; omega
 rw [z1fs, z18p, c_eqF (by omega), product_s ha (by unfold In64; omega), zz6 hB]
 simp only [Option.bind_some, ag0, ag1, zo]
 rw [if_neg (show ¬ b < 0 by omega), if_neg (show ¬ (1 : Int) < 0 by omega), Int.mul_one]
 unfold In64 at ha
 have hu : 0 ≤ (if a < 0 then -a else a) ∧ (if a < 0 then -a else a) ≤ 9223372036854775808 := by split <;> omega
 generalize hm : (if a < 0 then -a else a) = m at hu
 rw [show m / 18446744073709551616 = 0 by omega, show m % 18446744073709551616 = m by omega, c_leF (by omega)]
 rw [z16q, c_eqF (by omega), zxi, c_leF (by omega), zxh, c_eqT rfl, c_eqF (by omega), c_eqF (by omega)]
 simp only [Option.bind_some, tn0, tn1, zo]
 rw [za3 hu.1, zjo hu.1]
 have hq0 : 0 ≤ m / b := Int.ediv_nonneg hu.1 (by omega)
 have hq1 : m / b ≤ m := Int.ediv_le_self _ hu.1
 rw [wu64 hq0 (by omega)]
 have hb0 : ltB b 0 = false := decide_eq_false (by omega)
 have h10 : ltB 1 0 = false := rfl
 rw [hb0, h10]
 by_cases h0 : a < 0
 ·rw [if_pos h0] at hm
  rw [show ltB a 0 = true from decide_eq_true h0]
  have tf : (true == false) = false := rfl
  simp only [tf, Bool.not_true, Bool.not_false, cond_false, cond_true]
  have hem : m = b * (m / b) + m % b := (Int.mul_ediv_add_emod m b).symm
  have hr := zfw m hb
  by_cases hz : m % b = 0
  ·rw [c_eqT hz, z1dd _ hq0 (by omega)]
   simp only [Option.bind_some, if_true]
   have : a / b = -(m / b) := by
    have : a = b * (-(m / b)) := by rw [Int.mul_neg]; omega
    rw [this, Int.mul_ediv_cancel_left _ (by omega)]
   rw [this]
   exact limV2 _
  ·rw [c_eqF hz, zxa, z1gt hq0 (by omega) (by omega) (by omega)]
   simp only [Option.bind_some, tn0, tn1, zo, Int.add_zero]
   rw [show (m / b + 1) / 18446744073709551616 = 0 by omega, show (m / b + 1) % 18446744073709551616 = m / b + 1 by omega, signed0 _ (by omega) (by omega)]
   simp only [Option.bind_some, if_true]
   have : a / b = -(m / b + 1) := by
    have h2 : a = (b - m % b) + b * (-(m / b + 1)) := by rw [Int.mul_neg, Int.mul_add]; omega
    rw [h2, Int.add_mul_ediv_left _ _ (by omega), Int.ediv_eq_zero_of_lt (by omega) (by omega)]; omega
   rw [this]
   exact limV2 _
 ·rw [if_neg h0] at hm
  subst hm
  rw [show ltB a 0 = false from decide_eq_false h0]
  have ff : (false == false) = true := rfl
  simp only [ff, Bool.not_true, Bool.not_false, cond_false, cond_true]
  rw [z1dd _ hq0 (by omega)]
  simp only [Option.bind_some, Bool.false_eq_true, if_false]
  exact limV2 _
theorem nmod_s {a b : Int} (ha : In64 a) (hb : 0 < b) (hb2 : b ≤ 9223372036854775807) : z1bk a b = some (.tuple [.int .i64 (a % b), .int .i64 0]) := by
 rw [z1fr, c_eqF (by omega), c_eqF (by omega), c_eqF (by omega), c_not, c_not]
 have h := zid (a := a) hb
 have hr := zfw a hb
 have ht := zxz a hb
 unfold In64 at ha
 have hb0 : ltB b 0 = false := decide_eq_false (by omega)
 by_cases hz : a.tmod b = 0
 ·rw [c_eqT hz, hz]
  rw [hz] at h
  simp only [Int.lt_irrefl, if_false] at h
  rw [← h]
 ·rw [c_eqF hz, hb0]
  by_cases hn : a.tmod b < 0
  ·rw [show ltB (a.tmod b) 0 = true from decide_eq_true hn]
   rw [if_pos hn] at h
   rw [h, w64 (by omega) (by omega)]; rfl
  ·rw [show ltB (a.tmod b) 0 = false from decide_eq_false hn]
   rw [if_neg hn] at h
   rw [h]; rfl
theorem nsplit_s {a : Int} (ha : In64 a) : zzr a = some (.tuple [.int .i64 (a / 86400000000), .int .i64 (a % 86400000000)]) := by
 rw [z18o, ndiv_s ha (by omega) (by omega), nmod_s ha (by omega) (by omega)]
 unfold In64 at ha
 rw [limV, if_pos (by unfold In64; omega)]
 rfl
end Dv


namespace Dv
open Go
theorem ziv (y : Int) : ∀ (k : Nat), jan1 y ≤ jan1 (y + k)
 | 0 => by simp
 | k + 1 => by
  have h1 := ziv y k
  have h2 := zsi (y + k)
  have hl : (if leapI (y + k) = true then (1 : Int) else 0) = 0 ∨ (if leapI (y + k) = true then (1 : Int) else 0) = 1 := by cases leapI (y + k) <;> simp
  have e : y + ((k + 1 : Nat) : Int) = y + k + 1 := by omega
  rw [e]; omega
theorem zk1 {y m : Int} (h1 : 1 ≤ m) : ∀ (k : Nat), m + k ≤ 13 → z48 y m ≤ z48 y (m + k)
 | 0, _ => by simp
 | k + 1, h => by
  have ih := zk1 (y := y) h1 k (by omega)
  have h2 := zeq (y := y) (m := m + k) (by omega) (by omega)
  have h3 := zis y (m + k) (by omega) (by omega)
  have e : m + ((k + 1 : Nat) : Int) = m + k + 1 := by omega
  rw [e]; omega
theorem months_13 (y : Int) : z48 y 13 = 365 + (if leapI y then 1 else 0) := rfl
def okD (y m d : Int) : Prop := 1 ≤ m ∧ m ≤ 12 ∧ 1 ≤ d ∧ d ≤ lenI y m
theorem z1ev {y m d : Int} (h : okD y m d) : jan1 y ≤ dayI y m d ∧ dayI y m d < jan1 (y + 1) := by
 obtain ⟨h1, h2, h3, h4⟩ := h
 have a := zk1 (y := y) (m := 1) (by omega) (m - 1).toNat (by omega)
 rw [show (1 : Int) + ((m - 1).toNat : Int) = m by omega] at a
 have b := zk1 (y := y) (m := m + 1) (by omega) (12 - m).toNat (by omega)
 rw [show m + 1 + ((12 - m).toNat : Int) = 13 by omega, months_13] at b
 have c := zeq (y := y) h1 h2
 have e := zsi y
 have z : z48 y 1 = 0 := rfl
 unfold dayI
 omega
theorem z1eu {y y' m m' d d' : Int} (h : okD y m d) (h' : okD y' m' d') (hy : y < y') : dayI y m d < dayI y' m' d' := by
 have a := (z1ev h).2
 have b := (z1ev h').1
 have c := ziv (y + 1) (y' - (y + 1)).toNat
 rw [show y + 1 + ((y' - (y + 1)).toNat : Int) = y' by omega] at c
 omega
theorem day_ltm {y m m' d d' : Int} (h : okD y m d) (h' : okD y m' d') (hm : m < m') : dayI y m d < dayI y m' d' := by
 obtain ⟨h1, h2, h3, h4⟩ := h
 obtain ⟨h1', h2', h3', h4'⟩ := h'
 have b := zk1 (y := y) (m := m + 1) (by omega) (m' - (m + 1)).toNat (by omega)
 rw [show m + 1 + ((m' - (m + 1)).toNat : Int) = m' by omega] at b
 have c := zeq (y := y) h1 h2
 unfold dayI
 omega
theorem day_inj {y y' m m' d d' : Int} (h : okD y m d) (h' : okD y' m' d') (e : dayI y m d = dayI y' m' d') : y = y' ∧ m = m' ∧ d = d' := by
 have hy : y = y' := by
  rcases Int.lt_trichotomy y y' with a | a | a
  ·have := z1eu h h' a; omega
  ·exact a
  ·have := z1eu h' h a; omega
 subst hy
 have hm : m = m' := by
  rcases Int.lt_trichotomy m m' with a | a | a
  ·have := day_ltm h h' a; omega
  ·exact a
  ·have := day_ltm h' h a; omega
 subst hm
 unfold dayI at e
 exact ⟨rfl, rfl, by omega⟩
theorem minI_i (a b : Int) : minI a b = min a b := by
 unfold minI
 by_cases h : b < a
 ·rw [decide_eq_true h]; simp only [cond_true]; omega
 ·rw [decide_eq_false h]; simp only [cond_false]; omega
theorem march_sum {e c f k : Int} (hc : 0 ≤ c ∧ c ≤ 3) (hf : 0 ≤ f ∧ f ≤ 24) (hk : 0 ≤ k ∧ k ≤ 3) : zpr (400 * e + 100 * c + 4 * f + k) = 146097 * e + 36524 * c + 1461 * f + 365 * k := by
 unfold zpr
 have e1 : (400 * e + 100 * c + 4 * f + k) / 400 = e := by omega
 have e2 : (400 * e + 100 * c + 4 * f + k) % 400 = 100 * c + 4 * f + k := by omega
 have e3 : (100 * c + 4 * f + k) / 4 = 25 * c + f := by omega
 have e4 : (100 * c + 4 * f + k) / 100 = c := by omega
 rw [e1, e2, e3, e4]
 omega
theorem parts_fin {Y M l3 n : Int} (hm0 : 0 ≤ M) (hm1 : M ≤ 11) (hk : 0 ≤ l3 ∧ l3 ≤ 365) (hmd : (153 * M + 2) / 5 ≤ l3) (hm2 : l3 < (153 * (M + 1) + 2) / 5) (hYb : -5000000 ≤ Y ∧ Y ≤ 5000000)
  (hy : zpr Y + l3 = n + 730425) (hleap : l3 = 365 → leapI (Y + 1) = true) :
  ∃ y m d, (bif leB 10 M then some (PV.tuple [.int .i64 (IntKind.i64.wrap (Y + 1)), .int .i64 (IntKind.i64.wrap (M - 9)), .int .i64 (l3 - (153 * M + 2) / 5 + 1)]) else some (.tuple [.int .i64 Y, .int .i64 (IntKind.i64.wrap (M + 3)), .int .i64 (l3 - (153 * M + 2) / 5 + 1)])) =
   some (.tuple [.int .i64 y, .int .i64 m, .int .i64 d]) ∧ okD y m d ∧ dayI y m d = n := by
 by_cases h10 : 10 ≤ M
 ·rw [c_leT h10, w64 (n := Y + 1) (by omega) (by omega), w64 (n := M - 9) (by omega) (by omega)]
  refine ⟨_, _, _, rfl, ⟨by omega, by omega, by omega, ?_⟩, ?_⟩
  ·have : M = 10 ∨ M = 11 := by omega
   rcases this with rfl | rfl
   ·show _ ≤ lenI (Y + 1) 1
    unfold lenI; rw [if_neg (by omega), if_neg (by omega), if_pos (by omega)]; omega
   ·show _ ≤ lenI (Y + 1) 2
    unfold lenI; rw [if_pos rfl]
    by_cases h3 : l3 = 365
    ·rw [hleap h3, if_pos rfl]; omega
    ·split <;> omega
  ·have := zzw (y := Y + 1) (m := M - 9) (d := l3 - (153 * M + 2) / 5 + 1) (by omega) (by omega)
   rw [if_pos (by omega), if_pos (by omega), show Y + 1 - 1 = Y by omega, show M - 9 + 12 - 3 = M by omega] at this
   omega
 ·rw [c_leF h10, w64 (n := M + 3) (by omega) (by omega)]
  refine ⟨_, _, _, rfl, ⟨by omega, by omega, by omega, ?_⟩, ?_⟩
  ·have : M = 0 ∨ M = 1 ∨ M = 2 ∨ M = 3 ∨ M = 4 ∨ M = 5 ∨ M = 6 ∨ M = 7 ∨ M = 8 ∨ M = 9 := by omega
   rcases this with rfl | rfl | rfl | rfl | rfl | rfl | rfl | rfl | rfl | rfl <;> (unfold lenI; rw [if_neg (by omega)]; split <;> first | omega | (rw [if_pos (by omega)]; omega))
  ·have := zzw (y := Y) (m := M + 3) (d := l3 - (153 * M + 2) / 5 + 1) (by omega) (by omega)
   rw [if_neg (by omega), if_neg (by omega), show M + 3 - 3 = M by omega] at this
   omega
theorem z1bd {n : Int} (h1 : -1000000000 ≤ n) (h2 : n ≤ 1000000000) : ∃ y m d, zqz n = some (.tuple [.int .i64 y, .int .i64 m, .int .i64 d]) ∧ okD y m d ∧ dayI y m d = n := by
 rw [z12g, w64 (by omega) (by omega), z19r (by unfold In64; omega) (by omega) (by omega) (by omega)]
 simp only [Option.bind_some, tn0, tn1, zo]
 have he : n + 730425 = 146097 * ((n + 730425) / 146097) + (n + 730425) % 146097 := by omega
 have hl0 : 0 ≤ (n + 730425) % 146097 ∧ (n + 730425) % 146097 < 146097 := by omega
 have hq : -10000 ≤ (n + 730425) / 146097 ∧ (n + 730425) / 146097 ≤ 10000 := by omega
 generalize (n + 730425) / 146097 = e at he hq
 generalize (n + 730425) % 146097 = l0 at he hl0
 have c1 : minI (IntKind.i64.wrap (Int.tdiv l0 36524)) 3 = min (l0 / 36524) 3 := by rw [minI_i, za3 hl0.1, w64 (by omega) (by omega)]
 rw [c1]
 have hc : 0 ≤ min (l0 / 36524) 3 ∧ min (l0 / 36524) 3 ≤ 3 ∧ 0 ≤ l0 - min (l0 / 36524) 3 * 36524 ∧ l0 - min (l0 / 36524) 3 * 36524 ≤ 36524 ∧ (l0 - min (l0 / 36524) 3 * 36524 = 36524 → min (l0 / 36524) 3 = 3) := by omega
 generalize min (l0 / 36524) 3 = c at hc
 have c2 : IntKind.i64.wrap (l0 - IntKind.i64.wrap (c * 36524)) = l0 - c * 36524 := by rw [w64 (n := c * 36524) (by omega) (by omega), w64 (by omega) (by omega)]
 rw [c2]
 generalize hl1 : l0 - c * 36524 = l1 at hc
 have c3 : IntKind.i64.wrap (Int.tdiv l1 1461) = l1 / 1461 := by rw [za3 (by omega), w64 (by omega) (by omega)]
 rw [c3]
 have hf : 0 ≤ l1 / 1461 ∧ l1 / 1461 ≤ 24 ∧ 0 ≤ l1 - l1 / 1461 * 1461 ∧ l1 - l1 / 1461 * 1461 ≤ 1460 := by omega
 generalize l1 / 1461 = f at hf
 have c4 : IntKind.i64.wrap (l1 - IntKind.i64.wrap (f * 1461)) = l1 - f * 1461 := by rw [w64 (n := f * 1461) (by omega) (by omega), w64 (by omega) (by omega)]
 rw [c4]
 generalize hl2 : l1 - f * 1461 = l2 at hf
 have c5 : minI (IntKind.i64.wrap (Int.tdiv l2 365)) 3 = min (l2 / 365) 3 := by rw [minI_i, za3 (by omega), w64 (by omega) (by omega)]
 rw [c5]
 have hk : 0 ≤ min (l2 / 365) 3 ∧ min (l2 / 365) 3 ≤ 3 ∧ 0 ≤ l2 - min (l2 / 365) 3 * 365 ∧ l2 - min (l2 / 365) 3 * 365 ≤ 365 ∧ (l2 - min (l2 / 365) 3 * 365 = 365 → min (l2 / 365) 3 = 3 ∧ l2 = 1460) := by omega
 generalize min (l2 / 365) 3 = k at hk
 have c6 : IntKind.i64.wrap (l2 - IntKind.i64.wrap (k * 365)) = l2 - k * 365 := by rw [w64 (n := k * 365) (by omega) (by omega), w64 (by omega) (by omega)]
 rw [c6]
 generalize hl3 : l2 - k * 365 = l3 at hk
 have c7 : IntKind.i64.wrap (Int.tdiv (IntKind.i64.wrap (IntKind.i64.wrap (5 * l3) + 2)) 153) = (5 * l3 + 2) / 153 := by
  rw [w64 (n := 5 * l3) (by omega) (by omega), w64 (n := 5 * l3 + 2) (by omega) (by omega), za3 (by omega), w64 (by omega) (by omega)]
 rw [c7]
 have hm : 0 ≤ (5 * l3 + 2) / 153 ∧ (5 * l3 + 2) / 153 ≤ 11 ∧ (153 * ((5 * l3 + 2) / 153) + 2) / 5 ≤ l3 := by omega
 have hm2 : l3 < (153 * ((5 * l3 + 2) / 153 + 1) + 2) / 5 := by omega
 generalize (5 * l3 + 2) / 153 = M at hm hm2
 have c8 : IntKind.i64.wrap (Int.tdiv (IntKind.i64.wrap (IntKind.i64.wrap (153 * M) + 2)) 5) = (153 * M + 2) / 5 := by
  rw [w64 (n := 153 * M) (by omega) (by omega), w64 (n := 153 * M + 2) (by omega) (by omega), za3 (by omega), w64 (by omega) (by omega)]
 rw [c8]
 have c9 : IntKind.i64.wrap (IntKind.i64.wrap (l3 - (153 * M + 2) / 5) + 1) = l3 - (153 * M + 2) / 5 + 1 := by
  rw [w64 (n := l3 - (153 * M + 2) / 5) (by omega) (by omega), w64 (by omega) (by omega)]
 rw [c9]
 have c10 : IntKind.i64.wrap (IntKind.i64.wrap (IntKind.i64.wrap (IntKind.i64.wrap (e * 400) + IntKind.i64.wrap (c * 100)) + IntKind.i64.wrap (f * 4)) + k) = 400 * e + 100 * c + 4 * f + k := by
  rw [w64 (n := e * 400) (by omega) (by omega), w64 (n := c * 100) (by omega) (by omega), w64 (n := f * 4) (by omega) (by omega), w64 (n := e * 400 + c * 100) (by omega) (by omega), w64 (n := e * 400 + c * 100 + f * 4) (by omega) (by omega), w64 (by omega) (by omega)]
  omega
 rw [c10]
 clear c1 c2 c3 c4 c5 c6 c7 c8 c9 c10
 have hy : zpr (400 * e + 100 * c + 4 * f + k) + l3 = n + 730425 := by
  rw [march_sum ⟨hc.1, hc.2.1⟩ ⟨hf.1, hf.2.1⟩ ⟨hk.1, hk.2.1⟩]
  clear hm hm2 hq
  omega
 have hleap : l3 = 365 → leapI (400 * e + 100 * c + 4 * f + k + 1) = true := by
  intro h
  have h3 := hk.2.2.2.2 h
  have hc3 : f = 24 → c = 3 := fun hf24 => hc.2.2.2.2 (by clear hm hm2 hq hk; omega)
  rw [zit, h3.1]
  clear hm hm2 he hk hl3 hl2 hl1
  omega
 generalize hY : 400 * e + 100 * c + 4 * f + k = Y at hy hleap
 have hYb : -5000000 ≤ Y ∧ Y ≤ 5000000 := by omega
 exact parts_fin hm.1 hm.2.1 ⟨hk.2.2.1, hk.2.2.2.1⟩ hm.2.2 hm2 hYb hy hleap
end Dv

namespace Dv
open Go
theorem z18e (y : Int) : ∀ (k : Nat) (m l : Int), 1 ≤ m → m + k = 12 → 0 ≤ l → z48 y m + l < 365 + (if leapI y then 1 else 0) →
  ∃ m' d, z6u y l m = some (.tuple [.int .i64 y, .int .i64 m', .int .i64 d, .int .i64 0]) ∧ okD y m' d ∧ z48 y m' + d - 1 = z48 y m + l
 | 0, m, l, h1, hm, h0, ht => by
  have hm12 : m = 12 := by omega
  subst hm12
  rw [zzv] at ht
  have hlen : lenI y 12 = 31 := by unfold lenI; rw [if_neg (by omega), if_neg (by omega), if_pos (by omega)]
  rw [zb1, zzf (by omega) (by omega)]
  simp only [Option.bind_some, zo]
  rw [c_leF (by omega), w64 (by omega) (by omega)]
  exact ⟨_, _, rfl, ⟨by omega, by omega, by omega, by omega⟩, by omega⟩
 | k + 1, m, l, h1, hm, h0, ht => by
  have hr := zis y m (by omega) (by omega)
  have hs := zeq (y := y) (m := m) (by omega) (by omega)
  have hb := zpp (y := y) (m := m) (by omega) (by omega)
  have hl : (if leapI y = true then (1 : Int) else 0) = 0 ∨ (if leapI y = true then (1 : Int) else 0) = 1 := by cases leapI y <;> simp
  rw [zb1, zzf (by omega) (by omega)]
  simp only [Option.bind_some, zo]
  by_cases h : lenI y m ≤ l
  ·rw [c_leT h, w64 (n := l - lenI y m) (by omega) (by omega), w64 (n := m + 1) (by omega) (by omega)]
   obtain ⟨m', d, e1, e2, e3⟩ := z18e y k (m + 1) (l - lenI y m) (by omega) (by omega) (by omega) (by omega)
   exact ⟨m', d, e1, e2, by omega⟩
  ·rw [c_leF h, w64 (by omega) (by omega)]
   exact ⟨_, _, rfl, ⟨by omega, by omega, by omega, by omega⟩, by omega⟩
theorem z1do : ∀ (k : Nat) (y l : Int), 0 ≤ l → l < k → -1000000 ≤ y → y + k ≤ 2000000 → -1000000000 ≤ jan1 y → jan1 y + l ≤ 1000000000 →
  ∃ y' m' d, z7j y l = some (.tuple [.int .i64 y', .int .i64 m', .int .i64 d, .int .i64 0]) ∧ okD y' m' d ∧ dayI y' m' d = jan1 y + l
 | 0, y, l, h0, hk, _, _, _, _ => by omega
 | k + 1, y, l, h0, hk, hy, hy2, hj, hj2 => by
  have hs := zsi y
  have fin : ∀ long : Int, long = 365 + (if leapI y then 1 else 0) → ∃ y' m' d, z7i y l long = some (.tuple [.int .i64 y', .int .i64 m', .int .i64 d, .int .i64 0]) ∧ okD y' m' d ∧ dayI y' m' d = jan1 y + l := by
   intro long hlong
   have hl : (if leapI y = true then (1 : Int) else 0) = 0 ∨ (if leapI y = true then (1 : Int) else 0) = 1 := by cases leapI y <;> simp
   rw [zjb]
   by_cases h : l < long
   ·rw [c_ltT h]
    have z : z48 y 1 = 0 := rfl
    obtain ⟨m', d, e1, e2, e3⟩ := z18e y 11 1 l (by omega) (by omega) h0 (by omega)
    exact ⟨y, m', d, e1, e2, by unfold dayI; omega⟩
   ·rw [c_ltF h, w64 (n := y + 1) (by omega) (by omega), w64 (n := l - long) (by omega) (by omega)]
    obtain ⟨y', m', d, e1, e2, e3⟩ := z1do k (y + 1) (l - long) (by omega) (by omega) (by omega) (by omega) (by omega) (by omega)
    exact ⟨y', m', d, e1, e2, by omega⟩
  rw [zjc, z15a]
  simp only [Option.bind_some, zr]
  cases hl : leapI y with
  | true => exact fin 366 (by rw [hl]; rfl)
  | false => exact fin 365 (by rw [hl]; rfl)
def canB (n : Int) : Bool := decide (-2453698 ≤ n ∧ n ≤ 106754173)
theorem z1c9 : dayI (-4718) 1 1 = -2453698 := by decide
theorem last_v : dayI 294282 12 31 = 106754173 := by decide
theorem z1ci (n : Int) : z112 n = some (.bool (canB n)) := by
 rw [z19q, z12j, z16l, z1ch (by omega) (by omega) (by omega) (by omega), z1ch (by omega) (by omega) (by omega) (by omega)]
 simp only [Option.bind_some, zo]
 rw [z1c9, last_v]
 unfold canB
 by_cases h : -2453698 ≤ n
 ·rw [c_leT h]; unfold leB; congr 2; rw [decide_eq_decide]; omega
 ·rw [c_leF h, decide_eq_false (by omega)]
theorem ref_can (n : Int) : ze6 n = some (.bool (canB n)) := by
 rw [zpa, zla, zmm, z1b8 (by omega) (by omega) (by omega) (by omega), z1b8 (by omega) (by omega) (by omega) (by omega)]
 simp only [Option.bind_some, zo]
 rw [z1c9, last_v]
 unfold canB
 by_cases h : -2453698 ≤ n
 ·rw [c_leT h]; unfold leB; congr 2; rw [decide_eq_decide]; omega
 ·rw [c_leF h, decide_eq_false (by omega)]
theorem date_s (n : Int) : ∃ y m d e, zox n = some (.tuple [.int .i64 y, .int .i64 m, .int .i64 d, .int .i64 e]) ∧
  z9i n = some (.tuple [.int .i64 y, .int .i64 m, .int .i64 d, .int .i64 e]) ∧
  (e = 0 → okD y m d ∧ dayI y m d = n ∧ -4718 ≤ y ∧ y ≤ 294282) ∧ (e ≠ 0 → e = 10 ∧ y = 0 ∧ m = 0 ∧ d = 0) := by
 rw [zkj, zmo, z1ci, ref_can]
 simp only [Option.bind_some, zr]
 cases hc : canB n with
 | false => exact ⟨_, _, _, _, rfl, rfl, (by intro h; cases h), fun _ => ⟨rfl, rfl, rfl, rfl⟩⟩
 | true =>
  unfold canB at hc
  have hn := of_decide_eq_true hc
  simp only [Bool.not_true, cond_false]
  obtain ⟨y, m, d, e1, e2, e3⟩ := z1bd (n := n) (by omega) (by omega)
  rw [e1, ref_div (by unfold In64; omega) (by omega) (by omega), zuj (by omega) (by omega)]
  simp only [Option.bind_some, tn0, tn1, tn2, zo]
  have hq : -20 ≤ n / 146097 ∧ n / 146097 ≤ 1000 := by omega
  have hr : 0 ≤ n % 146097 ∧ n % 146097 < 146097 := by omega
  rw [w64 (n := n / 146097 * 400) (by omega) (by omega), w64 (n := 2000 + n / 146097 * 400) (by omega) (by omega)]
  have hj : jan1 (2000 + n / 146097 * 400) = n / 146097 * 146097 := by
   unfold jan1
   have a1 : (2000 + n / 146097 * 400 - 2000) / 400 = n / 146097 := by omega
   have a2 : (2000 + n / 146097 * 400 - 2000) % 400 = 0 := by omega
   rw [a1, a2, show zdc 0 = 0 from rfl]; omega
  obtain ⟨y', m', d', f1, f2, f3⟩ := z1do 146097 (2000 + n / 146097 * 400) (n % 146097) hr.1 hr.2 (by omega) (by omega) (by omega) (by omega)
  have hf : dayI y' m' d' = n := by rw [f3, hj]; omega
  obtain ⟨rfl, rfl, rfl⟩ := day_inj e2 f2 (e3.trans hf.symm)
  rw [f1]
  refine ⟨y, m, d, 0, rfl, rfl, fun _ => ⟨e2, e3, ?_, ?_⟩, by intro h; exact absurd rfl h⟩
  ·rcases Int.lt_or_le y (-4718) with h | h
   ·have hx := z1eu e2 (show okD (-4718) 1 1 by unfold okD; decide) h
    rw [z1c9] at hx; omega
   ·exact h
  ·rcases Int.lt_or_le 294282 y with h | h
   ·have hx := z1eu (show okD 294282 12 31 by unfold okD; decide) e2 h
    rw [last_v] at hx; omega
   ·exact h
theorem zea (n : Int) : ∃ b, z4p n = some (.bool b) ∧ z45 n = some (.bool b) ∧ (b = true → ∃ y m d, zox n = some (.tuple [.int .i64 y, .int .i64 m, .int .i64 d, .int .i64 0]) ∧
  z9i n = some (.tuple [.int .i64 y, .int .i64 m, .int .i64 d, .int .i64 0]) ∧ okD y m d ∧ dayI y m d = n ∧ -4712 ≤ y ∧ y ≤ 294276) := by
 obtain ⟨y, m, d, e, h1, h2, h3, h4⟩ := date_s n
 rw [zk9, zke, h1, h2]
 simp only [Option.bind_some, tn0, tn3, zo]
 by_cases he : e = 0
 ·rw [c_eqT he]
  subst he
  obtain ⟨g1, g2, g3, g4⟩ := h3 rfl
  by_cases hy : -4712 ≤ y
  ·rw [c_leT hy]
   refine ⟨_, rfl, rfl, fun hb => ⟨y, m, d, rfl, rfl, g1, g2, hy, of_decide_eq_true hb⟩⟩
  ·rw [c_leF hy]; exact ⟨_, rfl, rfl, by intro h; cases h⟩
 ·rw [c_eqF he]; exact ⟨_, rfl, rfl, by intro h; cases h⟩
theorem z16h (i n : Int) : ∃ b, zt5 i n = some (.bool b) ∧ z8w i n = some (.bool b) ∧ (b = true → i = 0 → z4p n = some (.bool true)) ∧ (b = true → i = -1 ∨ i = 0 ∨ i = 1) := by
 obtain ⟨c, h1, h2, h3⟩ := zea n
 rw [zwk, z98, h1, h2]
 simp only [Option.bind_some, zr]
 unfold eqB
 by_cases a : i = 0
 ·subst a
  refine ⟨c, rfl, rfl, fun hb _ => by rw [hb], fun _ => .inr (.inl rfl)⟩
 ·by_cases b : i = -1
  ·subst b
   by_cases z : n = 0
   ·subst z; exact ⟨true, rfl, rfl, fun _ h => absurd h a, fun _ => .inl rfl⟩
   ·refine ⟨false, by simp [z], by simp [z], (by intro h; cases h), by intro h; cases h⟩
  ·by_cases b1 : i = 1
   ·subst b1
    by_cases z : n = 0
    ·subst z; exact ⟨true, rfl, rfl, fun _ h => absurd h a, fun _ => .inr (.inr rfl)⟩
    ·refine ⟨false, by simp [z], by simp [z], (by intro h; cases h), by intro h; cases h⟩
   ·exact ⟨false, by simp [a, b, b1], by simp [a, b, b1], (by intro h; cases h), by intro h; cases h⟩
end Dv

namespace Dv
open Go
theorem zra : ∀ (r cur : List UInt8) (n : Nat), cur.length + r.length ≤ n → ∀ p ∈ z5q cur r, p.length ≤ n
 | [], cur, n, h, p, hp => by
  unfold z5q at hp
  split at hp
  ·cases hp
  ·simp at hp; subst hp; simpa using h
 | c :: r, cur, n, h, p, hp => by
  simp only [List.length_cons] at h
  cases hb : blB c with
  | true =>
   rw [zg5 hb] at hp
   split at hp
   ·exact zra r [] n (by simp; omega) p hp
   ·rcases List.mem_cons.1 hp with rfl | hp
    ·omega
    ·exact zra r [] n (by simp; omega) p hp
  | false =>
   rw [zrb hb] at hp
   exact zra r (cur ++ [c]) n (by simp; omega) p hp
theorem zn1 {s : List UInt8} (hs : Sm s) : ∀ p ∈ z2z s, Sm p := fun p hp => zra s [] 10000000000 (by simpa using hs) p hp
theorem zfy : ∀ (r cur : List UInt8), (z5q cur r).length ≤ r.length + 1
 | [], cur => by unfold z5q; split <;> simp
 | c :: r, cur => by
  cases hb : blB c with
  | true =>
   rw [zg5 hb]
   have := zfy r []
   split <;> simp <;> omega
  | false =>
   rw [zrb hb]
   have := zfy r (cur ++ [c])
   simp; omega
theorem words_len {s : List UInt8} (hs : s.length ≤ 1000000) : (z2z s).length ≤ 10000000000 := by
 have := zfy s []
 unfold z2z; omega
def infB : List UInt8 := [105, 110, 102, 105, 110, 105, 116, 121]
def ninfB : List UInt8 := [45, 105, 110, 102, 105, 110, 105, 116, 121]
def epB : List UInt8 := [101, 112, 111, 99, 104]
def spcI : List (List UInt8) → Int
 | [a] => bif eqS (lowS a) infB then 1 else bif eqS (lowS a) ninfB then -1 else bif eqS (lowS a) epB then 2 else 0
 | _ => 0
theorem spc1 (a : List UInt8) : spcI [a] = bif eqS (lowS a) infB then 1 else bif eqS (lowS a) ninfB then -1 else bif eqS (lowS a) epB then 2 else 0 := rfl
def spcV (k : Int) : PV := .tuple [.agg [.int .i64 (bif eqB k 2 then 0 else k), .int .i64 (bif eqB k 2 then -10957 else 0)], .bool (!eqB k 0)]
theorem low_inf : lowS infB = infB := by decide
theorem low_ninf : lowS ninfB = ninfB := by decide
theorem low_ep : lowS epB = epB := by decide
theorem notone {l : List (List UInt8)} (h : l.length ≠ 1) : spcI l = 0 := by
 match l, h with
 | [], _ => rfl
 | [a], h => simp at h
 | _ :: _ :: _, _ => rfl
theorem zn0 (l : List (List UInt8)) (hl : ∀ p ∈ l, Sm p) : zh5 (l.map PV.str) = some (spcV (spcI l)) := by
 rw [zzj]
 by_cases h : l.length = 1
 ·obtain ⟨a, rfl⟩ : ∃ a, l = [a] := by
   match l, h with
   | [a], _ => exact ⟨a, rfl⟩
  have ha := hl a (by simp)
  rw [c_not, c_eqT (by simp), rd0]
  simp only [Option.bind_some, z2j]
  rw [zyp a ha.small]
  simp only [Option.bind_some, z2j]
  rw [spc1]
  unfold spcV
  change (bif eqS (lowS a) infB then _ else bif eqS (lowS a) ninfB then _ else bif eqS (lowS a) epB then _ else _) = _
  cases h1 : eqS (lowS a) infB with
  | true => rfl
  | false =>
   rw [cond_false]
   cases h2 : eqS (lowS a) ninfB with
   | true => rfl
   | false =>
    rw [cond_false]
    cases h3 : eqS (lowS a) epB with
    | true => rfl
    | false => rfl
 ·rw [c_not, c_eqF (by simp; omega), notone h]
  rfl
theorem zug (l : List (List UInt8)) (hl : ∀ p ∈ l, Sm p) : z7c (l.map PV.str) = some (.int .i64 (spcI l)) := by
 rw [ziz]
 by_cases h : l.length = 1
 ·obtain ⟨a, rfl⟩ : ∃ a, l = [a] := by
   match l, h with
   | [a], _ => exact ⟨a, rfl⟩
  have ha := hl a (by simp)
  have si : Small infB := by unfold Small infB; simp
  have sn : Small ninfB := by unfold Small ninfB; simp
  have se : Small epB := by unfold Small epB; simp
  rw [c_not, c_eqT (by simp), rd0]
  simp only [Option.bind_some, z2j]
  change ((z1n a infB).bind fun v8 => (bif (PV.toB v8) then _ else ((z1n a ninfB).bind fun v10 => (bif (PV.toB v10) then _ else ((z1n a epB).bind fun v12 => (bif (PV.toB v12) then _ else _)))))) = _
  rw [zqd a infB ha.small si, zqd a ninfB ha.small sn, zqd a epB ha.small se]
  simp only [Option.bind_some, zr]
  rw [spc1]
  unfold sameB
  rw [low_inf, low_ninf, low_ep]
  cases eqS (lowS a) infB <;> cases eqS (lowS a) ninfB <;> cases eqS (lowS a) epB <;> rfl
 ·rw [c_not, c_eqF (by simp; omega), notone h]
def eraO (l : List (List UInt8)) : List (List UInt8) × Bool :=
 if l.length ≤ 1 then (l, false) else match l.getLast? with
  | some x => if eqS (lowS x) [98, 99] then (l.dropLast, true) else if eqS (lowS x) [97, 100] then (l.dropLast, false) else (l, false)
  | none => (l, false)
theorem z1ei {l : List (List UInt8)} (h : 1 < l.length) : ∃ x, l.getLast? = some x ∧ rdI tiStr (l.map PV.str) ((l.length : Int) - 1) = some (.str x) ∧ takeS (l.map PV.str) ((l.length : Int) - 1) = some (l.dropLast.map PV.str) ∧ x ∈ l := by
 have hne : l ≠ [] := by rintro rfl; simp at h
 refine ⟨l.getLast hne, List.getLast?_eq_some_getLast hne, ?_, ?_, List.getLast_mem hne⟩
 ·rw [show ((l.length : Int) - 1) = ((l.length - 1 : Nat) : Int) by omega, rdI_n]
  exact z15k (by rw [← List.getLast?_eq_getElem?, List.getLast?_eq_some_getLast hne])
 ·rw [show ((l.length : Int) - 1) = ((l.length - 1 : Nat) : Int) by omega, zg7 (by simp), ← List.map_take, List.dropLast_eq_take]
theorem wera_s (l : List (List UInt8)) (hl : ∀ p ∈ l, Sm p) (hn : l.length ≤ 10000000000) (K : Bool → List PV → Option PV) :
  (bif (Dv.ltB (Go.IntKind.wrap Go.IntKind.i64 ((((List.length (l.map PV.str)) : Nat) : Int) - (1 : Int))) (1 : Int)) then (K Bool.false (l.map PV.str)) else ((Dv.rdI Dv.tiStr (l.map PV.str) (Go.IntKind.wrap Go.IntKind.i64 ((((List.length (l.map PV.str)) : Nat) : Int) - (1 : Int)))).bind fun v4 => ((za1 (Dv.PV.toS v4)).bind fun v5 => (bif (Dv.eqS (Dv.PV.toS v5) [(98 : UInt8), (99 : UInt8)]) then ((Dv.takeS (l.map PV.str) (Go.IntKind.wrap Go.IntKind.i64 ((((List.length (l.map PV.str)) : Nat) : Int) - (1 : Int)))).bind fun v6 => (K (Dv.eqS (Dv.PV.toS v5) [(98 : UInt8), (99 : UInt8)]) v6)) else (bif (Dv.eqS (Dv.PV.toS v5) [(97 : UInt8), (100 : UInt8)]) then ((Dv.takeS (l.map PV.str) (Go.IntKind.wrap Go.IntKind.i64 ((((List.length (l.map PV.str)) : Nat) : Int) - (1 : Int)))).bind fun v7 => (K (Dv.eqS (Dv.PV.toS v5) [(98 : UInt8), (99 : UInt8)]) v7)) else (K (Dv.eqS (Dv.PV.toS v5) [(98 : UInt8), (99 : UInt8)]) (l.map PV.str))))))) =
   K (eraO l).2 ((eraO l).1.map PV.str) := by
 rw [List.length_map, w64 (by omega) (by omega)]
 unfold eraO
 by_cases h : 1 < l.length
 ·obtain ⟨x, h1, h2, h3, h4⟩ := z1ei h
  rw [c_ltF (by omega), if_neg (by omega), h1, h2, h3]
  simp only [Option.bind_some, z2j]
  rw [zyp x (hl x h4).small]
  simp only [Option.bind_some, z2j]
  cases hb : eqS (lowS x) [98, 99] with
  | true => rfl
  | false =>
   rw [cond_false]
   cases hd : eqS (lowS x) [97, 100] with
   | true => rfl
   | false => rfl
 ·rw [c_ltT (by omega), if_pos (by omega)]
theorem z1dk (l : List (List UInt8)) (hl : ∀ p ∈ l, Sm p) (hn : l.length ≤ 10000000000) : zaa (l.map PV.str) = some (.tuple [.sl 1 ((eraO l).1.map PV.str), .bool (eraO l).2]) := by
 have sb : Small [66, 67] := by unfold Small; simp
 have sa : Small [65, 68] := by unfold Small; simp
 have lb : lowS [66, 67] = [98, 99] := by decide
 have la : lowS [65, 68] = [97, 100] := by decide
 rw [zp4, List.length_map, w64 (by omega) (by omega)]
 unfold eraO
 by_cases h : 1 < l.length
 ·obtain ⟨x, h1, h2, h3, h4⟩ := z1ei h
  rw [c_ltT (by omega), if_neg (by omega), h1, h2]
  simp only [Option.bind_some, z2j]
  have hx := (hl x h4).small
  have c4 : z7y (l.map PV.str) x = some (.tuple [.sl 1 (l.dropLast.map PV.str), .bool (sameB x [66, 67])]) := by
   rw [zkb, List.length_map, w64 (by omega) (by omega), h3]
   simp only [Option.bind_some]
   rw [zqd x _ hx sb]; rfl
  rw [zqd x _ hx sb, zqd x _ hx sa, c4]
  simp only [Option.bind_some, zr]
  unfold sameB
  rw [lb, la]
  cases hb : eqS (lowS x) [98, 99] with
  | true => rfl
  | false =>
   rw [cond_false]
   cases hd : eqS (lowS x) [97, 100] with
   | true => rfl
   | false => rfl
 ·rw [c_ltF (by omega), if_pos (by omega)]
theorem z16g {l : List (List UInt8)} : ∀ p ∈ (eraO l).1, p ∈ l := by
 intro p hp
 unfold eraO at hp
 split at hp
 ·exact hp
 ·split at hp
  ·split at hp
   ·exact (List.dropLast_sublist _).subset hp
   ·split at hp
    ·exact (List.dropLast_sublist _).subset hp
    ·exact hp
  ·exact hp
theorem make_s (y m d : Int) : ∃ n e, zt6 y m d = some (.tuple [.agg [.int .i64 0, .int .i64 n], .int .i64 e]) ∧ z42 y m d = some (.tuple [.agg [.int .i64 0, .int .i64 n], .int .i64 e]) ∧
  ((e = 0 ∧ z4p n = some (.bool true)) ∨ (e = 10 ∧ n = 0)) := by
 rw [z10y, zf4, z1ex, z1dl]
 simp only [Option.bind_some]
 unfold daysV
 cases rightI y m d with
 | false =>
  rw [cond_false]
  simp only [tn0, tn1, zo]
  rw [zfx, c_not, c_eqF (by omega), c_not, c_eqF (by omega)]
  exact ⟨0, 10, rfl, rfl, .inr ⟨rfl, rfl⟩⟩
 | true =>
  rw [cond_true]
  simp only [tn0, tn1, zo]
  obtain ⟨b, h1, h2, _⟩ := zea (dayI y m d)
  rw [zfx, c_not, c_eqT rfl, c_not, c_eqT rfl, h1, h2]
  simp only [Option.bind_some, zr]
  cases b with
  | false => exact ⟨0, 10, rfl, rfl, .inr ⟨rfl, rfl⟩⟩
  | true => exact ⟨dayI y m d, 0, rfl, rfl, .inl ⟨rfl, h1⟩⟩
end Dv

namespace Dv
open Go
def dgt (c : UInt8) : Int := (c.toNat : Int) - 48
def runD : List UInt8 → List UInt8 × List UInt8
 | [] => ([], [])
 | c :: r => if digB c then (c :: (runD r).1, (runD r).2) else ([], c :: r)
def valD (n : Int) : List UInt8 → Int
 | [] => n
 | c :: r => valD (10 * n + dgt c) r
theorem zy1 : ∀ s, (runD s).1 ++ (runD s).2 = s
 | [] => rfl
 | c :: r => by
  unfold runD
  split
  ·simp [zy1 r]
  ·rfl
theorem zh3 : ∀ s, ∀ c ∈ (runD s).1, digB c = true
 | [], c, h => by cases h
 | d :: r, c, h => by
  unfold runD at h
  split at h
  ·rename_i hd
   rcases List.mem_cons.1 h with rfl | h
   ·exact hd
   ·exact zh3 r c h
  ·cases h
theorem z10u {c : UInt8} (h : digB c = true) : 0 ≤ dgt c ∧ dgt c ≤ 9 := by
 have := (z6l c).1 h
 unfold dgt; omega
theorem dgt_u8 {c : UInt8} (h : digB c = true) : IntKind.i64.wrap (IntKind.u8.wrap ((c.toNat : Int) - 48)) = dgt c := z13x h
theorem dgt_i32 {c : UInt8} (h : digB c = true) : IntKind.i64.wrap (IntKind.i32.wrap ((c.toNat : Int) - 48)) = dgt c := z19k h
theorem z14g : ∀ (ds : List UInt8) (n : Int) (k : Nat), 0 ≤ n → n < 10 ^ k → (∀ c ∈ ds, digB c = true) → 0 ≤ valD n ds ∧ valD n ds < 10 ^ (k + ds.length)
 | [], n, k, h0, h1, _ => ⟨h0, by simpa [valD] using h1⟩
 | c :: r, n, k, h0, h1, hd => by
  have hc := z10u (hd c (by simp))
  have := z14g r (10 * n + dgt c) (k + 1) (by omega) (by rw [Int.pow_succ]; omega) (fun x hx => hd x (by simp [hx]))
  simp only [valD, List.length_cons]
  rw [show k + (r.length + 1) = k + 1 + r.length by omega]
  exact this
def scanK (most : Nat) (s : List UInt8) : List UInt8 × List UInt8 := ((runD s).1.take most, (runD s).1.drop most ++ (runD s).2)
section
variable (num3 num4 : Int → Int → Int → Int → List UInt8 → Bool → Option PV) (num6 : Int → Int → Int → List UInt8 → Bool → Option PV) (next : Int → List UInt8 → Bool → Option PV)
 (h3 : ∀ x0 x1 x2 x3 x4 x5, num3 x0 x1 x2 x3 x4 x5 = (bif (ltB x3 x1) then (bif (ltB x3 (((List.length x4) : Nat) : Int)) then ((atS x4 x3).bind fun v1 => (bif (leB (48 : Int) v1) then ((atS x4 x3).bind fun v2 => (bif (leB v2 (57 : Int)) then (num4 x0 x1 x2 x3 x4 x5) else (num6 x0 x2 x3 x4 x5))) else (num6 x0 x2 x3 x4 x5))) else (num6 x0 x2 x3 x4 x5)) else (num6 x0 x2 x3 x4 x5)))
 (h4 : ∀ x0 x1 x2 x3 x4 x5, num4 x0 x1 x2 x3 x4 x5 = ((atS x4 x3).bind fun v3 => (num3 x0 x1 (IntKind.wrap IntKind.i64 ((IntKind.wrap IntKind.i64 ((10 : Int) * x2)) + (IntKind.wrap IntKind.i64 (IntKind.wrap IntKind.u8 (v3 - (48 : Int)))))) (IntKind.wrap IntKind.i64 (x3 + (1 : Int))) x4 x5)))
 (h6 : ∀ x0 x1 x2 x3 x4, num6 x0 x1 x2 x3 x4 = (bif (ltB x2 x0) then ((dropS x3 x2).bind fun v4 => (next x1 v4 Bool.true)) else ((dropS x3 x2).bind fun v5 => (next x1 v5 x4))))
include h3 h4 h6
theorem scan_loop (s : List UInt8) (hs : Sm s) (least : Int) (most : Nat) (hm : most ≤ 6) (bad : Bool) : ∀ (j k : Nat) (n : Int), k + j = most → k ≤ s.length → 0 ≤ n → n < 10 ^ k →
  num3 least (most : Int) n (k : Int) s bad = next (valD n ((runD (s.drop k)).1.take j)) (s.drop (k + ((runD (s.drop k)).1.take j).length)) (bif ltB ((k + ((runD (s.drop k)).1.take j).length : Nat) : Int) least then true else bad) := by
 have hsl : s.length ≤ 10000000000 := hs
 have fin : ∀ (k : Nat) (n : Int), k ≤ s.length → num6 least n (k : Int) s bad = next n (s.drop k) (bif ltB (k : Int) least then true else bad) := by
  intro k n hk
  rw [h6, z8q hk]
  simp only [Option.bind_some]
  cases ltB (k : Int) least <;> rfl
 intro j
 induction j with
 | zero =>
  intro k n hk hkl h0 h1
  rw [h3, c_ltF (by omega), fin k n hkl]
  simp [valD]
 | succ j ih =>
  intro k n hk hkl h0 h1
  have hb : (10 : Int) ^ k ≤ 10 ^ 6 := by
   have : k ≤ 5 := by omega
   match k, this with
   | 0, _ => decide
   | 1, _ => decide
   | 2, _ => decide
   | 3, _ => decide
   | 4, _ => decide
   | 5, _ => decide
  have hb' : n < 1000000 := Int.lt_of_lt_of_le h1 hb
  rw [h3, c_ltT (by omega)]
  rcases Nat.lt_or_ge k s.length with hlt | hge
  ·obtain ⟨c, r, hr⟩ : ∃ c r, s.drop k = c :: r := ⟨_, _, List.drop_eq_getElem_cons hlt⟩
   obtain ⟨_, hg, hr2⟩ := z3m hr
   rw [c_ltT (by omega), zgl hg]
   simp only [Option.bind_some]
   cases hd : digB c with
   | true =>
    have hc := (z6l c).1 hd
    have hdr := z10u hd
    rw [c_leT (by omega), c_leT (by omega), h4, zgl hg]
    simp only [Option.bind_some]
    rw [dgt_u8 hd, w64 (n := 10 * n) (by omega) (by omega), w64 (n := 10 * n + dgt c) (by omega) (by omega), w64 (n := (k : Int) + 1) (by omega) (by omega), show ((k : Int) + 1) = ((k + 1 : Nat) : Int) by omega,
     ih (k + 1) _ (by omega) hlt (by omega) (by rw [Int.pow_succ]; omega)]
    have e : (runD (s.drop k)).1.take (j + 1) = c :: (runD (s.drop (k + 1))).1.take j := by
     rw [hr, hr2]
     simp only [runD, hd, if_true, List.take_succ_cons]
    rw [e]
    simp only [valD, List.length_cons]
    rw [show k + (((runD (s.drop (k + 1))).1.take j).length + 1) = k + 1 + ((runD (s.drop (k + 1))).1.take j).length by omega]
   | false =>
    have e : (runD (s.drop k)).1 = [] := by rw [hr]; simp [runD, hd]
    rw [e]
    simp only [List.take_nil, List.length_nil, Nat.add_zero, valD]
    rw [← fin k n hkl]
    have hc : ¬ (48 ≤ c.toNat ∧ c.toNat ≤ 57) := by rw [← z6l, hd]; simp
    by_cases h1 : 48 ≤ c.toNat
    ·rw [c_leT (by omega), c_leF (by omega)]
    ·rw [c_leF (by omega)]
  ·have e : s.drop k = [] := List.drop_of_length_le hge
   rw [c_ltF (by omega), e]
   simp only [runD, List.take_nil, List.length_nil, Nat.add_zero, valD]
   exact fin k n hkl
theorem z1dc (s : List UInt8) (hs : Sm s) (least : Int) (most : Nat) (hm : most ≤ 6) (bad : Bool) :
  num3 least (most : Int) 0 0 s bad = next (valD 0 ((runD s).1.take most)) (s.drop ((runD s).1.take most).length) (bif ltB ((((runD s).1.take most).length : Nat) : Int) least then true else bad) := by
 have := scan_loop num3 num4 num6 next h3 h4 h6 s hs least most hm bad most 0 0 (by omega) (Nat.zero_le _) (Int.le_refl _) (by decide)
 simpa using this
end
end Dv

namespace Dv
open Go
def aft (c : UInt8) : List UInt8 → Option (List UInt8)
 | [] => none
 | x :: r => if x = c then some r else none
def fracO (h m x : Int) (s : List UInt8) : Option (Int × Int × Int × Int) :=
 if 1 ≤ (runD s).1.length ∧ (runD s).1.length ≤ 6 ∧ (runD s).2 = [] then some (h, m, x, valD 0 (runD s).1 * 10 ^ (6 - (runD s).1.length)) else none
def secO (h m : Int) (s : List UInt8) : Option (Int × Int × Int × Int) :=
 if (runD s).1.length = 2 then (if (runD s).2 = [] then some (h, m, valD 0 (runD s).1, 0) else (aft 46 (runD s).2).bind (fracO h m (valD 0 (runD s).1))) else none
def minO (h : Int) (s : List UInt8) : Option (Int × Int × Int × Int) :=
 if (runD s).1.length = 2 then (if (runD s).2 = [] then some (h, valD 0 (runD s).1, 0, 0) else (aft 58 (runD s).2).bind (secO h (valD 0 (runD s).1))) else none
def timeO (s : List UInt8) : Option (Int × Int × Int × Int) :=
 if (runD s).1.length = 1 ∨ (runD s).1.length = 2 then (aft 58 (runD s).2).bind (minO (valD 0 (runD s).1)) else none
def litV : PV := .tuple [.int .i64 0, .int .i64 13]
noncomputable def mkR (h m x u : Int) : Option PV := (z9h h m x u).bind fun v => some (.tuple [.int .i64 (v.tnth 0).toI, .int .i64 (v.tnth 1).toI])
noncomputable def ansR : Option (Int × Int × Int × Int) → Option PV
 | some (h, m, x, u) => mkR h m x u
 | none => some litV
theorem r17 (h m x u : Int) (rest : List UInt8) (bad : Bool) : z2n h m x u rest bad = if bad = true ∨ rest ≠ [] then some litV else mkR h m x u := by
 rw [zi8]
 cases bad with
 | true => rw [if_pos (.inl rfl)]; rfl
 | false =>
  rw [cond_false]
  by_cases hr : rest = []
  ·rw [c_ltF (by simp [hr]), if_neg (by simp [hr])]; rfl
  ·have : 0 < rest.length := List.length_pos_iff.2 hr
   rw [c_ltT (by omega), if_pos (.inr hr)]; rfl
theorem aft_nil (c : UInt8) : aft c [] = none := rfl
theorem ztk (c x : UInt8) (r : List UInt8) : aft c (x :: r) = if x = c then some r else none := rfl
theorem zkk {a b : UInt8} (h : a ≠ b) : ¬ (a.toNat : Int) = (b.toNat : Int) := fun e => h (UInt8.toNat_inj.1 (by omega))
theorem sign_s {R : Type} (c : UInt8) (rest : List UInt8) (no : R) (yes : List UInt8 → Option R) (nov : Option R) (hno : nov = some no ∨ True) :
  (bif (eqB (((List.length rest) : Nat) : Int) (0 : Int)) then nov else ((atS rest (0 : Int)).bind fun v6 => (bif (!(eqB v6 (c.toNat : Int))) then nov else ((dropS rest (1 : Int)).bind fun v7 => yes v7)))) = match aft c rest with | some t => yes t | none => nov := by
 cases rest with
 | nil => rfl
 | cons x r =>
  have e1 : atS (x :: r) 0 = some (x.toNat : Int) := atS_z rfl
  have e2 : dropS (x :: r) (1 : Int) = some r := by rw [show (1 : Int) = ((1 : Nat) : Int) from rfl, z8q (by simp)]; rfl
  rw [c_eqF (by simp; omega), e1, e2]
  simp only [Option.bind_some]
  rw [ztk]
  by_cases hx : x = c
  ·subst hx
   rw [c_not, c_eqT rfl, if_pos rfl]
  ·rw [c_not, c_eqF (zkk hx), if_neg hx]
theorem r11 (h m x : Int) (s : List UInt8) (hs : Sm s) (bad : Bool) : z4j h m x s bad =
  z2n h m x (valD 0 ((runD s).1.take 6) * 10 ^ (6 - ((runD s).1.take 6).length)) (s.drop ((runD s).1.take 6).length) (bif ltB ((((runD s).1.take 6).length : Nat) : Int) 1 then true else bad) := by
 have hsl : s.length ≤ 10000000000 := hs
 have hl : ((runD s).1.take 6).length ≤ 6 := by simp; omega
 have hls : ((runD s).1.take 6).length ≤ s.length := by
  have := congrArg List.length (zy1 s)
  simp at this ⊢; omega
 have hv := z14g ((runD s).1.take 6) 0 0 (Int.le_refl _) (by decide) (fun c hc => zh3 s c (List.mem_of_mem_take hc))
 rw [Nat.zero_add] at hv
 rw [zia]
 have := z1dc (fun x0 x1 x2 x3 x4 x5 => z15 x0 x1 x2 x3 x4 x5 h m x ((s.length : Nat) : Int)) (fun x0 x1 x2 x3 x4 x5 => z1q x0 x1 x2 x3 x4 x5 h m x ((s.length : Nat) : Int))
  (fun x0 x1 x2 x3 x4 => zl x0 x1 x2 x3 x4 h m x ((s.length : Nat) : Int)) (fun n rest b => z6s h m x n ((s.length : Nat) : Int) rest b)
  (fun x0 x1 x2 x3 x4 x5 => z60 x0 x1 x2 x3 x4 x5 h m x _) (fun x0 x1 x2 x3 x4 x5 => z5x x0 x1 x2 x3 x4 x5 h m x _)
  (fun x0 x1 x2 x3 x4 => z5u x0 x1 x2 x3 x4 h m x _) s hs 1 6 (by omega) bad
 rw [show ((6 : Int)) = ((6 : Nat) : Int) from rfl, this, zi9]
 generalize ht : (runD s).1.take 6 = t at hl hls hv ⊢
 generalize hb : (bif ltB ((t.length : Nat) : Int) 1 then true else bad) = b
 have e : IntKind.i64.wrap (((s.length : Nat) : Int) - (((s.drop t.length).length : Nat) : Int)) = ((t.length : Nat) : Int) := by
  rw [w64 (by simp; omega) (by simp; omega)]; simp; omega
 rw [e]
 have loop : ∀ (j k : Nat) (u : Int), k + j = 6 → 0 ≤ u → u < 10 ^ k → z6r h m x u (k : Int) (s.drop t.length) b = z2n h m x (u * 10 ^ j) (s.drop t.length) b := by
  intro j
  induction j with
  | zero =>
   intro k u hk h0 h1
   rw [zaz, c_ltF (by omega)]; simp
  | succ j ih =>
   intro k u hk h0 h1
   have hb : (10 : Int) ^ k ≤ 10 ^ 6 := by
    have : k ≤ 5 := by omega
    match k, this with
    | 0, _ => decide
    | 1, _ => decide
    | 2, _ => decide
    | 3, _ => decide
    | 4, _ => decide
    | 5, _ => decide
   have hb' : u < 1000000 := Int.lt_of_lt_of_le h1 hb
   rw [zaz, c_ltT (by omega), w64 (by omega) (by omega), w64 (by omega) (by omega), show ((k : Int) + 1) = ((k + 1 : Nat) : Int) by omega,
    ih (k + 1) _ (by omega) (by omega) (by rw [Int.pow_succ]; omega)]
   congr 1
   rw [Int.pow_succ, Int.mul_assoc, Int.mul_comm (10 ^ j) 10]
 exact loop (6 - t.length) t.length _ (by omega) hv.1 hv.2
theorem zlo {s : List UInt8} {k : Nat} : s.drop ((runD s).1.take k).length = (runD s).1.drop k ++ (runD s).2 := by
 have e : s = (runD s).1.take k ++ ((runD s).1.drop k ++ (runD s).2) := by rw [← List.append_assoc, List.take_append_drop, zy1]
 conv => lhs; arg 2; rw [e]
 rw [List.drop_left]
theorem sm_run {s : List UInt8} (hs : Sm s) : Sm (runD s).2 := by
 have := congrArg List.length (zy1 s)
 have h : s.length ≤ 10000000000 := hs
 simp at this
 show (runD s).2.length ≤ _; omega
theorem zvk {c : UInt8} {s t : List UInt8} (hs : Sm s) (h : aft c s = some t) : Sm t := by
 cases s with
 | nil => cases h
 | cons x r =>
  rw [ztk] at h
  split at h
  ·simp only [Option.some.injEq] at h
   subst h
   have : (x :: r).length ≤ 10000000000 := hs
   show r.length ≤ _; simp at this; omega
  ·cases h
theorem r11_s (h m x : Int) (s : List UInt8) (hs : Sm s) (bad : Bool) : z4j h m x s bad = if bad = true then some litV else ansR (fracO h m x s) := by
 rw [r11 h m x s hs, r17, zlo]
 unfold fracO
 by_cases hb : bad = true
 ·rw [if_pos hb, if_pos]
  left; rw [hb]; cases ltB _ _ <;> rfl
 rw [if_neg hb]
 by_cases h1 : 1 ≤ (runD s).1.length
 ·have e1 : ltB ((((runD s).1.take 6).length : Nat) : Int) 1 = false := by unfold ltB; rw [decide_eq_false]; simp; omega
  rw [e1, cond_false]
  by_cases h2 : (runD s).1.length ≤ 6
  ·have e2 : (runD s).1.drop 6 = [] := List.drop_of_length_le h2
   have e3 : (runD s).1.take 6 = (runD s).1 := List.take_of_length_le h2
   rw [e2, e3, List.nil_append]
   by_cases h3 : (runD s).2 = []
   ·rw [if_neg (by simp [hb, h3]), if_pos ⟨h1, h2, h3⟩]; rfl
   ·rw [if_pos (.inr h3), if_neg (by simp [h3])]; rfl
  ·have : (runD s).1.drop 6 ++ (runD s).2 ≠ [] := by
    intro h; have := congrArg List.length h; simp at this; omega
   rw [if_pos (.inr this), if_neg (by omega)]; rfl
 ·have e1 : ltB ((((runD s).1.take 6).length : Nat) : Int) 1 = true := by unfold ltB; rw [decide_eq_true]; simp; omega
  rw [e1, cond_true, if_pos (.inl rfl), if_neg (by omega)]; rfl
theorem z11b {c : UInt8} (hc : digB c = false) {d r : List UInt8} (hd : ∀ x ∈ d, digB x = true) (hne : d ≠ []) : aft c (d ++ r) = none := by
 cases d with
 | nil => exact absurd rfl hne
 | cons x d =>
  show (if x = c then _ else _) = _
  rw [if_neg]
  rintro rfl
  have := hd x (by simp)
  rw [hc] at this; cases this
theorem r9_s (h m u0 : Int) (s : List UInt8) (hs : Sm s) (bad : Bool) (hu : u0 = 0) : z7e h m u0 s bad = if bad = true then some litV else ansR (secO h m s) := by
 subst hu
 rw [zj5]
 have := z1dc (fun x0 x1 x2 x3 x4 x5 => z16 x0 x1 x2 x3 x4 x5 h m 0) (fun x0 x1 x2 x3 x4 x5 => z1r x0 x1 x2 x3 x4 x5 h m 0)
  (fun x0 x1 x2 x3 x4 => zm x0 x1 x2 x3 x4 h m 0) (fun n rest b => z6t h m n 0 rest b)
  (fun x0 x1 x2 x3 x4 x5 => z61 x0 x1 x2 x3 x4 x5 h m 0) (fun x0 x1 x2 x3 x4 x5 => z5y x0 x1 x2 x3 x4 x5 h m 0)
  (fun x0 x1 x2 x3 x4 => z5v x0 x1 x2 x3 x4 h m 0) s hs ((2 : Nat) : Int) 2 (by omega) bad
 rw [show ((2 : Int)) = ((2 : Nat) : Int) from rfl, this, zlo]
 have st := fun (n : Int) (rest : List UInt8) (b : Bool) => (zib h m n 0 rest b).trans (sign_s (R := PV) 46 rest litV (fun t => z4j h m n t b) (z12 rest b h m n 0) (.inr trivial))
 rw [st, z5o, r17]
 have hsr := sm_run hs
 unfold secO
 by_cases hb : bad = true
 ·subst hb
  have e : (bif ltB ((((runD s).1.take 2).length : Nat) : Int) ((2 : Nat) : Int) then true else true) = true := by cases ltB _ _ <;> rfl
  rw [if_pos rfl, e]
  split
  ·rename_i t ht
   rw [r11_s h m _ t ?_ true, if_pos rfl]
   cases hd : (runD s).1.drop 2 with
   | nil => rw [hd, List.nil_append] at ht; exact zvk hsr ht
   | cons x d =>
    rw [hd, z11b (by decide) (fun y hy => zh3 s y (List.mem_of_mem_drop (hd ▸ hy))) (by simp)] at ht
    cases ht
  ·rw [if_pos (.inl rfl)]
 rw [if_neg hb]
 by_cases h2 : (runD s).1.length = 2
 ·have e1 : ltB ((((runD s).1.take 2).length : Nat) : Int) ((2 : Nat) : Int) = false := by unfold ltB; rw [decide_eq_false]; simp; omega
  have e2 : (runD s).1.drop 2 = [] := List.drop_of_length_le (by omega)
  have e3 : (runD s).1.take 2 = (runD s).1 := List.take_of_length_le (by omega)
  rw [e1, e2, e3, List.nil_append, cond_false, if_pos h2]
  by_cases h3 : (runD s).2 = []
  ·rw [h3, aft_nil, if_neg (by simp [hb]), if_pos rfl]; rfl
  ·rw [if_neg h3]
   cases ha : aft 46 (runD s).2 with
   | some t =>
    simp only [Option.bind_some]
    rw [r11_s h m _ t (zvk hsr ha), if_neg hb]
   | none => simp only [Option.bind_none]; rw [if_pos (.inr h3)]; rfl
 ·rw [if_neg h2]
  rcases Nat.lt_or_ge (runD s).1.length 2 with hlt | hge
  ·have e1 : ltB ((((runD s).1.take 2).length : Nat) : Int) ((2 : Nat) : Int) = true := by unfold ltB; rw [decide_eq_true]; simp; omega
   have e2 : (runD s).1.drop 2 = [] := List.drop_of_length_le (by omega)
   rw [e1, cond_true, e2, List.nil_append]
   split
   ·rename_i t ht
    rw [r11_s h m _ t (zvk hsr ht) true, if_pos rfl]; rfl
   ·rw [if_pos (.inl rfl)]; rfl
  ·have hne : (runD s).1.drop 2 ≠ [] := by
    intro h; have := congrArg List.length h; simp at this; omega
   rw [z11b (by decide) (fun y hy => zh3 s y (List.mem_of_mem_drop hy)) hne, if_pos (.inr (by simp [hne]))]; rfl
theorem r5_s (h : Int) (s : List UInt8) (hs : Sm s) (bad : Bool) : z53 h s bad = if bad = true then some litV else ansR (minO h s) := by
 rw [zj7]
 have := z1dc (fun x0 x1 x2 x3 x4 x5 => z17 x0 x1 x2 x3 x4 x5 h) (fun x0 x1 x2 x3 x4 x5 => z1s x0 x1 x2 x3 x4 x5 h)
  (fun x0 x1 x2 x3 x4 => zn x0 x1 x2 x3 x4 h) (fun n rest b => z7f h n rest b)
  (fun x0 x1 x2 x3 x4 x5 => z62 x0 x1 x2 x3 x4 x5 h) (fun x0 x1 x2 x3 x4 x5 => z5z x0 x1 x2 x3 x4 x5 h)
  (fun x0 x1 x2 x3 x4 => z5w x0 x1 x2 x3 x4 h) s hs ((2 : Nat) : Int) 2 (by omega) bad
 rw [show ((2 : Int)) = ((2 : Nat) : Int) from rfl, this, zlo]
 have st := fun (n : Int) (rest : List UInt8) (b : Bool) => (zj6 h n rest b).trans (sign_s (R := PV) 58 rest litV (fun t => z7e h n 0 t b) (z13 rest b h n 0 0) (.inr trivial))
 rw [st, z5p, r17]
 have hsr := sm_run hs
 unfold minO
 by_cases hb : bad = true
 ·subst hb
  have e : (bif ltB ((((runD s).1.take 2).length : Nat) : Int) ((2 : Nat) : Int) then true else true) = true := by cases ltB _ _ <;> rfl
  rw [if_pos rfl, e]
  split
  ·rename_i t ht
   rw [r9_s h _ 0 t ?_ true rfl, if_pos rfl]
   cases hd : (runD s).1.drop 2 with
   | nil => rw [hd, List.nil_append] at ht; exact zvk hsr ht
   | cons x d =>
    rw [hd, z11b (by decide) (fun y hy => zh3 s y (List.mem_of_mem_drop (hd ▸ hy))) (by simp)] at ht
    cases ht
  ·rw [if_pos (.inl rfl)]
 rw [if_neg hb]
 by_cases h2 : (runD s).1.length = 2
 ·have e1 : ltB ((((runD s).1.take 2).length : Nat) : Int) ((2 : Nat) : Int) = false := by unfold ltB; rw [decide_eq_false]; simp; omega
  have e2 : (runD s).1.drop 2 = [] := List.drop_of_length_le (by omega)
  have e3 : (runD s).1.take 2 = (runD s).1 := List.take_of_length_le (by omega)
  rw [e1, e2, e3, List.nil_append, cond_false, if_pos h2]
  by_cases h3 : (runD s).2 = []
  ·rw [h3, aft_nil, if_neg (by simp [hb]), if_pos rfl]; rfl
  ·rw [if_neg h3]
   cases ha : aft 58 (runD s).2 with
   | some t =>
    simp only [Option.bind_some]
    rw [r9_s h _ 0 t (zvk hsr ha) _ rfl, if_neg hb]
   | none => simp only [Option.bind_none]; rw [if_pos (.inr h3)]; rfl
 ·rw [if_neg h2]
  rcases Nat.lt_or_ge (runD s).1.length 2 with hlt | hge
  ·have e1 : ltB ((((runD s).1.take 2).length : Nat) : Int) ((2 : Nat) : Int) = true := by unfold ltB; rw [decide_eq_true]; simp; omega
   have e2 : (runD s).1.drop 2 = [] := List.drop_of_length_le (by omega)
   rw [e1, cond_true, e2, List.nil_append]
   split
   ·rename_i t ht
    rw [r9_s h _ 0 t (zvk hsr ht) true rfl, if_pos rfl]; rfl
   ·rw [if_pos (.inl rfl)]; rfl
  ·have hne : (runD s).1.drop 2 ≠ [] := by
    intro h; have := congrArg List.length h; simp at this; omega
   rw [z11b (by decide) (fun y hy => zh3 s y (List.mem_of_mem_drop hy)) hne, if_pos (.inr (by simp [hne]))]; rfl
theorem z1b5 (s : List UInt8) (hs : Sm s) : z5b s = ansR (timeO s) := by
 rw [zmk]
 have := z1dc (fun x0 x1 x2 x3 x4 x5 => z1c x0 x1 x2 x3 x4 x5) (fun x0 x1 x2 x3 x4 x5 => z1w x0 x1 x2 x3 x4 x5)
  (fun x0 x1 x2 x3 x4 => zu x0 x1 x2 x3 x4) (fun n rest b => z7g n rest b)
  (fun x0 x1 x2 x3 x4 x5 => z6x x0 x1 x2 x3 x4 x5) (fun x0 x1 x2 x3 x4 x5 => z6w x0 x1 x2 x3 x4 x5)
  (fun x0 x1 x2 x3 x4 => z6v x0 x1 x2 x3 x4) s hs 1 2 (by omega) false
 rw [show ((2 : Int)) = ((2 : Nat) : Int) from rfl, this, zlo]
 have st := fun (n : Int) (rest : List UInt8) (b : Bool) => (zj9 n rest b).trans (sign_s (R := PV) 58 rest litV (fun t => z53 n t b) (z10 rest b n) (.inr trivial))
 have no : ∀ rest b n, Sm rest → z10 rest b n = some litV := by
  intro rest b n hr
  rw [z6h, zj8, r5_s n rest hr true, if_pos rfl]
 have hsr := sm_run hs
 have hall : Sm ((runD s).1.drop 2 ++ (runD s).2) := by rw [← zlo]; exact zue hs _
 rw [st, no _ _ _ hall]
 unfold timeO
 by_cases h1 : (runD s).1.length = 1 ∨ (runD s).1.length = 2
 ·have e1 : ltB ((((runD s).1.take 2).length : Nat) : Int) 1 = false := by unfold ltB; rw [decide_eq_false]; simp; omega
  have e2 : (runD s).1.drop 2 = [] := List.drop_of_length_le (by omega)
  have e3 : (runD s).1.take 2 = (runD s).1 := List.take_of_length_le (by omega)
  rw [e1, e2, e3, List.nil_append, cond_false, if_pos h1]
  cases ha : aft 58 (runD s).2 with
  | some t =>
   simp only [Option.bind_some]
   rw [r5_s _ t (zvk hsr ha)]; rfl
  | none => rfl
 ·rw [if_neg h1]
  rcases Nat.lt_or_ge (runD s).1.length 1 with hlt | hge
  ·have e1 : ltB ((((runD s).1.take 2).length : Nat) : Int) 1 = true := by unfold ltB; rw [decide_eq_true]; simp; omega
   have e2 : (runD s).1.drop 2 = [] := List.drop_of_length_le (by omega)
   rw [e1, cond_true, e2, List.nil_append]
   split
   ·rename_i t ht
    rw [r5_s _ t (zvk hsr ht) true, if_pos rfl]; rfl
   ·rfl
  ·have hne : (runD s).1.drop 2 ≠ [] := by
    intro h; have := congrArg List.length h; simp at this; omega
   rw [z11b (by decide) (fun y hy => zh3 s y (List.mem_of_mem_drop hy)) hne]; rfl
end Dv

namespace Dv
open Go
abbrev Grp := Int × Nat
def gV (g : Grp) : PV := .agg [.int .i64 g.1, .int .i64 (g.2 : Int)]
def grpS : List UInt8 → Int → Nat → Option (List Grp × List UInt8)
 | [], n, k => some ([(n, k)], [])
 | c :: r, n, k => if digB c = true ∧ k < 6 then grpS r (10 * n + dgt c) (k + 1) else if c = 58 ∨ c = 46 then (grpS r 0 0).map (fun p => ((n, k) :: p.1, c :: p.2)) else none
theorem z1c3 {c : UInt8} {r : List UInt8} {n : Int} {k : Nat} (h : digB c = true) (hk : k < 6) : grpS (c :: r) n k = grpS r (10 * n + dgt c) (k + 1) := by rw [grpS, if_pos ⟨h, hk⟩]
theorem z1em {c : UInt8} {r : List UInt8} {n : Int} {k : Nat} (h : c = 58 ∨ c = 46) : grpS (c :: r) n k = (grpS r 0 0).map (fun p => ((n, k) :: p.1, c :: p.2)) := by
 rw [grpS, if_neg, if_pos h]
 rintro ⟨hd, _⟩
 rcases h with rfl | rfl <;> exact absurd hd (by decide)
theorem z199 {c : UInt8} {r : List UInt8} {n : Int} {k : Nat} (h : ¬ (digB c = true ∧ k < 6)) (h2 : ¬ (c = 58 ∨ c = 46)) : grpS (c :: r) n k = none := by rw [grpS, if_neg h, if_neg h2]
theorem z1c2 : ∀ (r : List UInt8) (n : Int) (k : Nat) (l : List Grp) (sg : List UInt8), grpS r n k = some (l, sg) → l.length = sg.length + 1
 | [], n, k, l, sg, h => by simp [grpS] at h; obtain ⟨rfl, rfl⟩ := h; rfl
 | c :: r, n, k, l, sg, h => by
  rw [grpS] at h
  split at h
  ·exact z1c2 r _ _ l sg h
  ·split at h
   ·cases hg : grpS r 0 0 with
    | none => rw [hg] at h; cases h
    | some p =>
     obtain ⟨l', sg'⟩ := p
     rw [hg] at h
     simp only [Option.map_some, Option.some.injEq, Prod.mk.injEq] at h
     obtain ⟨rfl, rfl⟩ := h
     simp [z1c2 r 0 0 l' sg' hg]
   ·cases h
theorem z109 : ∀ (r : List UInt8) (n : Int) (k : Nat) (l : List Grp) (sg : List UInt8), grpS r n k = some (l, sg) → 0 ≤ n → n < 10 ^ k → k ≤ 6 → ∀ g ∈ l, 0 ≤ g.1 ∧ g.1 < 10 ^ g.2 ∧ g.2 ≤ 6
 | [], n, k, l, sg, h, h0, h1, h2, g, hg => by simp [grpS] at h; obtain ⟨rfl, rfl⟩ := h; simp at hg; subst hg; exact ⟨h0, h1, h2⟩
 | c :: r, n, k, l, sg, h, h0, h1, h2, g, hg => by
  rw [grpS] at h
  split at h
  ·rename_i hd
   have hc := z10u hd.1
   exact z109 r _ _ l sg h (by omega) (by rw [Int.pow_succ]; omega) (by omega) g hg
  ·split at h
   ·cases hg' : grpS r 0 0 with
    | none => rw [hg'] at h; cases h
    | some p =>
     obtain ⟨l', sg'⟩ := p
     rw [hg'] at h
     simp only [Option.map_some, Option.some.injEq, Prod.mk.injEq] at h
     obtain ⟨rfl, rfl⟩ := h
     rcases List.mem_cons.1 hg with rfl | hg
     ·exact ⟨h0, h1, h2⟩
     ·exact z109 r 0 0 l' sg' hg' (Int.le_refl _) (by decide) (by omega) g hg
   ·cases h
theorem g_get (init : List Grp) (g : Grp) : ((init ++ [g]).map gV)[init.length]? = some (gV g) := by
 rw [List.getElem?_map, List.getElem?_append_right (Nat.le_refl _), Nat.sub_self]; rfl
theorem g_n (init : List Grp) (g : Grp) : rdT (tiInt .i64) ((init ++ [g]).map gV) init.length 0 = some (.int .i64 g.1) := by
 unfold rdT; rw [g_get]; rfl
theorem g_k (init : List Grp) (g : Grp) : rdT (tiInt .i64) ((init ++ [g]).map gV) init.length 1 = some (.int .i64 (g.2 : Int)) := by
 unfold rdT; rw [g_get]; rfl
theorem g_set (init : List Grp) (g g' : Grp) : ((init ++ [g]).map gV).set init.length (gV g') = (init ++ [g']).map gV := by
 rw [List.map_append, List.map_append, List.set_append_right _ _ (by simp)]
 simp
theorem g_setn (init : List Grp) (g : Grp) (n : Int) : stC ((init ++ [g]).map gV) init.length 0 [.int .i64 n] = some ((init ++ [(n, g.2)]).map gV) := by
 unfold stC; rw [g_get, ← g_set init g (n, g.2)]; rfl
theorem g_setk (init : List Grp) (g : Grp) (k : Nat) : stC ((init ++ [g]).map gV) init.length 1 [.int .i64 (k : Int)] = some ((init ++ [(g.1, k)]).map gV) := by
 unfold stC; rw [g_get, ← g_set init g (g.1, k)]; rfl
theorem enc_58 : encR ((58 : Nat) : Int) = [58] := by kernel_rfl
theorem enc_46 : encR ((46 : Nat) : Int) = [46] := by kernel_rfl
theorem pow6 {k : Nat} (h : k < 6) {n : Int} (h1 : n < 10 ^ k) : n < 100000 := by
 have : (10 : Int) ^ k ≤ 10 ^ 5 := by
  match k, h with
  | 0, _ => decide
  | 1, _ => decide
  | 2, _ => decide
  | 3, _ => decide
  | 4, _ => decide
  | 5, _ => decide
 exact Int.lt_of_lt_of_le h1 this
theorem lit21 : zd3 [] false = some litV := by
 rw [zta, zfg]; rfl
theorem z10b (s : List UInt8) (hs : Sm s) : ∀ (r : List UInt8) (i : Nat) (sg : List UInt8) (init : List Grp) (n : Int) (k : Nat), s.drop i = r → 0 ≤ n → n < 10 ^ k → k ≤ 6 → sg.length ≤ i → init.length ≤ i →
  z23 sg ((init ++ [(n, k)]).map gV) s i s s = match grpS r n k with | some (l, sg') => z44 (sg ++ sg') true ((init ++ l).map gV) | none => some litV
 | [], i, sg, init, n, k, h, h0, h1, h2, hsg, hin => by
  have hl := z9u h
  rw [z6y, zmt (by omega)]
  simp [grpS]
 | c :: r, i, sg, init, n, k, h, h0, h1, h2, hsg, hin => by
  have hsl : s.length ≤ 10000000000 := hs
  obtain ⟨hi, hg, hr⟩ := z3m h
  have hlen : (((((init ++ [(n, k)]).map gV).length : Nat)) : Int) = ((init.length : Nat) : Int) + 1 := by simp
  have hlw : IntKind.i64.wrap (((((init ++ [(n, k)]).map gV).length : Nat) : Int) - 1) = ((init.length : Nat) : Int) := by rw [hlen, w64 (by omega) (by omega)]; omega
  rw [z6y, ztg hi, hlw, c_inT (by omega), Int.toNat_natCast]
  have other : ∀ (d : Nat) (w : Nat), (decR s i).1 = d → (decR s i).2 = w → ¬ (digB c = true ∧ k < 6) → (c.toNat < 128 ∧ d = c.toNat ∧ w = 1 ∨ 128 ≤ c.toNat ∧ 128 ≤ d) →
    z1y sg (((decR s i).1 : Nat) : Int) ((init ++ [(n, k)]).map gV) s (i + (decR s i).2) s s = match grpS (c :: r) n k with | some (l, sg') => z44 (sg ++ sg') true ((init ++ l).map gV) | none => some litV := by
   intro d w hd hw hno hcs
   rw [hd, hw, zbe]
   have sign : ∀ (b : UInt8), c = b → (b = 58 ∨ b = 46) → encR (d : Int) = [b] → w = 1 → z2t sg (d : Int) ((init ++ [(n, k)]).map gV) s (i + w) s s = match grpS (c :: r) n k with | some (l, sg') => z44 (sg ++ sg') true ((init ++ l).map gV) | none => some litV := by
    intro b hb hb2 he hw1
    subst hb; subst hw1
    rw [zbd, he, z16n (by simp; omega)]
    simp only [Option.bind_some]
    rw [ze9 (by simp; omega)]
    simp only [Option.bind_some]
    have e : (init ++ [(n, k)]).map gV ++ [PV.agg [PV.int .i64 (0 : Int), PV.int .i64 (0 : Int)]] = ((init ++ [(n, k)]) ++ [((0 : Int), 0)]).map gV := by simp [gV]
    rw [e, z10b s hs r (i + 1) (sg ++ [c]) (init ++ [(n, k)]) 0 0 hr (Int.le_refl _) (by decide) (by omega) (by simp; omega) (by simp; omega), z1em hb2]
    cases grpS r 0 0 with
    | none => rfl
    | some p => simp
   rcases hcs with ⟨h3, h4, h5⟩ | ⟨h3, h4⟩
   ·by_cases e58 : c = 58
    ·subst e58
     rw [c_eqT (by rw [h4]; rfl)]
     exact sign 58 rfl (.inl rfl) (by rw [h4]; exact enc_58) h5
    ·rw [c_eqF (by rw [h4]; exact zkk (b := 58) e58)]
     by_cases e46 : c = 46
     ·subst e46
      rw [c_eqT (by rw [h4]; rfl)]
      exact sign 46 rfl (.inr rfl) (by rw [h4]; exact enc_46) h5
     ·rw [c_eqF (by rw [h4]; exact zkk (b := 46) e46), lit21, z199 hno (by simp [e58, e46])]
   ·rw [c_eqF (by omega), c_eqF (by omega), lit21, z199 hno]
    rintro (rfl | rfl) <;> exact absurd h3 (by decide)
  by_cases hc : c.toNat < 128
  ·have hdec := zcr hg hc
   have d1 : (decR s i).1 = c.toNat := by rw [hdec]
   have d2 : (decR s i).2 = 1 := by rw [hdec]
   cases hd : digB c with
   | true =>
    have hc2 := (z6l c).1 hd
    have hdr := z10u hd
    rw [d1, c_leT (by omega), c_leT (by omega), g_k]
    simp only [Option.bind_some, zo]
    by_cases hk : k < 6
    ·have hn := pow6 hk h1
     rw [c_ltT (by omega), zbv, g_n]
     simp only [Option.bind_some, zo]
     rw [dgt_i32 hd, w64 (n := 10 * n) (by omega) (by omega), w64 (n := 10 * n + dgt c) (by omega) (by omega), g_setn]
     simp only [Option.bind_some]
     rw [g_k]
     simp only [Option.bind_some, zo]
     rw [w64 (n := (k : Int) + 1) (by omega) (by omega), show ((k : Int) + 1) = ((k + 1 : Nat) : Int) by omega, g_setk]
     simp only [Option.bind_some]
     rw [d2, z10b s hs r (i + 1) sg init (10 * n + dgt c) (k + 1) hr (by omega) (by rw [Int.pow_succ]; omega) (by omega) (by omega) (by omega), z1c3 hd hk]
    ·rw [c_ltF (by omega)]
     have := other c.toNat 1 d1 d2 (by simp [hk]) (.inl ⟨hc, rfl, rfl⟩)
     rw [d1] at this
     exact this
   | false =>
    have hno : ¬ (digB c = true ∧ k < 6) := by simp [hd]
    have hcd : ¬ (48 ≤ c.toNat ∧ c.toNat ≤ 57) := by rw [← z6l, hd]; simp
    have := other c.toNat 1 d1 d2 hno (.inl ⟨hc, rfl, rfl⟩)
    rw [d1] at this ⊢
    by_cases h48 : 48 ≤ c.toNat
    ·rw [c_leT (by omega), c_leF (by omega)]; exact this
    ·rw [c_leF (by omega)]; exact this
  ·obtain ⟨b1, _⟩ := zmd hg (by omega)
   have hno : ¬ (digB c = true ∧ k < 6) := by
    rintro ⟨hd, _⟩
    have := (z6l c).1 hd; omega
   have := other _ _ rfl rfl hno (.inr ⟨by omega, b1⟩)
   rw [c_leT (by omega), c_leF (by omega)]
   exact this
theorem c2_nil (L : List PV) (cp : Nat) : zkh [] true L cp = some litV := by
 rw [zxc, c_not, zjf, c_not, zd6 (by simp), c_not, zd6 (by simp), c_not, zd6 (by simp), zfg]; rfl
theorem z19a (s : List UInt8) (hs : Sm s) : ∀ (r : List UInt8) (i : Nat) (n : Int) (k : Nat), s.drop i = r → 0 ≤ n → n < 10 ^ k → k ≤ 6 →
  z2g [] [gV (n, k)] 1 s i s s = match grpS r n k with | some (l, sg') => (if sg' = [] then some litV else z44 sg' true (l.map gV)) | none => some litV
 | [], i, n, k, h, h0, h1, h2 => by
  have hl := z9u h
  rw [z7t, zmt (by omega), c2_nil]
  simp [grpS]
 | c :: r, i, n, k, h, h0, h1, h2 => by
  have hsl : s.length ≤ 10000000000 := hs
  obtain ⟨hi, hg, hr⟩ := z3m h
  have hlw : IntKind.i64.wrap (((([gV (n, k)] : List PV).length : Nat) : Int) - 1) = ((0 : Nat) : Int) := by rw [w64 (by simp) (by simp)]; simp
  have gk := g_k [] (n, k)
  have gn := g_n [] (n, k)
  have gsn := fun m => g_setn [] (n, k) m
  have gk2 := fun m => g_k [] (m, k)
  have gsk := fun m j => g_setk [] (m, k) j
  simp only [List.nil_append, List.length_nil, List.map_cons, List.map_nil] at gk gn gsn gk2 gsk
  rw [z7t, ztg hi, hlw, c_inT (by simp), Int.toNat_natCast]
  have other : ∀ (d : Nat) (w : Nat), (decR s i).1 = d → (decR s i).2 = w → ¬ (digB c = true ∧ k < 6) → (c.toNat < 128 ∧ d = c.toNat ∧ w = 1 ∨ 128 ≤ c.toNat ∧ 128 ≤ d) →
    z27 [] (((decR s i).1 : Nat) : Int) [gV (n, k)] 1 s (i + (decR s i).2) s s = match grpS (c :: r) n k with | some (l, sg') => (if sg' = [] then some litV else z44 sg' true (l.map gV)) | none => some litV := by
   intro d w hd hw hno hcs
   rw [hd, hw, zd1]
   have sign : ∀ (b : UInt8), c = b → (b = 58 ∨ b = 46) → encR (d : Int) = [b] → w = 1 → z38 [] (d : Int) [gV (n, k)] 1 s (i + w) s s = match grpS (c :: r) n k with | some (l, sg') => (if sg' = [] then some litV else z44 sg' true (l.map gV)) | none => some litV := by
    intro b hb hb2 he hw1
    subst hb; subst hw1
    rw [zd0, he, z16n (by simp)]
    simp only [Option.bind_some]
    rw [ze9 (by simp)]
    simp only [Option.bind_some]
    have e : [gV (n, k)] ++ [PV.agg [PV.int .i64 (0 : Int), PV.int .i64 (0 : Int)]] = ([(n, k)] ++ [((0 : Int), 0)]).map gV := by simp [gV]
    rw [c_lenF (by simp), e, z10b s hs r (i + 1) ([] ++ [c]) [(n, k)] 0 0 hr (Int.le_refl _) (by decide) (by omega) (by simp) (by simp), z1em hb2]
    cases grpS r 0 0 with
    | none => rfl
    | some p => simp
   rcases hcs with ⟨h3, h4, h5⟩ | ⟨h3, h4⟩
   ·by_cases e58 : c = 58
    ·subst e58
     rw [c_eqT (by rw [h4]; rfl)]
     exact sign 58 rfl (.inl rfl) (by rw [h4]; exact enc_58) h5
    ·rw [c_eqF (by rw [h4]; exact zkk (b := 58) e58)]
     by_cases e46 : c = 46
     ·subst e46
      rw [c_eqT (by rw [h4]; rfl)]
      exact sign 46 rfl (.inr rfl) (by rw [h4]; exact enc_46) h5
     ·rw [c_eqF (by rw [h4]; exact zkk (b := 46) e46), lit21, z199 hno (by simp [e58, e46])]
   ·rw [c_eqF (by omega), c_eqF (by omega), lit21, z199 hno]
    rintro (rfl | rfl) <;> exact absurd h3 (by decide)
  by_cases hc : c.toNat < 128
  ·have hdec := zcr hg hc
   have d1 : (decR s i).1 = c.toNat := by rw [hdec]
   have d2 : (decR s i).2 = 1 := by rw [hdec]
   cases hd : digB c with
   | true =>
    have hc2 := (z6l c).1 hd
    have hdr := z10u hd
    rw [d1, c_leT (by omega), c_leT (by omega), gk]
    simp only [Option.bind_some, zo]
    by_cases hk : k < 6
    ·have hn := pow6 hk h1
     rw [c_ltT (by omega), zdb, gn]
     simp only [Option.bind_some, zo]
     rw [dgt_i32 hd, w64 (n := 10 * n) (by omega) (by omega), w64 (n := 10 * n + dgt c) (by omega) (by omega), gsn]
     simp only [Option.bind_some]
     rw [gk2]
     simp only [Option.bind_some, zo]
     rw [w64 (n := (k : Int) + 1) (by omega) (by omega), show ((k : Int) + 1) = ((k + 1 : Nat) : Int) by omega, gsk]
     simp only [Option.bind_some]
     rw [d2, z19a s hs r (i + 1) (10 * n + dgt c) (k + 1) hr (by omega) (by rw [Int.pow_succ]; omega) (by omega), z1c3 hd hk]
    ·rw [c_ltF (by omega)]
     have := other c.toNat 1 d1 d2 (by simp [hk]) (.inl ⟨hc, rfl, rfl⟩)
     rw [d1] at this
     exact this
   | false =>
    have hno : ¬ (digB c = true ∧ k < 6) := by simp [hd]
    have hcd : ¬ (48 ≤ c.toNat ∧ c.toNat ≤ 57) := by rw [← z6l, hd]; simp
    have := other c.toNat 1 d1 d2 hno (.inl ⟨hc, rfl, rfl⟩)
    rw [d1] at this ⊢
    by_cases h48 : 48 ≤ c.toNat
    ·rw [c_leT (by omega), c_leF (by omega)]; exact this
    ·rw [c_leF (by omega)]; exact this
  ·obtain ⟨b1, _⟩ := zmd hg (by omega)
   have hno : ¬ (digB c = true ∧ k < 6) := by
    rintro ⟨hd, _⟩
    have := (z6l c).1 hd; omega
   have := other _ _ rfl rfl hno (.inr ⟨by omega, b1⟩)
   rw [c_leT (by omega), c_leF (by omega)]
   exact this
end Dv

namespace Dv
open Go
theorem grTI {l : List Grp} {k : Nat} {p : Grp} (h : l[k]? = some p) : rdT (EE.ti zd) (l.map gV) k 0 = some (gV p) := by
 have e : EE.ti zd = ⟨(EE.ti zd).d, 2, 16, (EE.ti zd).zero, [.int .i64, .int .i64]⟩ := by kernel_rfl
 have ha : (EE.ti zd).isAgg = true := by kernel_rfl
 unfold rdT
 rw [List.getElem?_map, h]
 simp only [Option.map_some]
 have e1 : (EE.ti zd).size = 2 := by rw [e]
 have e2 : (EE.ti zd).leaves = [.int .i64, .int .i64] := by rw [e]
 rw [e1, e2, ha]
 rfl
theorem grF {l : List Grp} {k : Nat} {p : Grp} (h : l[k]? = some p) : rdT (tiInt .i64) (l.map gV) k 0 = some (.int .i64 p.1) := by
 unfold rdT; rw [List.getElem?_map, h]; rfl
theorem z10a : ∀ (s : List UInt8) (n : Int) (k : Nat), k ≤ 6 → grpS s n k = if k + (runD s).1.length ≤ 6 then (match (runD s).2 with | [] => some ([(valD n (runD s).1, k + (runD s).1.length)], []) | c :: r => if c = 58 ∨ c = 46 then (grpS r 0 0).map (fun p => ((valD n (runD s).1, k + (runD s).1.length) :: p.1, c :: p.2)) else none) else none
 | [], n, k, hk => by
  simp only [runD, List.length_nil, Nat.add_zero, valD]
  rw [if_pos hk]; rfl
 | c :: r, n, k, hk => by
  cases hd : digB c with
  | true =>
   simp only [runD, hd, if_true, List.length_cons, valD]
   by_cases h6 : k < 6
   ·rw [z1c3 hd h6, z10a r _ (k + 1) (by omega), show k + 1 + (runD r).1.length = k + ((runD r).1.length + 1) by omega]
   ·have : ¬ (k + ((runD r).1.length + 1) ≤ 6) := by omega
    rw [if_neg this, z199 (by simp [h6])]
    rintro (rfl | rfl) <;> exact absurd hd (by decide)
  | false =>
   have e : runD (c :: r) = ([], c :: r) := by simp [runD, hd]
   rw [e]
   simp only [List.length_nil, Nat.add_zero, valD]
   rw [if_pos hk, grpS, if_neg (by simp [hd])]
section
variable (s : List UInt8) (K : List Grp → List UInt8 → Option PV)
noncomputable def gM : Option PV := match grpS s 0 0 with | some (l, sg) => K l sg | none => some litV
theorem z1c4 (h : ¬ (runD s).1.length ≤ 6) : gM s K = some litV := by
 unfold gM; rw [z10a s 0 0 (by omega), Nat.zero_add, if_neg h]
theorem z19b (h : (runD s).1.length ≤ 6) (hr : (runD s).2 = []) : gM s K = K [(valD 0 (runD s).1, (runD s).1.length)] [] := by
 unfold gM; rw [z10a s 0 0 (by omega), Nat.zero_add, if_pos h, hr]
theorem z19c {c : UInt8} {r : List UInt8} (hr : (runD s).2 = c :: r) (hc : ¬ (c = 58 ∨ c = 46)) : gM s K = some litV := by
 by_cases h : (runD s).1.length ≤ 6
 ·unfold gM; rw [z10a s 0 0 (by omega), Nat.zero_add, if_pos h, hr]
  simp only
  rw [if_neg hc]
 ·exact z1c4 s K h
theorem zw4 {c : UInt8} {r : List UInt8} (h : (runD s).1.length ≤ 6) (hr : (runD s).2 = c :: r) (hc : c = 58 ∨ c = 46) : gM s K = gM r (fun l sg => K ((valD 0 (runD s).1, (runD s).1.length) :: l) (c :: sg)) := by
 unfold gM
 rw [z10a s 0 0 (by omega), Nat.zero_add, if_pos h, hr]
 simp only
 rw [if_pos hc]
 cases grpS r 0 0 with
 | none => rfl
 | some p => rfl
theorem gM_no (h : ∀ l sg, K l sg = some litV) : gM s K = some litV := by
 unfold gM
 cases grpS s 0 0 with
 | none => rfl
 | some p => exact h _ _
theorem z1c5 (h : ∀ l sg, K ((valD 0 (runD s).1, (runD s).1.length) :: l) sg = some litV) : gM s K = some litV := by
 by_cases h6 : (runD s).1.length ≤ 6
 ·cases hr : (runD s).2 with
  | nil => rw [z19b s K h6 hr]; exact h _ _
  | cons c r =>
   by_cases hc : c = 58 ∨ c = 46
   ·rw [zw4 s K h6 hr hc]; exact gM_no _ _ (fun l sg => h _ _)
   ·exact z19c s K hr hc
 ·exact z1c4 s K h6
end
noncomputable def mkP (h m x u : Int) : Option PV := (zow h m x u).bind fun v => some (.tuple [.int .i64 (v.tnth 0).toI, .int .i64 (v.tnth 1).toI])
theorem mk_s {h m x u : Int} (h0 : 0 ≤ h) (h1 : h < 100) (m0 : 0 ≤ m) (m1 : m < 100) (x0 : 0 ≤ x) (x1 : x < 100) (u0 : 0 ≤ u) (u1 : u < 1000000) : mkP h m x u = mkR h m x u := by
 suffices hh : zow h m x u = z9h h m x u by unfold mkP mkR; rw [hh]
 rw [z16j, z9x]
 rw [zcz, zcz, zcz, zcz, zxe, z88]
 rw [c_leT h0, c_leT m0, c_leT x0, c_leT u0, c_ltF (by omega), c_ltF (by omega : ¬ m < 0), c_ltF (by omega : ¬ x < 0), c_ltF (by omega : ¬ u < 0)]
 simp only [Option.bind_some, PV.toB, c_not]
 by_cases h24 : h ≤ 24
 ·rw [c_leT h24, c_ltF (by omega)]
  by_cases hm : m ≤ 59
  ·rw [c_leT hm, c_ltF (by omega)]
   by_cases hx : x ≤ 59
   ·rw [c_leT hx, c_ltF (by omega), c_leT (by omega), c_ltF (by omega), zxd, z87]
    rw [w64 (n := h * 3600000000) (by omega) (by omega), w64 (n := m * 60000000) (by omega) (by omega), w64 (n := x * 1000000) (by omega) (by omega), w64 (n := h * 3600000000 + m * 60000000) (by omega) (by omega),
     w64 (n := h * 3600000000 + m * 60000000 + x * 1000000) (by omega) (by omega), w64 (n := h * 3600000000 + m * 60000000 + x * 1000000 + u) (by omega) (by omega),
     w64 (n := h * 3600) (by omega) (by omega), w64 (n := m * 60) (by omega) (by omega), w64 (n := h * 3600 + m * 60) (by omega) (by omega), w64 (n := h * 3600 + m * 60 + x) (by omega) (by omega),
     w64 (n := (h * 3600 + m * 60 + x) * 1000000) (by omega) (by omega), w64 (n := (h * 3600 + m * 60 + x) * 1000000 + u) (by omega) (by omega),
     show (h * 3600 + m * 60 + x) * 1000000 + u = h * 3600000000 + m * 60000000 + x * 1000000 + u by omega]
   ·rw [c_leF hx, c_ltT (by omega)]
  ·rw [c_leF hm, c_ltT (by omega)]
 ·rw [c_leF h24, c_ltT (by omega)]
theorem ck3 : z18 = some litV := by rw [zfg]; rfl
theorem ck12 : zec = some litV := by rw [zuz]; rfl
theorem one_s (g : Grp) : z3e (PV.nth (gV g) 0).toI (PV.nth (gV g) 1).toI = some (.bool (decide (g.2 = 1 ∨ g.2 = 2))) := by
 show z3e g.1 (g.2 : Int) = _
 rw [zt8]
 by_cases h1 : g.2 = 1
 ·rw [c_eqT (by omega)]; simp [h1]
 ·rw [c_eqF (by omega)]
  congr 2
  unfold eqB
  by_cases h2 : g.2 = 2
  ·simp [h2]
  ·rw [decide_eq_false (by omega), decide_eq_false (by omega)]
theorem two_s (g : Grp) : z2f (PV.nth (gV g) 0).toI (PV.nth (gV g) 1).toI = some (.bool (decide (g.2 = 2))) := by
 show z2f g.1 (g.2 : Int) = _
 rw [zt7]
 congr 2
 unfold eqB
 by_cases h2 : g.2 = 2
 ·simp [h2]
 ·rw [decide_eq_false (by omega), decide_eq_false (by omega)]
theorem c13_s (l : List Grp) (g0 g1 : Grp) (h0 : l[0]? = some g0) (h1 : l[1]? = some g1) (x : Int) : ∀ (j k : Nat) (u : Int), k + j = 6 → 0 ≤ u → u < 10 ^ k →
  zb3 (l.map gV) x 2 u (k : Int) = mkP g0.1 g1.1 x (u * 10 ^ j) := by
 have hl : 1 < l.length := by
  rcases Nat.lt_or_ge 1 l.length with h | h
  ·exact h
  ·rw [List.getElem?_eq_none h] at h1; cases h1
 intro j
 induction j with
 | zero =>
  intro k u hk a b
  rw [zgh, c_ltF (by omega), c_inT (by simp; omega), grF h0]
  simp only [Option.bind_some]
  rw [c_inT (by simp; omega), grF h1, Int.pow_zero, Int.mul_one]
  rfl
 | succ j ih =>
  intro k u hk a b
  have hb : (10 : Int) ^ k ≤ 10 ^ 6 := by
   have : k ≤ 5 := by omega
   match k, this with
   | 0, _ => decide
   | 1, _ => decide
   | 2, _ => decide
   | 3, _ => decide
   | 4, _ => decide
   | 5, _ => decide
  have hb' : u < 1000000 := Int.lt_of_lt_of_le b hb
  rw [zgh, c_ltT (by omega), w64 (by omega) (by omega), w64 (by omega) (by omega), show ((k : Int) + 1) = ((k + 1 : Nat) : Int) by omega,
   ih (k + 1) _ (by omega) (by omega) (by rw [Int.pow_succ]; omega)]
  congr 1
  rw [Int.pow_succ, Int.mul_assoc, Int.mul_comm (10 ^ j) 10]
theorem c11_s (l : List Grp) (g0 g1 : Grp) (h0 : l[0]? = some g0) (h1 : l[1]? = some g1) (g2 g3 : Grp) (b0 : 0 ≤ g3.1) (b1 : g3.1 < 10 ^ g3.2) (b2 : g3.2 ≤ 6) :
  z94 (l.map gV) g2.1 (g2.2 : Int) g3.1 (g3.2 : Int) = if g2.2 = 2 ∧ g3.2 ≠ 0 then mkP g0.1 g1.1 g2.1 (g3.1 * 10 ^ (6 - g3.2)) else some litV := by
 rw [zqx, show z2f g2.1 (g2.2 : Int) = some (.bool (decide (g2.2 = 2))) from two_s g2]
 simp only [Option.bind_some, PV.toB]
 by_cases h2 : g2.2 = 2
 ·rw [h2]
  simp only [decide_true, Bool.not_true, cond_false, true_and]
  by_cases h3 : g3.2 = 0
  ·rw [c_eqT (by omega), if_neg (by simp [h3]), ck12]
  ·rw [c_eqF (by omega), if_pos h3]
   exact c13_s l g0 g1 h0 h1 g2.1 (6 - g3.2) g3.2 g3.1 (by omega) b0 b1
 ·simp only [h2, decide_false, Bool.not_false, cond_true, false_and, if_false, ck12]
noncomputable def gAns : List UInt8 → List Grp → Option PV
 | [58], [g0, g1] => if (g0.2 = 1 ∨ g0.2 = 2) ∧ g1.2 = 2 then mkP g0.1 g1.1 0 0 else some litV
 | [58, 58], [g0, g1, g2] => if (g0.2 = 1 ∨ g0.2 = 2) ∧ g1.2 = 2 ∧ g2.2 = 2 then mkP g0.1 g1.1 g2.1 0 else some litV
 | [58, 58, 46], [g0, g1, g2, g3] => if (g0.2 = 1 ∨ g0.2 = 2) ∧ g1.2 = 2 ∧ g2.2 = 2 ∧ g3.2 ≠ 0 then mkP g0.1 g1.1 g2.1 (g3.1 * 10 ^ (6 - g3.2)) else some litV
 | _, _ => some litV
theorem a1 (g0 g1 : Grp) : gAns [58] [g0, g1] = if (g0.2 = 1 ∨ g0.2 = 2) ∧ g1.2 = 2 then mkP g0.1 g1.1 0 0 else some litV := rfl
theorem a2 (g0 g1 g2 : Grp) : gAns [58, 58] [g0, g1, g2] = if (g0.2 = 1 ∨ g0.2 = 2) ∧ g1.2 = 2 ∧ g2.2 = 2 then mkP g0.1 g1.1 g2.1 0 else some litV := rfl
theorem a3 (g0 g1 g2 g3 : Grp) : gAns [58, 58, 46] [g0, g1, g2, g3] = if (g0.2 = 1 ∨ g0.2 = 2) ∧ g1.2 = 2 ∧ g2.2 = 2 ∧ g3.2 ≠ 0 then mkP g0.1 g1.1 g2.1 (g3.1 * 10 ^ (6 - g3.2)) else some litV := rfl
theorem a0 (sg : List UInt8) (l : List Grp) (h1 : sg ≠ [58]) (h2 : sg ≠ [58, 58]) (h3 : sg ≠ [58, 58, 46]) : gAns sg l = some litV := by
 unfold gAns
 split
 ·exact absurd rfl h1
 ·exact absurd rfl h2
 ·exact absurd rfl h3
 ·rfl
theorem c4_s (sg : List UInt8) (l : List Grp) (hl : 2 ≤ l.length) (hl2 : l.length ≤ 100) (g0 g1 : Grp) (h0 : l[0]? = some g0) (h1 : l[1]? = some g1) (no3 : Option PV) :
  ((Dv.rdT (EE.ti zd) (l.map gV) 0 0).bind fun v32 => ((z3e (Dv.PV.toI (Dv.PV.nth v32 0)) (Dv.PV.toI (Dv.PV.nth v32 1))).bind fun v33 => (bif (!(Dv.PV.toB v33)) then z18 else (bif (Dv.inB (0 : Int) (1 : Int) (((List.length (l.map gV)) : Nat) : Int)) then ((Dv.rdT (EE.ti zd) (l.map gV) 1 0).bind fun v34 => ((z2f (Dv.PV.toI (Dv.PV.nth v34 0)) (Dv.PV.toI (Dv.PV.nth v34 1))).bind fun v35 => (bif (!(Dv.PV.toB v35)) then z18 else (z8b sg (l.map gV))))) else no3)))) =
  if (g0.2 = 1 ∨ g0.2 = 2) ∧ g1.2 = 2 then z8b sg (l.map gV) else some litV := by
 rw [grTI h0]
 simp only [Option.bind_some]
 rw [one_s]
 simp only [Option.bind_some, PV.toB]
 by_cases a : g0.2 = 1 ∨ g0.2 = 2
 ·rw [decide_eq_true a, Bool.not_true, cond_false, c_inT (by simp; omega), grTI h1]
  simp only [Option.bind_some]
  rw [two_s]
  simp only [Option.bind_some, PV.toB]
  by_cases b : g1.2 = 2
  ·rw [decide_eq_true b, Bool.not_true, cond_false, if_pos ⟨a, b⟩]
  ·rw [decide_eq_false b, Bool.not_false, cond_true, if_neg (fun h => b h.2), ck3]
 ·rw [decide_eq_false a, Bool.not_false, cond_true, if_neg (fun h => a h.1), ck3]
theorem fin_s : ∀ (sg : List UInt8) (l : List Grp), l.length = sg.length + 1 → (∀ g ∈ l, 0 ≤ g.1 ∧ g.1 < 10 ^ g.2 ∧ g.2 ≤ 6) → (if sg = [] then some litV else z44 sg true (l.map gV)) = gAns sg l := by
 intro sg l hl hb
 rw [zt9, c_not, zjf]
 have ap : ∀ (l : List Grp), l.length ≤ 100 → appL 16 (l.map gV) [(Dv.PV.agg [(Dv.PV.int Go.IntKind.i64 (0 : Int)), (Dv.PV.int Go.IntKind.i64 (2 : Int))]), (Dv.PV.agg [(Dv.PV.int Go.IntKind.i64 (0 : Int)), (Dv.PV.int Go.IntKind.i64 (6 : Int))])] = some ((l ++ [((0 : Int), 2), ((0 : Int), 6)]).map gV) := by
  intro l h
  rw [ze9 (by simp; omega)]
  simp [gV]
 by_cases e1 : sg = [58]
 ·subst e1
  obtain ⟨g0, g1, rfl⟩ : ∃ g0 g1, l = [g0, g1] := by
   match l, hl with
   | [g0, g1], _ => exact ⟨g0, g1, rfl⟩
  rw [if_neg (by simp), c_not, zq2 rfl, c_inT (by simp), c4_s [58] [g0, g1] (by simp) (by simp) g0 g1 rfl rfl, a1]
  by_cases hc : (g0.2 = 1 ∨ g0.2 = 2) ∧ g1.2 = 2
  ·rw [if_pos hc, if_pos hc, zd2, ap _ (by simp)]
   simp only [Option.bind_some]
   rw [c_inT (by simp; try omega), grTI (k := 2) (p := ((0 : Int), 2)) rfl]
   simp only [Option.bind_some]
   rw [c_inT (by simp; try omega), grTI (k := 3) (p := ((0 : Int), 6)) rfl]
   simp only [Option.bind_some]
   rw [zq2 rfl]
   have := c11_s ([g0, g1] ++ [((0 : Int), 2), ((0 : Int), 6)]) g0 g1 rfl rfl ((0 : Int), 2) ((0 : Int), 6) (Int.le_refl _) (by decide) (by decide)
   exact this.trans (by rw [if_pos (by simp)]; simp)
  ·rw [if_neg hc, if_neg hc]
 ·by_cases e2 : sg = [58, 58]
  ·subst e2
   obtain ⟨g0, g1, g2, rfl⟩ : ∃ g0 g1 g2, l = [g0, g1, g2] := by
    match l, hl with
    | [g0, g1, g2], _ => exact ⟨g0, g1, g2, rfl⟩
   rw [if_neg (by simp), c_not, zd6 (by simp), c_not, zq2 rfl, c_inT (by simp; try omega), c4_s [58, 58] [g0, g1, g2] (by simp) (by simp) g0 g1 rfl rfl, a2]
   by_cases hc : (g0.2 = 1 ∨ g0.2 = 2) ∧ g1.2 = 2
   ·rw [if_pos hc, zd2, ap _ (by simp)]
    simp only [Option.bind_some]
    rw [c_inT (by simp; try omega), grTI (k := 2) (p := g2) rfl]
    simp only [Option.bind_some]
    rw [c_inT (by simp; try omega), grTI (k := 3) (p := ((0 : Int), 2)) rfl]
    simp only [Option.bind_some]
    rw [zd6 (by simp), zq2 rfl]
    have := c11_s ([g0, g1, g2] ++ [((0 : Int), 2), ((0 : Int), 6)]) g0 g1 rfl rfl g2 ((0 : Int), 6) (Int.le_refl _) (by decide) (by decide)
    refine this.trans ?_
    by_cases h2 : g2.2 = 2
    ·rw [if_pos ⟨h2, by simp⟩, if_pos ⟨hc.1, hc.2, h2⟩]; simp
    ·rw [if_neg (by simp [h2]), if_neg (by simp [h2])]
   ·rw [if_neg hc, if_neg (fun h => hc ⟨h.1, h.2.1⟩)]
  ·by_cases e3 : sg = [58, 58, 46]
   ·subst e3
    obtain ⟨g0, g1, g2, g3, rfl⟩ : ∃ g0 g1 g2 g3, l = [g0, g1, g2, g3] := by
     match l, hl with
     | [g0, g1, g2, g3], _ => exact ⟨g0, g1, g2, g3, rfl⟩
    rw [if_neg (by simp), c_not, zd6 (by simp), c_not, zd6 (by simp), c_not, zq2 rfl, c_inT (by simp; try omega), c4_s [58, 58, 46] [g0, g1, g2, g3] (by simp) (by simp) g0 g1 rfl rfl, a3]
    by_cases hc : (g0.2 = 1 ∨ g0.2 = 2) ∧ g1.2 = 2
    ·rw [if_pos hc, zd2, ap _ (by simp)]
     simp only [Option.bind_some]
     rw [c_inT (by simp; try omega), grTI (k := 2) (p := g2) rfl]
     simp only [Option.bind_some]
     rw [c_inT (by simp; try omega), grTI (k := 3) (p := g3) rfl]
     simp only [Option.bind_some]
     rw [zd6 (by simp), zd6 (by simp)]
     obtain ⟨b0, b1, b2⟩ := hb g3 (by simp)
     have := c11_s ([g0, g1, g2, g3] ++ [((0 : Int), 2), ((0 : Int), 6)]) g0 g1 rfl rfl g2 g3 b0 b1 b2
     refine this.trans ?_
     by_cases h2 : g2.2 = 2 ∧ g3.2 ≠ 0
     ·rw [if_pos h2, if_pos ⟨hc.1, hc.2, h2.1, h2.2⟩]
     ·rw [if_neg h2, if_neg (fun h => h2 ⟨h.2.2.1, h.2.2.2⟩)]
    ·rw [if_neg hc, if_neg (fun h => hc ⟨h.1, h.2.1⟩)]
   ·have : gAns sg l = some litV := by
     unfold gAns
     split
     ·exact absurd rfl e1
     ·exact absurd rfl e2
     ·exact absurd rfl e3
     ·rfl
    rw [this, c_not, zd6 e1, c_not, zd6 e2, c_not, zd6 e3, ck3]
    split <;> rfl
theorem read_k (s : List UInt8) (hs : Sm s) : zjd s = match grpS s 0 0 with | some (l, sg) => gAns sg l | none => some litV := by
 rw [z16i]
 have := z19a s hs s 0 0 0 rfl (Int.le_refl _) (by decide) (by omega)
 refine this.trans ?_
 cases hg : grpS s 0 0 with
 | none => rfl
 | some p =>
  obtain ⟨l, sg⟩ := p
  exact fin_s sg l (z1c2 _ _ _ _ _ hg) (z109 _ _ _ _ _ hg (Int.le_refl _) (by decide) (by omega))
theorem dv_b (s : List UInt8) (d : Nat) (hd : (runD s).1.length ≤ d) : 0 ≤ valD 0 (runD s).1 ∧ valD 0 (runD s).1 < 10 ^ d := by
 have h := z14g (runD s).1 0 0 (Int.le_refl _) (by decide) (zh3 s)
 rw [Nat.zero_add] at h
 refine ⟨h.1, Int.lt_of_lt_of_le h.2 ?_⟩
 exact_mod_cast Nat.pow_le_pow_right (by omega : 0 < 10) hd
theorem gW0 {g0 : Grp} (h : ¬ (g0.2 = 1 ∨ g0.2 = 2)) (sg : List UInt8) (l : List Grp) : gAns sg (g0 :: l) = some litV := by
 unfold gAns; split <;> simp_all
theorem gW1 {g0 g1 : Grp} (h : ¬ g1.2 = 2) (sg : List UInt8) (l : List Grp) : gAns sg (g0 :: g1 :: l) = some litV := by
 unfold gAns; split <;> simp_all
theorem gW2 {g0 g1 g2 : Grp} (h : ¬ g2.2 = 2) (sg : List UInt8) (l : List Grp) : gAns (58 :: 58 :: sg) (g0 :: g1 :: g2 :: l) = some litV := by
 unfold gAns; split <;> simp_all
theorem g_frac (g0 g1 g2 : Grp) (a : g0.2 = 1 ∨ g0.2 = 2) (b : g1.2 = 2) (c : g2.2 = 2) (h0 : 0 ≤ g0.1 ∧ g0.1 < 100) (h1 : 0 ≤ g1.1 ∧ g1.1 < 100) (h2 : 0 ≤ g2.1 ∧ g2.1 < 100) (s : List UInt8) :
  gM s (fun l sg => gAns (58 :: 58 :: 46 :: sg) (g0 :: g1 :: g2 :: l)) = ansR (fracO g0.1 g1.1 g2.1 s) := by
 unfold fracO
 by_cases h6 : (runD s).1.length ≤ 6
 ·cases hr : (runD s).2 with
  | nil =>
   rw [z19b s _ h6 hr]
   simp only
   rw [a3]
   by_cases hz : (runD s).1.length = 0
   ·rw [if_neg (by simp [hz]), if_neg (by omega)]; rfl
   ·rw [if_pos ⟨a, b, c, hz⟩, if_pos ⟨by omega, h6, trivial⟩]
    have hv := dv_b s _ (Nat.le_refl _)
    refine mk_s h0.1 h0.2 h1.1 h1.2 h2.1 h2.2 (Int.mul_nonneg hv.1 (Int.le_of_lt (Int.pow_pos (by omega)))) ?_
    have e : (10 : Int) ^ (runD s).1.length * 10 ^ (6 - (runD s).1.length) = 1000000 := by rw [← Int.pow_add, show (runD s).1.length + (6 - (runD s).1.length) = 6 by omega]; rfl
    rw [← e]
    exact Int.mul_lt_mul_of_pos_right hv.2 (Int.pow_pos (by omega))
  | cons c' r =>
   rw [if_neg (by simp)]
   by_cases hc : c' = 58 ∨ c' = 46
   ·rw [zw4 s _ h6 hr hc]
    exact gM_no _ _ (fun l sg => a0 _ _ (by simp) (by simp) (by simp))
   ·exact z19c s _ hr hc
 ·rw [if_neg (by omega)]; exact z1c4 s _ h6
theorem g_sec (g0 g1 : Grp) (a : g0.2 = 1 ∨ g0.2 = 2) (b : g1.2 = 2) (h0 : 0 ≤ g0.1 ∧ g0.1 < 100) (h1 : 0 ≤ g1.1 ∧ g1.1 < 100) (s : List UInt8) :
  gM s (fun l sg => gAns (58 :: 58 :: sg) (g0 :: g1 :: l)) = ansR (secO g0.1 g1.1 s) := by
 unfold secO
 by_cases h2 : (runD s).1.length = 2
 ·rw [if_pos h2]
  have hv := dv_b s 2 (by omega)
  cases hr : (runD s).2 with
  | nil =>
   rw [z19b s _ (by omega) hr, if_pos rfl]
   rw [a2, if_pos ⟨a, b, h2⟩]
   exact mk_s h0.1 h0.2 h1.1 h1.2 hv.1 hv.2 (by omega) (by omega)
  | cons c r =>
   rw [if_neg (by simp), ztk]
   by_cases h46 : c = 46
   ·subst h46
    rw [zw4 s _ (by omega) hr (.inr rfl), if_pos rfl]
    exact g_frac g0 g1 (valD 0 (runD s).1, (runD s).1.length) a b h2 h0 h1 hv r
   ·rw [if_neg h46]
    refine (?_ : _ = some litV)
    by_cases hc : c = 58 ∨ c = 46
    ·rw [zw4 s _ (by omega) hr hc]
     exact gM_no _ _ (fun l sg => a0 _ _ (by simp) (by simp) (by simp [h46]))
    ·exact z19c s _ hr hc
 ·rw [if_neg h2]
  exact z1c5 s _ (fun l sg => gW2 h2 _ _)
theorem g_min (g0 : Grp) (a : g0.2 = 1 ∨ g0.2 = 2) (h0 : 0 ≤ g0.1 ∧ g0.1 < 100) (s : List UInt8) :
  gM s (fun l sg => gAns (58 :: sg) (g0 :: l)) = ansR (minO g0.1 s) := by
 unfold minO
 by_cases h2 : (runD s).1.length = 2
 ·rw [if_pos h2]
  have hv := dv_b s 2 (by omega)
  cases hr : (runD s).2 with
  | nil =>
   rw [z19b s _ (by omega) hr, if_pos rfl]
   rw [a1, if_pos ⟨a, h2⟩]
   exact mk_s h0.1 h0.2 hv.1 hv.2 (by omega) (by omega) (by omega) (by omega)
  | cons c r =>
   rw [if_neg (by simp), ztk]
   by_cases h58 : c = 58
   ·subst h58
    rw [zw4 s _ (by omega) hr (.inl rfl), if_pos rfl]
    exact g_sec g0 (valD 0 (runD s).1, (runD s).1.length) a h2 h0 hv r
   ·rw [if_neg h58]
    refine (?_ : _ = some litV)
    by_cases hc : c = 58 ∨ c = 46
    ·rw [zw4 s _ (by omega) hr hc]
     exact gM_no _ _ (fun l sg => a0 _ _ (by simp) (by simp [h58]) (by simp [h58]))
    ·exact z19c s _ hr hc
 ·rw [if_neg h2]
  exact z1c5 s _ (fun l sg => gW1 h2 _ _)
theorem time_s (s : List UInt8) (hs : Sm s) : zjd s = z5b s := by
 rw [read_k s hs, z1b5 s hs]
 refine (?_ : gM s (fun l sg => gAns sg l) = _)
 unfold timeO
 by_cases h1 : (runD s).1.length = 1 ∨ (runD s).1.length = 2
 ·rw [if_pos h1]
  have hv := dv_b s 2 (by omega)
  cases hr : (runD s).2 with
  | nil =>
   rw [z19b s _ (by omega) hr]; rfl
  | cons c r =>
   rw [ztk]
   by_cases h58 : c = 58
   ·subst h58
    rw [zw4 s _ (by omega) hr (.inl rfl), if_pos rfl]
    exact g_min (valD 0 (runD s).1, (runD s).1.length) h1 hv r
   ·rw [if_neg h58]
    refine (?_ : _ = some litV)
    by_cases hc : c = 58 ∨ c = 46
    ·rw [zw4 s _ (by omega) hr hc]
     exact gM_no _ _ (fun l sg => a0 _ _ (by simp [h58]) (by simp [h58]) (by simp [h58]))
    ·exact z19c s _ hr hc
 ·rw [if_neg h1]
  exact z1c5 s _ (fun l sg => gW0 h1 _ _)
end Dv

namespace Dv
open Go
theorem zot {n : Int} (h : z4p n = some (.bool true)) : -2451507 ≤ n ∧ n ≤ 106751982 := by
 obtain ⟨b, h1, h2, h3⟩ := zea n
 rw [h] at h1
 cases h1
 obtain ⟨y, m, d, _, _, e3, e4, e5, e6⟩ := h3 rfl
 obtain ⟨a1, a2⟩ := z1ev e3
 have j1 := ziv (-4712) (y + 4712).toNat
 have j2 := ziv (y + 1) (294276 - y).toNat
 rw [show (-4712 : Int) + ((y + 4712).toNat : Int) = y by omega] at j1
 rw [show y + 1 + ((294276 - y).toNat : Int) = 294277 by omega] at j2
 have k1 : jan1 (-4712) = -2451507 := by decide
 have k2 : jan1 294277 = 106751983 := by decide
 omega
theorem z17w {n : Int} (hin : z4p n = some (.bool true)) (u : Int) : zt4 0 n u = z6g 0 n u := by
 obtain ⟨r1, r2⟩ := zot hin
 obtain ⟨b, h1, h2, h3, _⟩ := z16h 0 n
 rw [zwi, z6p, h1, h2]
 simp only [Option.bind_some, zr]
 have c2 : zf2 0 0 = z3b 0 0 := by rw [z10x, zax]
 rw [c2, c_not, c_not]
 cases b with
 | false => rw [cond_false, cond_false]
 | true =>
 rw [cond_true, cond_true]
 by_cases u0 : u < 0
 ·rw [c_ltT u0, c_ltT u0]
 rw [c_ltF u0, c_ltF u0]
 by_cases u1 : 86400000000 < u
 ·rw [c_ltT u1, c_ltT u1]
 rw [c_ltF u1, c_ltF u1, zmf, z4v, c_not, c_eqT rfl, c_not, c_eqT rfl]
 rw [mul_s (by unfold In64; omega) (by unfold In64; omega), z15x (by unfold In64; omega)]
 simp only [Option.bind_some, tn0, tn1, zo]
 rw [c_eqT rfl, add_s (by unfold In64; omega) (by unfold In64; omega), z15x (by unfold In64; omega)]
 simp only [Option.bind_some, tn0, tn1, zo]
 rw [z10w, c_not, c_eqT rfl, zux, nsplit_s (by unfold In64; omega)]
 simp only [Option.bind_some, tn0, tn1, zo]
 have hA : (eqB 0 (-1) && (eqB (n * 86400000000 + u) 0 && true)) = false := rfl
 have hB : (eqB 0 1 && (eqB (n * 86400000000 + u) 0 && true)) = false := rfl
 rw [hA, hB, cond_false, cond_false, c_eqT rfl]
 by_cases ud : u = 86400000000
 ·subst ud
  rw [c_eqT rfl, w64 (by omega) (by omega), z2i, show (n * 86400000000 + 86400000000) / 86400000000 = n + 1 by omega]
  obtain ⟨c, i1, i2, _⟩ := zea (n + 1)
  rw [i1, i2]
  simp only [Option.bind_some, zr]
  rw [w64 (n := (n + 1) * 86400000000) (by omega) (by omega), w64 (n := (n + 1) * 86400000000 + 0) (by omega) (by omega), show (n + 1) * 86400000000 + 0 = n * 86400000000 + 86400000000 by omega]
 ·rw [c_eqF ud, z2i, show (n * 86400000000 + u) / 86400000000 = n by omega]
  obtain ⟨c, i1, i2, _⟩ := zea n
  rw [i1, i2]
  simp only [Option.bind_some, zr]
  rw [w64 (n := n * 86400000000) (by omega) (by omega), w64 (n := n * 86400000000 + u) (by omega) (by omega)]
def hitB (s : List UInt8) (k : Nat) : Bool := match k with
 | 0 => false
 | j + 1 => match s[j]?, s[j + 1]?, s[j + 2]? with
  | some a, some c, some b => (c == 84 || c == 116) && (digB a && digB b)
  | _, _, _ => false
def hitK (s : List UInt8) : Nat → Nat → Option Nat
 | 0, _ => none
 | j + 1, k => if hitB s k then some k else hitK s j (k + 1)
def cutO : List (List UInt8) → List (List UInt8)
 | [] => []
 | a :: r => match hitK a a.length 1 with
  | some k => a.take k :: a.drop (k + 1) :: r
  | none => a :: r
theorem z1el (s : List UInt8) (j : Nat) : hitB s (j + 1) = (match s[j]?, s[j + 1]?, s[j + 2]? with | some a, some c, some b => (c == 84 || c == 116) && (digB a && digB b) | _, _, _ => false) := rfl
theorem z1by {s : List UInt8} {k : Nat} (h : s.length ≤ k + 1) : hitB s k = false := by
 cases k with
 | zero => rfl
 | succ j =>
  rw [z1el, List.getElem?_eq_none (by omega : s.length ≤ j + 2)]
  cases s[j]? <;> cases s[j + 1]? <;> rfl
theorem z198 {s : List UInt8} : ∀ (j k : Nat), (∀ i, k ≤ i → hitB s i = false) → hitK s j k = none
 | 0, k, _ => rfl
 | j + 1, k, h => by rw [hitK, h k (Nat.le_refl _), if_neg (by simp), z198 j (k + 1) (fun i hi => h i (by omega))]
theorem z162 {s : List UInt8} {j k : Nat} (h : s.length ≤ k + 1) : hitK s j k = none := z198 j k (fun i hi => z1by (by omega))
theorem z197 {s : List UInt8} : ∀ (w j k : Nat), w ≤ j → (∀ t, t < w → hitB s (k + t) = false) → hitK s j k = hitK s (j - w) (k + w)
 | 0, j, k, _, _ => rfl
 | w + 1, j + 1, k, hw, h => by
  rw [hitK, show hitB s k = false from h 0 (by omega), if_neg (by simp), z197 w j (k + 1) (by omega) (fun t ht => by have := h (t + 1) (by omega); rw [show k + (t + 1) = k + 1 + t by omega] at this; exact this), show j + 1 - (w + 1) = j - w by omega, show k + 1 + w = k + (w + 1) by omega]
theorem hit_mid {s : List UInt8} {k : Nat} {a c b : UInt8} (h0 : s[k]? = some a) (h1 : s[k + 1]? = some c) (h2 : s[k + 2]? = some b) : hitB s (k + 1) = ((c == 84 || c == 116) && (digB a && digB b)) := by
 rw [z1el, h0, h1, h2]
theorem z196 {s : List UInt8} {k : Nat} {c : UInt8} (h : s[k]? = some c) (n1 : c ≠ 84) (n2 : c ≠ 116) : hitB s k = false := by
 cases k with
 | zero => rfl
 | succ j =>
  show (match s[j]?, s[j + 1]?, s[j + 2]? with | some a, some c, some b => (c == 84 || c == 116) && (digB a && digB b) | _, _, _ => false) = false
  rw [h]
  cases s[j]? <;> cases s[j + 2]? <;> simp [n1, n2]
theorem z10c {s : List UInt8} {k : Nat} (h : k < s.length) : ∃ c, s[k]? = some c := ⟨_, List.getElem?_eq_getElem h⟩
theorem dig_le (c : UInt8) {R : Type} (x y : R) : (bif leB 48 (c.toNat : Int) then (bif leB (c.toNat : Int) 57 then x else y) else y) = if digB c then x else y := by
 cases hd : digB c with
 | true =>
  have := (z6l c).1 hd
  rw [c_leT (by omega), c_leT (by omega), if_pos rfl]
 | false =>
  have : ¬ (48 ≤ c.toNat ∧ c.toNat ≤ 57) := by rw [← z6l, hd]; simp
  rw [if_neg (by simp)]
  by_cases h1 : 48 ≤ c.toNat
  ·rw [c_leT (by omega), c_leF (by omega)]
  ·rw [c_leF (by omega)]
theorem rcut_loop (x0 : List PV) (s : List UInt8) (hs : Sm s) : ∀ (j k : Nat), 1 ≤ k → s.length ≤ k + j → k + j ≤ s.length + 1 →
  z1b x0 s (k : Int) = match hitK s j k with | some i => z7z x0 s (i : Int) | none => some (.sl 1 x0) := by
 have hsl : s.length ≤ 10000000000 := hs
 intro j
 induction j with
 | zero =>
  intro k hk hl hu
  rw [z8v, c_ltF (by rw [w64 (by omega) (by omega)]; omega)]
  rfl
 | succ j ih =>
  intro k hk hl hu
  by_cases h : k + 1 < s.length
  ·obtain ⟨i, rfl⟩ : ∃ i, k = i + 1 := ⟨k - 1, by omega⟩
   obtain ⟨a, ha⟩ := z10c (s := s) (k := i) (by omega)
   obtain ⟨c, hc⟩ := z10c (s := s) (k := i + 1) (by omega)
   obtain ⟨b, hb⟩ := z10c (s := s) (k := i + 2) (by omega)
   have hn := ih (i + 1 + 1) (by omega) (by omega) (by omega)
   rw [z8v, w64 (n := ((i + 1 : Nat) : Int) + 1) (by omega) (by omega), w64 (n := ((i + 1 : Nat) : Int) - 1) (by omega) (by omega), show (((i + 1 : Nat) : Int) + 1) = ((i + 1 + 1 : Nat) : Int) by omega, show (((i + 1 : Nat) : Int) - 1) = ((i : Nat) : Int) by omega,
    c_ltT (by omega), zgl hc, zgl ha, zgl (show s[i + 1 + 1]? = some b from hb)]
   simp only [Option.bind_some]
   rw [dig_le a, dig_le b]
   rw [hitK, hit_mid ha hc hb, hn]
   by_cases c1 : c = 84
   ·subst c1
    rw [c_eqT (by rfl)]
    cases digB a <;> cases digB b <;> rfl
   ·rw [c_eqF (by exact zkk (b := 84) c1)]
    by_cases c2 : c = 116
    ·subst c2
     rw [c_eqT (by rfl)]
     cases digB a <;> cases digB b <;> rfl
    ·rw [c_eqF (by exact zkk (b := 116) c2)]
     have e : (c == 84 || c == 116) = false := by simp [c1, c2]
     rw [e]; rfl
  ·rw [z8v, c_ltF (by rw [w64 (by omega) (by omega)]; omega), z162 (by omega)]
theorem rcut_s (l : List (List UInt8)) (hl : ∀ p ∈ l, Sm p) (hn : l.length ≤ 10000000000) : ze5 (l.map PV.str) = some (.sl 1 ((cutO l).map PV.str)) := by
 rw [zp5]
 match l, hl, hn with
 | [], _, _ => rfl
 | a :: r, hl, hn =>
  rw [c_eqF (by simp; omega), rd0]
  simp only [Option.bind_some, z2j]
  have := rcut_loop ((a :: r).map PV.str) a (hl a (by simp)) a.length 1 (Nat.le_refl _) (by omega) (by omega)
  refine this.trans ?_
  show _ = some (PV.sl 1 ((match hitK a a.length 1 with | some k => a.take k :: a.drop (k + 1) :: r | none => a :: r).map PV.str))
  cases hk : hitK a a.length 1 with
  | none => rfl
  | some k =>
   simp only
   have hlt : k + 1 < a.length := by
    have : ∀ (j i : Nat), hitK a j i = some k → k + 1 < a.length := by
     intro j
     induction j with
     | zero => intro i h; cases h
     | succ j ih =>
      intro i h
      rw [hitK] at h
      split at h
      ·rename_i hh
       simp only [Option.some.injEq] at h
       subst h
       rcases Nat.lt_or_ge (i + 1) a.length with h' | h'
       ·exact h'
       ·rw [z1by h'] at hh; cases hh
      ·exact ih _ h
    exact this _ _ hk
   have hal : a.length ≤ 10000000000 := hl a (by simp)
   rw [zkd, zg7 (by omega), w64 (by omega) (by omega), show ((k : Int) + 1) = ((k + 1 : Nat) : Int) by omega, z8q (by omega)]
   simp only [Option.bind_some]
   have e1 : dropS ((a :: r).map PV.str) (1 : Int) = some (r.map PV.str) := by rw [show (1 : Int) = ((1 : Nat) : Int) from rfl, z8q (by simp)]; rfl
   rw [e1]
   simp only [Option.bind_some]
   rw [ze9 (by simp at hn ⊢; omega)]
   simp only [Option.bind_some]
   cases leN _ _ <;> rfl
theorem dig_s (c : UInt8) : zbi (c.toNat : Int) = some (.bool (digB c)) := by
 rw [z15h]
 cases hd : digB c with
 | true =>
  have := (z6l c).1 hd
  rw [c_leT (by omega)]; unfold leB; rw [decide_eq_true (by omega)]
 | false =>
  have : ¬ (48 ≤ c.toNat ∧ c.toNat ≤ 57) := by rw [← z6l, hd]; simp
  by_cases h1 : 48 ≤ c.toNat
  ·rw [c_leT (by omega)]; unfold leB; rw [decide_eq_false (by omega)]
  ·rw [c_leF (by omega)]
theorem lsTI {xs : List PV} {k : Nat} {l : List PV} (h : xs[k]? = some (.sl 1 l)) : rdI (EE.ti z6) xs (k : Int) = some (.sl 1 l) := by
 have e : EE.ti z6 = ⟨(EE.ti z6).d, 1, (EE.ti z6).bytes, (EE.ti z6).zero, [.slice 1]⟩ := by kernel_rfl
 have ha : (EE.ti z6).isAgg = false := by kernel_rfl
 unfold rdI
 rw [decide_eq_true (by omega), cond_true, Int.toNat_natCast]
 unfold rdT
 rw [h]
 have e1 : (EE.ti z6).size = 1 := by rw [e]
 have e2 : (EE.ti z6).leaves = [.slice 1] := by rw [e]
 simp only
 rw [e1, e2, ha]
 rfl
theorem concat_s (p q : List UInt8) (rs : List PV) (hn : rs.length ≤ 10000000000) : z67 [(.sl 1 [.str p, .str q]), (.sl 1 rs)] = some (.sl 1 (.str p :: .str q :: rs)) := by
 have t0 : rdI (EE.ti z6) [(PV.sl 1 [.str p, .str q]), (.sl 1 rs)] (0 : Int) = some (.sl 1 [.str p, .str q]) := lsTI (k := 0) rfl
 have t1 : rdI (EE.ti z6) [(PV.sl 1 [.str p, .str q]), (.sl 1 rs)] (1 : Int) = some (.sl 1 rs) := lsTI (k := 1) rfl
 have z : IntKind.i64.wrap ((0 : Int) - 0) = 0 := by rw [w64 (by omega) (by omega)]; rfl
 have two : ((([PV.str p, PV.str q] : List PV).length : Nat) : Int) = 2 := rfl
 have two' : ((([(PV.sl 1 [.str p, .str q]), (.sl 1 rs)] : List PV).length : Nat) : Int) = 2 := rfl
 rw [zek, two', z3w, c_ltT (by omega), t0]
 simp only [Option.bind_some, zbx]
 rw [two, w64 (n := 0 + 2) (by omega) (by omega), c_ltF (by omega), z79, w64 (n := 0 + 1) (by omega) (by omega), show (0 : Int) + 1 = 1 from rfl, show (0 : Int) + 2 = 2 from rfl,
  z3w, c_ltT (by omega), t1]
 simp only [Option.bind_some, zbx]
 rw [w64 (n := 2 + (rs.length : Int)) (by omega) (by omega), c_ltF (by omega), z79, w64 (n := 1 + 1) (by omega) (by omega), show (1 : Int) + 1 = 2 from rfl,
  z3w, c_ltF (by omega), c_ltF (by omega), z3t, z, w64 (n := 2 + (rs.length : Int) - 0) (by omega) (by omega), show 2 + (rs.length : Int) - 0 = ((2 + rs.length : Nat) : Int) by omega,
  c_ltT (by omega), decide_eq_true (by rw [show (2 : Int) ^ 46 = 70368744177664 from by decide]; omega), cond_true, Int.toNat_natCast,
  zbu, two', z3r, c_ltT (by omega), t0]
 simp only [Option.bind_some, zbx]
 have l2 : (([PV.str p, PV.str q] : List PV).length) = 2 := rfl
 rw [l2, Bool.true_and, c_lenT (by simp; try omega), w64 (n := 0 + 1) (by omega) (by omega), show (0 : Int) + 1 = 1 from rfl, z3r, c_ltT (by omega), t1]
 simp only [Option.bind_some, zbx]
 rw [Bool.true_and, c_lenT (by simp; try omega), w64 (n := 1 + 1) (by omega) (by omega), show (1 : Int) + 1 = 2 from rfl, z3r, c_ltF (by omega)]
 congr 2
 rw [Nat.add_comm 2 rs.length]
 simp
theorem wcut_c7 (a : List UInt8) (r : List (List UInt8)) (ha : Sm a) (hr : r.length ≤ 10000000000) (k : Nat) (hk : k < a.length) : zan ((a :: r).map PV.str) (k : Int) = some (.sl 1 ((a.take k :: a.drop (k + 1) :: r).map PV.str)) := by
 have hal : a.length ≤ 10000000000 := ha
 have e1 : dropS ((a :: r).map PV.str) (1 : Int) = some (r.map PV.str) := by rw [show (1 : Int) = ((1 : Nat) : Int) from rfl, z8q (by simp)]; rfl
 rw [zuk, rd0]
 simp only [Option.bind_some, z2j]
 rw [zg7 (by omega), w64 (by omega) (by omega), show ((k : Int) + 1) = ((k + 1 : Nat) : Int) by omega, z8q (by omega), e1]
 simp only [Option.bind_some]
 rw [concat_s _ _ _ (by simpa using hr)]
 rfl
theorem wcut_loop (a : List UInt8) (r : List (List UInt8)) (ha : Sm a) (hr : r.length ≤ 10000000000) : ∀ (n i j : Nat), a.length ≤ i + n → i ≤ a.length → a.length ≤ i + j →
  z1h ((a :: r).map PV.str) a i = match hitK a j i with | some k => some (.sl 1 ((a.take k :: a.drop (k + 1) :: r).map PV.str)) | none => some (.sl 1 ((a :: r).map PV.str)) := by
 have hal : a.length ≤ 10000000000 := ha
 intro n
 induction n with
 | zero =>
  intro i j h1 h2 h3
  rw [ze0, zmt (by omega), z162 (by omega)]
 | succ n ih =>
  intro i j h1 h2 h3
  by_cases hi : i < a.length
  ·obtain ⟨c, hc⟩ := z10c hi
   rw [ze0, ztg hi]
   have skip : ∀ w, 1 ≤ w → i + w ≤ a.length → (∀ t, t < w → hitB a (i + t) = false) → z1h ((a :: r).map PV.str) a (i + w) = match hitK a j i with | some k => some (.sl 1 ((a.take k :: a.drop (k + 1) :: r).map PV.str)) | none => some (.sl 1 ((a :: r).map PV.str)) := by
    intro w hw hwl hno
    rw [ih (i + w) (j - w) (by omega) hwl (by omega), ← z197 w j i (by omega) hno]
   by_cases hlo : c.toNat < 128
   ·have hdec := zcr hc hlo
    rw [hdec]
    simp only
    have body : ∀ (b : UInt8), c = b → (b = 84 ∨ b = 116) →
      (bif (Dv.ltB (0 : Int) ((i : Nat) : Int)) then ((Dv.rdI Dv.tiStr ((a :: r).map PV.str) (0 : Int)).bind fun v2 => (bif (Dv.ltB ((i : Nat) : Int) (Go.IntKind.wrap Go.IntKind.i64 ((((List.length (Dv.PV.toS v2)) : Nat) : Int) - (1 : Int)))) then ((Dv.rdI Dv.tiStr ((a :: r).map PV.str) (0 : Int)).bind fun v3 => ((Dv.atS (Dv.PV.toS v3) (Go.IntKind.wrap Go.IntKind.i64 (((i : Nat) : Int) - (1 : Int)))).bind fun v4 => ((zbi v4).bind fun v5 => (bif (Dv.PV.toB v5) then ((Dv.rdI Dv.tiStr ((a :: r).map PV.str) (0 : Int)).bind fun v6 => ((Dv.atS (Dv.PV.toS v6) (Go.IntKind.wrap Go.IntKind.i64 (((i : Nat) : Int) + (1 : Int)))).bind fun v7 => ((zbi v7).bind fun v8 => (bif (Dv.PV.toB v8) then (zan ((a :: r).map PV.str) ((i : Nat) : Int)) else (z1h ((a :: r).map PV.str) a (i + 1)))))) else (z1h ((a :: r).map PV.str) a (i + 1)))))) else (z1h ((a :: r).map PV.str) a (i + 1)))) else (z1h ((a :: r).map PV.str) a (i + 1))) =
      match hitK a j i with | some k => some (.sl 1 ((a.take k :: a.drop (k + 1) :: r).map PV.str)) | none => some (.sl 1 ((a :: r).map PV.str)) := by
     intro b hb hb2
     subst hb
     have no : hitB a i = false → z1h ((a :: r).map PV.str) a (i + 1) = _ := fun h => skip 1 (Nat.le_refl _) (by omega) (fun t ht => by rw [show t = 0 by omega]; exact h)
     rw [rd0]
     simp only [Option.bind_some, z2j]
     by_cases h0 : 0 < i
     ·rw [c_ltT (by omega), w64 (n := (a.length : Int) - 1) (by omega) (by omega)]
      by_cases h1 : i + 1 < a.length
      ·obtain ⟨q, rfl⟩ : ∃ q, i = q + 1 := ⟨i - 1, by omega⟩
       obtain ⟨x, hx⟩ := z10c (s := a) (k := q) (by omega)
       obtain ⟨y, hy⟩ := z10c (s := a) (k := q + 2) (by omega)
       have hm := hit_mid hx hc hy
       rw [c_ltT (by omega), w64 (n := ((q + 1 : Nat) : Int) - 1) (by omega) (by omega), w64 (n := ((q + 1 : Nat) : Int) + 1) (by omega) (by omega), show ((q + 1 : Nat) : Int) - 1 = (q : Int) by omega, show ((q + 1 : Nat) : Int) + 1 = ((q + 2 : Nat) : Int) by omega,
        zgl hx, zgl hy]
       simp only [Option.bind_some]
       rw [dig_s, dig_s]
       simp only [Option.bind_some, zr]
       have hcc : (c == 84 || c == 116) = true := by rcases hb2 with rfl | rfl <;> rfl
       rw [hcc, Bool.true_and] at hm
       cases hdx : digB x with
       | false => rw [cond_false]; exact no (by rw [hm, hdx]; rfl)
       | true =>
        rw [cond_true]
        cases hdy : digB y with
        | false => rw [cond_false]; exact no (by rw [hm, hdx, hdy]; rfl)
        | true =>
         rw [cond_true, wcut_c7 a r ha hr (q + 1) (by omega)]
         obtain ⟨j', rfl⟩ : ∃ j', j = j' + 1 := ⟨j - 1, by omega⟩
         rw [hitK, hm, hdx, hdy]; rfl
      ·rw [c_ltF (by omega)]
       exact no (z1by (by omega))
     ·rw [c_ltF (by omega)]
      exact no (by rw [show i = 0 by omega]; rfl)
    by_cases c1 : c = 84
    ·rw [c_eqT (by rw [c1]; rfl)]
     exact body 84 c1 (.inl rfl)
    ·rw [c_eqF (by exact zkk (b := 84) c1)]
     by_cases c2 : c = 116
     ·rw [c_eqT (by rw [c2]; rfl)]
      exact body 116 c2 (.inr rfl)
     ·rw [c_eqF (by exact zkk (b := 116) c2)]
      refine skip 1 (Nat.le_refl _) (by omega) (fun t ht => ?_)
      rw [show i + t = i by omega]
      exact z196 hc c1 c2
   ·obtain ⟨b1, _⟩ := zmd hc (by omega)
    obtain ⟨a1, a2, a3⟩ := z13y hc (by omega)
    rw [c_eqF (by omega), c_eqF (by omega)]
    refine skip _ a1 a2 (fun t ht => ?_)
    have hge : ∀ d, a[i + t]? = some d → 128 ≤ d.toNat := by
     intro d hd
     refine a3 d ?_
     rw [List.mem_iff_getElem?]
     exact ⟨t, by rw [List.getElem?_take, if_pos ht, List.getElem?_drop]; exact hd⟩
    obtain ⟨d, hd⟩ := z10c (s := a) (k := i + t) (by omega)
    have := hge d hd
    exact z196 hd (by rintro rfl; exact absurd this (by decide)) (by rintro rfl; exact absurd this (by decide))
  ·rw [ze0, zmt (by omega), z162 (by omega)]
theorem wcut_s (l : List (List UInt8)) (hl : ∀ p ∈ l, Sm p) (hn : l.length ≤ 10000000000) : zqf (l.map PV.str) = some (.sl 1 ((cutO l).map PV.str)) := by
 rw [z127]
 match l, hl, hn with
 | [], _, _ => rfl
 | a :: r, hl, hn =>
  rw [c_eqF (by simp; omega), rd0]
  simp only [Option.bind_some, z2j]
  refine (wcut_loop a r (hl a (by simp)) (by simp at hn; omega) a.length 0 (a.length + 1) (by omega) (Nat.zero_le _) (by omega)).trans ?_
  rw [hitK, show hitB a 0 = false from rfl, if_neg (by simp)]
  show _ = some (PV.sl 1 ((match hitK a a.length 1 with | some k => a.take k :: a.drop (k + 1) :: r | none => a :: r).map PV.str))
  cases hitK a a.length 1 <;> rfl
end Dv

namespace Dv
open Go
theorem z1ew (a : List UInt8) (r : List (List UInt8)) : cutO (a :: r) = match hitK a a.length 1 with | some k => a.take k :: a.drop (k + 1) :: r | none => a :: r := rfl
theorem cut_sm {l : List (List UInt8)} (hl : ∀ p ∈ l, Sm p) : ∀ p ∈ cutO l, Sm p := by
 intro p hp
 match l, hl, hp with
 | a :: r, hl, hp =>
  have ha : a.length ≤ 10000000000 := hl a (by simp)
  rw [z1ew] at hp
  split at hp
  ·rcases List.mem_cons.1 hp with rfl | hp
   ·exact zz4 ha _
   ·rcases List.mem_cons.1 hp with rfl | hp
    ·exact zue ha _
    ·exact hl p (by simp [hp])
  ·exact hl p hp
theorem z1ce (l : List (List UInt8)) : (cutO l).length ≤ l.length + 1 := by
 match l with
 | [] => exact Nat.zero_le _
 | a :: r =>
  rw [z1ew]
  split <;> simp
theorem z10d {l : List (List UInt8)} {o : Int} : ∀ p ∈ (z47 l o).2, p ∈ l := by
 intro p hp
 match l, hp with
 | [a, b], hp => simp only [z47] at hp; simp at hp; simp [hp]
 | a :: b :: c :: r, hp =>
  simp only [z47] at hp
  split at hp
  ·simp at hp; simp [hp]
  ·simp at hp; simp; rcases hp with h | h | h <;> simp [h]
theorem mkR_e (h m x u : Int) : ∃ t e, mkR h m x u = some (.tuple [.int .i64 t, .int .i64 e]) ∧ (e = 0 ∨ e = 10) := by
 unfold mkR
 rw [z9x]
 have c2 : z1e = some (.tuple [.int .i64 0, .int .i64 10]) := z88
 rw [c2]
 have c3 : ∃ t e, ((z9y h m x u).bind fun v => some (PV.tuple [.int .i64 (v.tnth 0).toI, .int .i64 (v.tnth 1).toI])) = some (PV.tuple [.int .i64 t, .int .i64 e]) ∧ (e = 0 ∨ e = 10) := by
  rw [z87]
  cases ltB 86400000000 _
  ·exact ⟨_, _, rfl, .inl rfl⟩
  ·exact ⟨_, _, rfl, .inr rfl⟩
 cases ltB h 0
 ·cases ltB 24 h
  ·cases ltB m 0
   ·cases ltB 59 m
    ·cases ltB x 0
     ·cases ltB 59 x
      ·cases ltB u 0
       ·cases ltB 999999 u
        ·exact c3
        ·exact ⟨_, _, rfl, .inr rfl⟩
       ·exact ⟨_, _, rfl, .inr rfl⟩
      ·exact ⟨_, _, rfl, .inr rfl⟩
     ·exact ⟨_, _, rfl, .inr rfl⟩
    ·exact ⟨_, _, rfl, .inr rfl⟩
   ·exact ⟨_, _, rfl, .inr rfl⟩
  ·exact ⟨_, _, rfl, .inr rfl⟩
 ·exact ⟨_, _, rfl, .inr rfl⟩
theorem time_e (s : List UInt8) (hs : Sm s) : ∃ t e, zjd s = some (.tuple [.int .i64 t, .int .i64 e]) ∧ z5b s = some (.tuple [.int .i64 t, .int .i64 e]) ∧ (e = 0 ∨ e = 10 ∨ e = 13) := by
 rw [time_s s hs, z1b5 s hs]
 cases timeO s with
 | none => exact ⟨0, 13, rfl, rfl, .inr (.inr rfl)⟩
 | some q =>
  obtain ⟨h, m, x, u⟩ := q
  obtain ⟨t, e, h1, h2⟩ := mkR_e h m x u
  exact ⟨t, e, h1, h1, by rcases h2 with h | h <;> simp [h]⟩
def litM : PV := .tuple [.agg [.int .i64 0, .int .i64 0], .str [], .int .i64 13]
def rngM (e : Int) : PV := .tuple [.agg [.int .i64 0, .int .i64 0], .str [], .int .i64 e]
theorem rm4 : z1v 0 0 = some litM := by rw [zgu]; rfl
theorem wm15 (i j : Int) : z9l i j = some litM := by rw [zs8]; rfl
theorem wm18 (i j : Int) : zce i j = some (rngM 10) := by rw [zs6]; rfl
theorem mom_fin (Y M D t e : Int) (he : e = 0 ∨ e = 10 ∨ e = 13) : z9m true t [] e 0 0 [] Y M D = z22 Y M D t [] e 0 0 := by
 rw [zcf, z6d, c_not, zjf, c_ltF (by simp), wm15]
 by_cases h13 : e = 13
 ·subst h13; rw [c_eqT rfl, c_eqT rfl]; rfl
 rw [c_eqF h13, c_eqF h13, zs7, wm18]
 obtain ⟨n, f, m1, m2, m3⟩ := make_s Y M D
 rw [m1, m2]
 simp only [Option.bind_some, tn0, tn1, zo, ag0, ag1]
 have n00 : (!eqB (0 : Int) 0) = false := rfl
 have n10 : (!eqB (10 : Int) 0) = true := rfl
 rcases m3 with ⟨rfl, hin⟩ | ⟨rfl, rfl⟩
 ·rw [n00, cond_false, cond_false]
  rcases he with rfl | rfl | rfl
  ·rw [n00, cond_false, cond_false, zs5, z17w hin]
  ·rw [n10, cond_true, cond_true]; rfl
  ·exact absurd rfl h13
 ·rw [n10, cond_true, cond_true]; rfl
theorem mom_rest (ok : Bool) (Y M D : Int) (l : List (List UInt8)) (hl : ∀ p ∈ l, Sm p) (t0 : DateO) (h0 : OkD t0 ok Y M D) :
  z2h false ok 0 0 (l.map PV.str) Y M D =
  (bif (!(Dv.PV.toB (Dv.PV.tnth (dateV t0 l) 4))) then (z1v (0 : Int) (0 : Int)) else (bif (Dv.ltB (2 : Int) (((List.length (Dv.PV.toL (Dv.PV.tnth (dateV t0 l) 3))) : Nat) : Int)) then (z1v (0 : Int) (0 : Int)) else (bif (Dv.ltB (1 : Int) (((List.length (Dv.PV.toL (Dv.PV.tnth (dateV t0 l) 3))) : Nat) : Int)) then (bif (!false) then (z1v (0 : Int) (0 : Int)) else (z41 false (Dv.PV.toI (Dv.PV.tnth (dateV t0 l) 0)) (Dv.PV.toI (Dv.PV.tnth (dateV t0 l) 1)) (Dv.PV.toI (Dv.PV.tnth (dateV t0 l) 2)) (Dv.PV.toL (Dv.PV.tnth (dateV t0 l) 3)) (0 : Int) (0 : Int))) else (z41 false (Dv.PV.toI (Dv.PV.tnth (dateV t0 l) 0)) (Dv.PV.toI (Dv.PV.tnth (dateV t0 l) 1)) (Dv.PV.toI (Dv.PV.tnth (dateV t0 l) 2)) (Dv.PV.toL (Dv.PV.tnth (dateV t0 l) 3)) (0 : Int) (0 : Int))))) := by
 unfold OkD at h0
 subst h0
 rw [rm4]
 cases ok with
 | false =>
  have e : (PV.tnth (dateV (if false = true then some (Y, M, D) else none) l) 4).toB = false := rfl
  rw [e, Bool.not_false, cond_true]
  have c14 : ∀ t z e r, z9m false t z e 0 0 r Y M D = some litM := by
   intro t z e r
   rw [zcf, c_not, zv5, wm15]
  have c13 : ∀ t e z r, z9n false t e z 0 0 r Y M D = some litM := by
   intro t e z r
   rw [zh6, c14]
  have c11 : ∀ t z e w b r, zcg false false t z e w b 0 0 r Y M D = some litM := by
   intro t z e w b r
   rw [z9a]
   cases b
   ·rw [cond_false, c14]
   ·rw [cond_true, cond_false, c13]
  match l, hl with
  | [], _ =>
   rw [za7, c_eqT (by simp), za6, cond_false, z9b, c_eqT (by simp), c11]
  | a :: r, hl =>
   have e1 : dropS ((a :: r).map PV.str) (1 : Int) = some (r.map PV.str) := by rw [show (1 : Int) = ((1 : Nat) : Int) from rfl, z8q (by simp)]; rfl
   rw [za7, c_eqF (by simp; omega), rd0, e1]
   simp only [Option.bind_some, z2j]
   rw [za6, cond_true, cond_false, z9b]
   match r with
   | [] => rw [c_eqT (by simp), c11]
   | b :: r =>
    have e1 : dropS ((b :: r).map PV.str) (1 : Int) = some (r.map PV.str) := by rw [show (1 : Int) = ((1 : Nat) : Int) from rfl, z8q (by simp)]; rfl
    rw [c_eqF (by simp; omega), rd0, e1]
    simp only [Option.bind_some, z2j]
    rw [c11]
 | true =>
  have b4 : (PV.tnth (dateV (if true = true then some (Y, M, D) else none) l) 4).toB = true := rfl
  have b3 : (PV.tnth (dateV (if true = true then some (Y, M, D) else none) l) 3).toL = l.map PV.str := rfl
  have b0 : (PV.tnth (dateV (if true = true then some (Y, M, D) else none) l) 0).toI = Y := rfl
  have b1 : (PV.tnth (dateV (if true = true then some (Y, M, D) else none) l) 1).toI = M := rfl
  have b2 : (PV.tnth (dateV (if true = true then some (Y, M, D) else none) l) 2).toI = D := rfl
  rw [b4, b3, b0, b1, b2, c_not, zjf]
  match l, hl with
  | [], _ =>
   rw [za7, c_eqT (by simp), za6, cond_false, z9b, c_eqT (by simp), z9a, cond_false,
    c_ltF (by simp), c_ltF (by simp), z28, c_ltF (by simp)]
   exact mom_fin Y M D 0 0 (.inl rfl)
  | a :: r, hl =>
   have e1 : dropS ((a :: r).map PV.str) (1 : Int) = some (r.map PV.str) := by rw [show (1 : Int) = ((1 : Nat) : Int) from rfl, z8q (by simp)]; rfl
   obtain ⟨t, e, t1, t2, t3⟩ := time_e a (hl a (by simp))
   rw [za7, c_eqF (by simp; omega), rd0, e1]
   simp only [Option.bind_some, z2j]
   rw [za6, cond_true, cond_true, zum, cond_false, zul, t1]
   simp only [Option.bind_some, tn0, tn1, zo]
   rw [z9b]
   match r with
   | [] =>
    rw [c_eqT (by simp), z9a, cond_false, c_ltF (by simp), c_ltF (by simp), z28, c_ltT (by simp), rd0]
    simp only [Option.bind_some, z2j]
    rw [cond_false, z6e, t2]
    simp only [Option.bind_some, tn0, tn1, zo]
    rw [c_eqF (by simp)]
    exact mom_fin Y M D t e t3
   | b :: r =>
    have e1 : dropS ((b :: r).map PV.str) (1 : Int) = some (r.map PV.str) := by rw [show (1 : Int) = ((1 : Nat) : Int) from rfl, z8q (by simp)]; rfl
    rw [c_eqF (by simp; omega), rd0, e1]
    simp only [Option.bind_some, z2j]
    rw [z9a, cond_true, cond_true, cond_false, zh6, zcf, c_not, zv5, wm15]
    by_cases h2 : 2 < (((a :: b :: r).map PV.str).length : Int)
    ·rw [c_ltT h2]
    ·rw [c_ltF h2, c_ltT (by simp; omega), Bool.not_false, cond_true]
theorem z1fe (i n u : Int) : ∃ i' u' e, z6g i n u = some (.tuple [.agg [.int .i64 i', .int .i64 u'], .int .i64 e]) := by
 obtain ⟨b, _, h2, _⟩ := z16h i n
 have c2 : z3b 0 0 = some (.tuple [.agg [.int .i64 0, .int .i64 0], .int .i64 1]) := zax 0 0
 have c9 : ∀ x y, ∃ i' u' e, z6q x y 0 0 = some (.tuple [.agg [.int .i64 i', .int .i64 u'], .int .i64 e]) := by
  intro x y
  obtain ⟨c, _, i2, _⟩ := zea y
  rw [z2i, i2]
  cases c
  ·exact ⟨_, _, _, rfl⟩
  ·exact ⟨_, _, _, rfl⟩
 rw [z6p, h2, c2]
 simp only [Option.bind_some, zr]
 cases b
 ·exact ⟨_, _, _, rfl⟩
 rw [Bool.not_true, cond_false]
 cases ltB u 0
 ·cases ltB 86400000000 u
  ·rw [cond_false, cond_false, z4v]
   cases eqB i 0
   ·exact ⟨_, _, _, rfl⟩
   ·rw [Bool.not_true, cond_false]
    cases eqB u 86400000000
    ·exact c9 _ _
    ·exact c9 _ _
  ·exact ⟨_, _, _, rfl⟩
 ·exact ⟨_, _, _, rfl⟩
theorem z1e4 (Y M D t e : Int) : ∃ v, z22 Y M D t [] e 0 0 = some v := by
 rw [z6d]
 obtain ⟨n, f, m1, m2, m3⟩ := make_s Y M D
 obtain ⟨i', u', e', hs⟩ := z1fe 0 n t
 rw [m2]
 simp only [Option.bind_some, tn0, tn1, zo, ag0, ag1]
 rw [hs]
 cases eqB e 13
 ·cases eqB f 0
  ·exact ⟨_, rfl⟩
  ·cases eqB e 0
   ·exact ⟨_, rfl⟩
   ·exact ⟨_, rfl⟩
 ·exact ⟨_, rfl⟩
theorem z1bp (s : List UInt8) (hs : s.length ≤ 1000000) (o : Int) (ho : 0 ≤ o ∧ o ≤ 2) : ∃ v, z35 ((z2z s).map PV.str) o false = some v := by
 have hs' : Sm s := by show s.length ≤ 10000000000; omega
 have hw := zn1 hs'
 have hn : (z2z s).length ≤ 1000001 := by
  have := zfy s []
  unfold z2z; omega
 have hc := cut_sm hw
 have hcn := z1ce (z2z s)
 rw [z8t, rcut_s _ hw (by omega)]
 simp only [Option.bind_some, zbx]
 generalize hL : cutO (z2z s) = L at hc hcn
 rw [z1dk _ hc (by omega)]
 simp only [Option.bind_some, tn0, tn1, zbx, zr]
 have hl' : ∀ p ∈ (eraO L).1, Sm p := fun p hp => hc p (z16g p hp)
 rw [z15j _ hl' _ o ho]
 simp only [Option.bind_some]
 have hf := fun p hp => hl' p (z10d (l := (eraO L).1) (o := o) p hp)
 generalize (z47 (eraO L).1 o).2 = l at hf
 rw [rm4]
 cases takeR (eraO L).2 (z47 (eraO L).1 o).1 with
 | none => exact ⟨litM, rfl⟩
 | some q =>
  obtain ⟨Y, M, D⟩ := q
  have b4 : (PV.tnth (dateV (some (Y, M, D)) l) 4).toB = true := rfl
  have b3 : (PV.tnth (dateV (some (Y, M, D)) l) 3).toL = l.map PV.str := rfl
  rw [b4, b3, c_not, zjf]
  match l, hf with
  | [], _ =>
   rw [c_ltF (by simp), c_ltF (by simp), z28, c_ltF (by simp)]
   exact z1e4 ..
  | [a], hf =>
   obtain ⟨t, e, t1, t2, t3⟩ := time_e a (hf a (by simp))
   rw [c_ltF (by simp), c_ltF (by simp), z28, c_ltT (by simp), rd0]
   simp only [Option.bind_some, z2j]
   rw [cond_false, z6e, t2]
   simp only [Option.bind_some, tn0, tn1, zo]
   rw [c_eqF (by simp)]
   exact z1e4 ..
  | a :: b :: r, hf =>
   by_cases h2 : 2 < (((a :: b :: r).map PV.str).length : Int)
   ·rw [c_ltT h2]; exact ⟨_, rfl⟩
   ·rw [c_ltF h2, c_ltT (by simp; omega), Bool.not_false, cond_true]; exact ⟨_, rfl⟩
theorem moment_s (s : List UInt8) (hs : s.length ≤ 1000000) (o : Int) (ho : 0 ≤ o ∧ o ≤ 2) : zqg s o false = z35 ((z2z s).map PV.str) o false := by
 have hs' : Sm s := by show s.length ≤ 10000000000; omega
 have hw := zn1 hs'
 have hn : (z2z s).length ≤ 1000001 := by
  have := zfy s []
  unfold z2z; omega
 have hc := cut_sm hw
 have hcn := z1ce (z2z s)
 rw [z129, z8t, zr9 s hs']
 simp only [Option.bind_some, zbx]
 rw [wcut_s _ hw (by omega), rcut_s _ hw (by omega)]
 simp only [Option.bind_some, zbx]
 generalize hL : cutO (z2z s) = L at hc hcn
 have he := wera_s L hc (by omega) (fun bc l => z7m o false bc 0 0 l)
 simp only at he
 rw [he, z1dk _ hc (by omega)]
 simp only [Option.bind_some, tn0, tn1, zbx, zr]
 have hl' : ∀ p ∈ (eraO L).1, Sm p := fun p hp => hc p (z16g p hp)
 obtain ⟨ok, Y, M, D, e1, e2⟩ := z1bo (eraO L).1 hl' (eraO L).2 o false 0 0
 rw [e1, z15j _ hl' _ o ho]
 simp only [Option.bind_some]
 exact mom_rest ok Y M D _ (fun p hp => hl' p (z10d p hp)) _ e2
theorem z194 {n y m d : Int} (h : okD y m d) (e : dayI y m d = n) (h1 : -4712 ≤ y) (h2 : y ≤ 294276) (n1 : -1000000 ≤ n) (n2 : n ≤ 1000000) : z4p n = some (.bool true) := by
 obtain ⟨y', m', d', p1, p2, p3⟩ := z1bd (n := n) (by omega) (by omega)
 obtain ⟨rfl, rfl, rfl⟩ := day_inj p2 h (p3.trans e.symm)
 have hc : canB n = true := by unfold canB; exact decide_eq_true (by omega)
 rw [zk9, zkj, z1ci, hc]
 simp only [Option.bind_some, zr]
 rw [Bool.not_true, cond_false, p1]
 simp only [Option.bind_some, tn0, tn1, tn2, tn3, zo]
 rw [c_eqT rfl, c_leT h1]
 unfold leB; rw [decide_eq_true h2]
theorem inside0 : z4p 0 = some (.bool true) := z194 (y := 2000) (m := 1) (d := 1) (by unfold okD; decide) (by decide) (by omega) (by omega) (by omega) (by omega)
theorem insideE : z4p (-10957) = some (.bool true) := z194 (y := 1970) (m := 1) (d := 1) (by unfold okD; decide) (by decide) (by omega) (by omega) (by omega) (by omega)
def stV (i u e : Int) : PV := .tuple [.agg [.int .i64 i, .int .i64 u], .int .i64 e]
theorem z1d7 {n : Int} (h : z4p n = some (.bool true)) : zt3 0 n = some (stV 0 (n * 86400000000) 0) := by
 obtain ⟨r1, r2⟩ := zot h
 obtain ⟨b, h1, h2, h3, _⟩ := z16h 0 n
 obtain ⟨c, i1, i2, _⟩ := zea n
 rw [h] at i1
 cases i1
 have hr : z8w 0 n = some (.bool true) := by rw [z98, c_eqT rfl, i2]; rfl
 rw [zwh, z17w h, z6p, hr]
 simp only [Option.bind_some, zr]
 rw [Bool.not_true, cond_false, c_ltF (by omega), c_ltF (by omega), z4v, c_not, c_eqT rfl, c_eqF (by omega), z2i, i2]
 simp only [Option.bind_some, zr]
 rw [Bool.not_true, cond_false, w64 (n := n * 86400000000) (by omega) (by omega), w64 (n := n * 86400000000 + 0) (by omega) (by omega), Int.add_zero]
 rfl
theorem z17u {k : Int} (h : k = 1 ∨ k = -1) : zt3 k 0 = some (stV k 0 0) := by
 have hr : zt5 k 0 = some (.bool true) := by rw [zwk]; rcases h with rfl | rfl <;> rfl
 rw [zwh, zwi, hr]
 simp only [Option.bind_some, zr]
 rw [Bool.not_true, cond_false, c_ltF (by omega), c_ltF (by omega), zmf, c_not, c_eqF (by omega)]
 rfl
theorem spc_cases (l : List (List UInt8)) : spcI l = 0 ∨ spcI l = 1 ∨ spcI l = -1 ∨ spcI l = 2 := by
 match l with
 | [] => exact .inl rfl
 | [a] =>
  rw [spc1]
  cases eqS (lowS a) infB <;> cases eqS (lowS a) ninfB <;> cases eqS (lowS a) epB <;> simp
 | _ :: _ :: _ => exact .inl rfl
theorem Stamp_s18 (s : List UInt8) (a o b : Int) : ∃ i u e, zok s a o b = some (stV i u e) ∧ z6f s a o b = some (stV i u e) := by
 have c2 : z4h 0 0 = some (stV 0 0 1) := zaw 0 0
 rw [z15i, zzk, zdq, c2]
 by_cases h1 : o < 0
 ·rw [c_ltT h1, c_ltT h1]; exact ⟨0, 0, 1, rfl, rfl⟩
 rw [c_ltF h1, c_ltF h1]
 by_cases h2 : 2 < o
 ·rw [c_ltT h2, c_ltT h2]; exact ⟨0, 0, 1, rfl, rfl⟩
 rw [c_ltF h2, c_ltF h2, zav]
 by_cases h3 : 2048 < (s.length : Int)
 ·rw [c_ltT h3, c_ltT h3]; exact ⟨0, 0, 13, rfl, rfl⟩
 rw [c_ltF h3, c_ltF h3]
 have hs : Sm s := by show s.length ≤ 10000000000; omega
 have hw := zn1 hs
 simp only [Option.bind_some, zo]
 rw [c_not, c_eqT rfl, z15d, zr9 s hs, z154 s hs]
 simp only [Option.bind_some, zbx]
 rw [zn0 _ hw, zug _ hw]
 simp only [Option.bind_some, zo]
 rcases spc_cases (z2z s) with hk | hk | hk | hk
 ·rw [hk]
  have e0 : PV.toI (PV.nth (PV.tnth (spcV 0) 0) 0) = 0 := rfl
  have e1 : PV.toI (PV.nth (PV.tnth (spcV 0) 0) 1) = 0 := rfl
  have e2 : PV.toB (PV.tnth (spcV 0) 1) = false := rfl
  rw [e0, e1, e2, z1d7 inside0]
  simp only [Option.bind_some, tn0, tn1, zr, cond_false]
  rw [c_eqF (by omega), c_not, c_eqT rfl, moment_s s (by omega) o ⟨by omega, by omega⟩]
  cases hm : z35 ((z2z s).map PV.str) o false with
  | none =>
   obtain ⟨v, hv⟩ : ∃ v, z35 ((z2z s).map PV.str) o false = some v := z1bp s (by omega) o ⟨by omega, by omega⟩
   rw [hv] at hm; cases hm
  | some v =>
   simp only [Option.bind_some]
   by_cases he : (PV.tnth v 2).toI = 0
   ·rw [c_not, c_eqT he]; exact ⟨_, _, _, rfl, rfl⟩
   ·rw [c_not, c_eqF he]; exact ⟨_, _, _, rfl, rfl⟩
 ·rw [hk]
  have e0 : PV.toI (PV.nth (PV.tnth (spcV 1) 0) 0) = 1 := rfl
  have e1 : PV.toI (PV.nth (PV.tnth (spcV 1) 0) 1) = 0 := rfl
  have e2 : PV.toB (PV.tnth (spcV 1) 1) = true := rfl
  rw [e0, e1, e2, z17u (.inl rfl)]
  exact ⟨1, 0, 0, rfl, rfl⟩
 ·rw [hk]
  have e0 : PV.toI (PV.nth (PV.tnth (spcV (-1)) 0) 0) = -1 := rfl
  have e1 : PV.toI (PV.nth (PV.tnth (spcV (-1)) 0) 1) = 0 := rfl
  have e2 : PV.toB (PV.tnth (spcV (-1)) 1) = true := rfl
  rw [e0, e1, e2, z17u (.inr rfl)]
  exact ⟨-1, 0, 0, rfl, rfl⟩
 ·rw [hk]
  have e0 : PV.toI (PV.nth (PV.tnth (spcV 2) 0) 0) = 0 := rfl
  have e1 : PV.toI (PV.nth (PV.tnth (spcV 2) 0) 1) = -10957 := rfl
  have e2 : PV.toB (PV.tnth (spcV 2) 1) = true := rfl
  rw [e0, e1, e2, z1d7 insideE]
  exact ⟨0, -946684800000000, 0, rfl, rfl⟩
end Dv

namespace Dv
open Go
def insB (n : Int) : Bool := decide (-2451507 ≤ n ∧ n ≤ 106751982)
theorem insB_s (n : Int) : z4p n = some (.bool (insB n)) := by
 unfold insB
 by_cases h : -2451507 ≤ n ∧ n ≤ 106751982
 ·rw [decide_eq_true h]
  obtain ⟨y, m, d, p1, p2, p3⟩ := z1bd (n := n) (by omega) (by omega)
  have hc : canB n = true := by unfold canB; exact decide_eq_true (by omega)
  obtain ⟨a1, a2⟩ := z1ev p2
  have k1 : jan1 (-4712) = -2451507 := by decide
  have k2 : jan1 294277 = 106751983 := by decide
  have y1 : -4712 ≤ y := by
   rcases Int.lt_or_le y (-4712) with hy | hy
   ·have j := ziv (y + 1) (-4712 - (y + 1)).toNat
    rw [show y + 1 + ((-4712 - (y + 1)).toNat : Int) = -4712 by omega] at j
    omega
   ·exact hy
  have y2 : y ≤ 294276 := by
   rcases Int.lt_or_le 294276 y with hy | hy
   ·have j := ziv 294277 (y - 294277).toNat
    rw [show (294277 : Int) + ((y - 294277).toNat : Int) = y by omega] at j
    omega
   ·exact hy
  rw [zk9, zkj, z1ci, hc]
  simp only [Option.bind_some, zr]
  rw [Bool.not_true, cond_false, p1]
  simp only [Option.bind_some, tn0, tn1, tn2, tn3, zo]
  rw [c_eqT rfl, c_leT y1]
  unfold leB; rw [decide_eq_true y2]
 ·rw [decide_eq_false h]
  obtain ⟨b, h1, _⟩ := zea n
  cases b with
  | false => exact h1
  | true => exact absurd (zot h1) h
def dayO (Y M D : Int) : Int × Int := if rightI Y M D = true ∧ insB (dayI Y M D) = true then (dayI Y M D, 0) else (0, 10)
theorem z1eb (y m d : Int) : zt6 y m d = some (.tuple [.agg [.int .i64 0, .int .i64 (dayO y m d).1], .int .i64 (dayO y m d).2]) ∧ z42 y m d = some (.tuple [.agg [.int .i64 0, .int .i64 (dayO y m d).1], .int .i64 (dayO y m d).2]) := by
 rw [z10y, zf4, z1ex, z1dl]
 simp only [Option.bind_some]
 unfold daysV dayO
 cases rightI y m d with
 | false =>
  rw [cond_false]
  simp only [tn0, tn1, zo]
  rw [zfx, c_not, c_eqF (by omega), c_not, c_eqF (by omega)]
  exact ⟨rfl, rfl⟩
 | true =>
  rw [cond_true]
  simp only [tn0, tn1, zo]
  obtain ⟨b, h1, h2, _⟩ := zea (dayI y m d)
  have hb := insB_s (dayI y m d)
  rw [h1] at hb
  simp only [Option.some.injEq, PV.bool.injEq] at hb
  rw [zfx, c_not, c_eqT rfl, c_not, c_eqT rfl, h1, h2, ← hb]
  simp only [Option.bind_some, zr, true_and]
  cases b <;> exact ⟨rfl, rfl⟩
abbrev DT := Int × Int × Int
def dtV (v : DT) : PV := .tuple [.agg [.int .i64 v.1, .int .i64 v.2.1], .int .i64 v.2.2]
def dateF (t : DateO) (r : List (List UInt8)) : DT := match t with
 | some (Y, M, D) => if r = [] then (0, dayO Y M D) else (0, 0, 13)
 | none => (0, 0, 13)
def dateW (l : List (List UInt8)) (o : Int) : DT :=
 if spcI l = 2 then (0, -10957, 0) else if spcI l = 0 then dateF (takeR (eraO l).2 (z47 (eraO l).1 o).1) (z47 (eraO l).1 o).2 else (spcI l, 0, 0)
def dateP (s : List UInt8) (o : Int) : DT := if o < 0 ∨ 2 < o then (0, 0, 1) else if 2048 < s.length then (0, 0, 13) else dateW (z2z s) o
theorem z10z (s : List UInt8) (a o b : Int) : zen s a o b = some (dtV (dateP s o)) ∧ zcv s a o b = some (dtV (dateP s o)) := by
 rw [z18d, zzk, zmi, zj4]
 unfold dateP
 by_cases h1 : o < 0
 ·rw [c_ltT h1, c_ltT h1, if_pos (.inl h1)]
  exact ⟨rfl, rfl⟩
 rw [c_ltF h1, c_ltF h1]
 by_cases h2 : 2 < o
 ·rw [c_ltT h2, c_ltT h2, if_pos (.inr h2)]
  exact ⟨rfl, rfl⟩
 rw [c_ltF h2, c_ltF h2, zj3, if_neg (by omega)]
 by_cases h3 : 2048 < (s.length : Int)
 ·rw [c_ltT h3, c_ltT h3, if_pos (by omega)]
  exact ⟨rfl, rfl⟩
 rw [c_ltF h3, c_ltF h3, if_neg (by omega)]
 have hs : Sm s := by show s.length ≤ 10000000000; omega
 have hw := zn1 hs
 have hn : (z2z s).length ≤ 10000000000 := words_len (by omega)
 simp only [Option.bind_some, zo]
 rw [c_not, c_eqT rfl, zr9 s hs, z154 s hs]
 simp only [Option.bind_some, zbx]
 rw [zn0 _ hw, zug _ hw]
 simp only [Option.bind_some, zo]
 unfold dateW
 generalize hk : spcI (z2z s) = k
 unfold spcV
 simp only [tn0, tn1, ag0, ag1, zr, zo]
 by_cases k2 : k = 2
 ·subst k2
  exact ⟨rfl, rfl⟩
 have hk2 : eqB k 2 = false := decide_eq_false k2
 rw [hk2, cond_false, cond_false, cond_false, if_neg k2]
 by_cases k0 : k = 0
 ·subst k0
  have e0 : (!eqB 0 0) = false := rfl
  rw [e0, cond_false, cond_false, if_pos rfl]
  have he := wera_s (z2z s) hw hn (fun bc l => z9p bc a o b 0 0 l)
  simp only at he
  rw [he, z1dk _ hw hn]
  simp only [Option.bind_some, tn0, tn1, zbx, zr]
  have hl' : ∀ p ∈ (eraO (z2z s)).1, Sm p := fun p hp => hw p (z16g p hp)
  obtain ⟨ok, Y, M, D, e1, e2⟩ := Date_take (eraO (z2z s)).1 hl' (eraO (z2z s)).2 o a b 0 0
  rw [e1, z15j _ hl' _ o (by omega)]
  unfold OkD at e2
  rw [e2, zx8, zx7]
  simp only [Option.bind_some]
  cases ok with
  | false => exact ⟨rfl, rfl⟩
  | true =>
   obtain ⟨m1, m2⟩ := z1eb Y M D
   have b4 : (dateV (some (Y, M, D)) (z47 (eraO (z2z s)).1 o).2).tnth 4 = .bool true := rfl
   have b3 : (dateV (some (Y, M, D)) (z47 (eraO (z2z s)).1 o).2).tnth 3 = .sl 1 ((z47 (eraO (z2z s)).1 o).2.map PV.str) := rfl
   have b0 : ((dateV (some (Y, M, D)) (z47 (eraO (z2z s)).1 o).2).tnth 0).toI = Y := rfl
   have b1 : ((dateV (some (Y, M, D)) (z47 (eraO (z2z s)).1 o).2).tnth 1).toI = M := rfl
   have b2 : ((dateV (some (Y, M, D)) (z47 (eraO (z2z s)).1 o).2).tnth 2).toI = D := rfl
   rw [if_pos rfl, b4, b3, b0, b1, b2, m1, m2]
   simp only [zr, zbx]
   rw [c_not, zjf]
   have hF : dateF (some (Y, M, D)) (z47 (eraO (z2z s)).1 o).2 = if (z47 (eraO (z2z s)).1 o).2 = [] then (0, dayO Y M D) else (0, 0, 13) := rfl
   rw [hF]
   by_cases hr : (z47 (eraO (z2z s)).1 o).2 = []
   ·rw [hr, c_ltF (by simp), if_pos rfl]; exact ⟨rfl, rfl⟩
   ·have : 0 < (z47 (eraO (z2z s)).1 o).2.length := List.length_pos_iff.2 hr
    rw [c_ltT (by simp; omega), if_neg hr]; exact ⟨rfl, rfl⟩
 ·rw [c_not, c_not, c_eqF k0, c_eqF k0, if_neg k0]
  exact ⟨rfl, rfl⟩
def mkO : Option (Int × Int × Int × Int) → Int × Int
 | some (h, m, x, u) => if (0 ≤ h ∧ h ≤ 24) ∧ (0 ≤ m ∧ m ≤ 59) ∧ (0 ≤ x ∧ x ≤ 59) ∧ (0 ≤ u ∧ u ≤ 999999) ∧ ((h * 3600 + m * 60 + x) * 1000000 + u ≤ 86400000000) then ((h * 3600 + m * 60 + x) * 1000000 + u, 0) else (0, 10)
 | none => (0, 13)
theorem mkR_p (h m x u : Int) : mkR h m x u = some (.tuple [.int .i64 (mkO (some (h, m, x, u))).1, .int .i64 (mkO (some (h, m, x, u))).2]) := by
 unfold mkR
 rw [z9x]
 have c2 : z1e = some (.tuple [.int .i64 0, .int .i64 10]) := z88
 rw [c2]
 show _ = some (PV.tuple [.int .i64 (if (0 ≤ h ∧ h ≤ 24) ∧ (0 ≤ m ∧ m ≤ 59) ∧ (0 ≤ x ∧ x ≤ 59) ∧ (0 ≤ u ∧ u ≤ 999999) ∧ ((h * 3600 + m * 60 + x) * 1000000 + u ≤ 86400000000) then ((h * 3600 + m * 60 + x) * 1000000 + u, (0 : Int)) else (0, 10)).1, .int .i64 (if (0 ≤ h ∧ h ≤ 24) ∧ (0 ≤ m ∧ m ≤ 59) ∧ (0 ≤ x ∧ x ≤ 59) ∧ (0 ≤ u ∧ u ≤ 999999) ∧ ((h * 3600 + m * 60 + x) * 1000000 + u ≤ 86400000000) then ((h * 3600 + m * 60 + x) * 1000000 + u, (0 : Int)) else (0, 10)).2])
 by_cases a1 : h < 0
 ·rw [c_ltT a1, if_neg (by omega)]; rfl
 rw [c_ltF a1]
 by_cases a2 : 24 < h
 ·rw [c_ltT a2, if_neg (by omega)]; rfl
 rw [c_ltF a2]
 by_cases a3 : m < 0
 ·rw [c_ltT a3, if_neg (by omega)]; rfl
 rw [c_ltF a3]
 by_cases a4 : 59 < m
 ·rw [c_ltT a4, if_neg (by omega)]; rfl
 rw [c_ltF a4]
 by_cases a5 : x < 0
 ·rw [c_ltT a5, if_neg (by omega)]; rfl
 rw [c_ltF a5]
 by_cases a6 : 59 < x
 ·rw [c_ltT a6, if_neg (by omega)]; rfl
 rw [c_ltF a6]
 by_cases a7 : u < 0
 ·rw [c_ltT a7, if_neg (by omega)]; rfl
 rw [c_ltF a7]
 by_cases a8 : 999999 < u
 ·rw [c_ltT a8, if_neg (by omega)]; rfl
 rw [c_ltF a8, z87, w64 (n := h * 3600) (by omega) (by omega), w64 (n := m * 60) (by omega) (by omega), w64 (n := h * 3600 + m * 60) (by omega) (by omega), w64 (n := h * 3600 + m * 60 + x) (by omega) (by omega),
  w64 (n := (h * 3600 + m * 60 + x) * 1000000) (by omega) (by omega), w64 (n := (h * 3600 + m * 60 + x) * 1000000 + u) (by omega) (by omega)]
 by_cases a9 : 86400000000 < (h * 3600 + m * 60 + x) * 1000000 + u
 ·rw [c_ltT a9, if_neg (by omega)]; rfl
 ·rw [c_ltF a9, if_pos (by omega)]; rfl
theorem time_p (s : List UInt8) (hs : Sm s) : z5b s = some (.tuple [.int .i64 (mkO (timeO s)).1, .int .i64 (mkO (timeO s)).2]) := by
 rw [z1b5 s hs]
 cases timeO s with
 | none => rfl
 | some q => obtain ⟨h, m, x, u⟩ := q; exact mkR_p h m x u
theorem mkO_rng (q : Option (Int × Int × Int × Int)) : 0 ≤ (mkO q).1 ∧ (mkO q).1 ≤ 86400000000 := by
 cases q with
 | none => exact ⟨by decide, by decide⟩
 | some q =>
  obtain ⟨h, m, x, u⟩ := q
  unfold mkO
  simp only
  split <;> simp <;> omega
def stF (n u : Int) : DT := if insB (if u = 86400000000 then n + 1 else n) = true then (0, n * 86400000000 + u, 0) else (0, 0, 10)
theorem stamp_p {n : Int} (h : insB n = true) {u : Int} (u0 : 0 ≤ u) (u1 : u ≤ 86400000000) : z6g 0 n u = some (dtV (stF n u)) := by
 have hin : z4p n = some (.bool true) := by rw [insB_s, h]
 obtain ⟨r1, r2⟩ := zot hin
 have ins : ∀ k, z45 k = some (.bool (insB k)) := by
  intro k
  obtain ⟨b, h1, h2, _⟩ := zea k
  rw [insB_s] at h1
  simp only [Option.some.injEq, PV.bool.injEq] at h1
  rw [h2, ← h1]
 rw [z6p, z98, c_eqT rfl, ins, h]
 simp only [Option.bind_some, zr]
 rw [Bool.not_true, cond_false, c_ltF (by omega), c_ltF (by omega), z4v, c_not, c_eqT rfl]
 unfold stF
 by_cases ud : u = 86400000000
 ·subst ud
  rw [c_eqT rfl, w64 (by omega) (by omega), z2i, ins, if_pos rfl]
  simp only [Option.bind_some, zr]
  rw [w64 (n := (n + 1) * 86400000000) (by omega) (by omega), w64 (n := (n + 1) * 86400000000 + 0) (by omega) (by omega), show (n + 1) * 86400000000 + 0 = n * 86400000000 + 86400000000 by omega]
  cases insB (n + 1) <;> rfl
 ·rw [c_eqF ud, z2i, ins, if_neg ud, h]
  simp only [Option.bind_some, zr]
  rw [w64 (n := n * 86400000000) (by omega) (by omega), w64 (n := n * 86400000000 + u) (by omega) (by omega)]
  rfl
def momF (Y M D : Int) (q : Int × Int) : DT := if q.2 = 13 then (0, 0, 13) else if (dayO Y M D).2 = 0 then (if q.2 = 0 then stF (dayO Y M D).1 q.1 else (0, 0, 10)) else (0, 0, 10)
def momW (t : DateO) (r : List (List UInt8)) : DT := match t, r with
 | some (Y, M, D), [] => momF Y M D (0, 0)
 | some (Y, M, D), [a] => momF Y M D (mkO (timeO a))
 | _, _ => (0, 0, 13)
def stampW (l : List (List UInt8)) (o : Int) : DT :=
 if spcI l = 2 then (0, -946684800000000, 0) else if spcI l = 0 then momW (takeR (eraO (cutO l)).2 (z47 (eraO (cutO l)).1 o).1) (z47 (eraO (cutO l)).1 o).2 else (spcI l, 0, 0)
def z1d8 (s : List UInt8) (o : Int) : DT := if o < 0 ∨ 2 < o then (0, 0, 1) else if 2048 < s.length then (0, 0, 13) else stampW (z2z s) o
def momV (v : DT) : PV := .tuple [.agg [.int .i64 v.1, .int .i64 v.2.1], .str [], .int .i64 v.2.2]
theorem dayO_ok {Y M D : Int} (h : (dayO Y M D).2 = 0) : insB (dayO Y M D).1 = true := by
 unfold dayO at h ⊢
 split
 ·rename_i h'; exact h'.2
 ·rename_i h'; rw [if_neg h'] at h; exact absurd h (by decide)
theorem dayO_e (Y M D : Int) : (dayO Y M D).2 = 0 ∨ (dayO Y M D).2 = 10 := by
 unfold dayO; split <;> simp
theorem mom17_p (Y M D : Int) (q : Int × Int) (h0 : 0 ≤ q.1) (h1 : q.1 ≤ 86400000000) (he : q.2 = 0 ∨ q.2 = 10 ∨ q.2 = 13) : z22 Y M D q.1 [] q.2 0 0 = some (momV (momF Y M D q)) := by
 obtain ⟨t, e⟩ := q
 simp only at h0 h1 he ⊢
 rw [z6d, (z1eb Y M D).2]
 unfold momF
 simp only [Option.bind_some, tn0, tn1, zo, ag0, ag1]
 have n00 : (!eqB (0 : Int) 0) = false := rfl
 have n10 : (!eqB (10 : Int) 0) = true := rfl
 rcases he with rfl | rfl | rfl
 ·rw [c_eqF (by omega), if_neg (by omega)]
  rcases dayO_e Y M D with hd | hd
  ·rw [hd, n00, cond_false, cond_false, if_pos rfl, if_pos rfl, stamp_p (dayO_ok hd) h0 h1]; rfl
  ·rw [hd, n10, cond_true, if_neg (by omega)]; rfl
 ·rw [c_eqF (by omega), if_neg (by omega)]
  rcases dayO_e Y M D with hd | hd
  ·rw [hd, n00, n10, cond_false, cond_true, if_pos rfl, if_neg (by omega)]; rfl
  ·rw [hd, n10, cond_true, if_neg (by omega)]; rfl
 ·rw [c_eqT rfl, if_pos rfl]; rfl
theorem mkO_e (q : Option (Int × Int × Int × Int)) : (mkO q).2 = 0 ∨ (mkO q).2 = 10 ∨ (mkO q).2 = 13 := by
 cases q with
 | none => exact .inr (.inr rfl)
 | some q =>
  obtain ⟨h, m, x, u⟩ := q
  unfold mkO
  simp only
  split <;> simp
theorem moment_p (s : List UInt8) (hs : s.length ≤ 1000000) (o : Int) (ho : 0 ≤ o ∧ o ≤ 2) : z35 ((z2z s).map PV.str) o false =
  some (momV (momW (takeR (eraO (cutO (z2z s))).2 (z47 (eraO (cutO (z2z s))).1 o).1) (z47 (eraO (cutO (z2z s))).1 o).2)) := by
 have hs' : Sm s := by show s.length ≤ 10000000000; omega
 have hw := zn1 hs'
 have hn : (z2z s).length ≤ 1000001 := by
  have := zfy s []
  unfold z2z; omega
 have hc := cut_sm hw
 have hcn := z1ce (z2z s)
 rw [z8t, rcut_s _ hw (by omega)]
 simp only [Option.bind_some, zbx]
 generalize hL : cutO (z2z s) = L at hc hcn
 rw [z1dk _ hc (by omega)]
 simp only [Option.bind_some, tn0, tn1, zbx, zr]
 have hl' : ∀ p ∈ (eraO L).1, Sm p := fun p hp => hc p (z16g p hp)
 rw [z15j _ hl' _ o ho]
 simp only [Option.bind_some]
 have hf := fun p hp => hl' p (z10d (l := (eraO L).1) (o := o) p hp)
 generalize (z47 (eraO L).1 o).2 = l at hf
 rw [rm4]
 cases takeR (eraO L).2 (z47 (eraO L).1 o).1 with
 | none => cases l <;> rfl
 | some q =>
  obtain ⟨Y, M, D⟩ := q
  have b4 : (PV.tnth (dateV (some (Y, M, D)) l) 4).toB = true := rfl
  have b3 : (PV.tnth (dateV (some (Y, M, D)) l) 3).toL = l.map PV.str := rfl
  have b0 : (PV.tnth (dateV (some (Y, M, D)) l) 0).toI = Y := rfl
  have b1 : (PV.tnth (dateV (some (Y, M, D)) l) 1).toI = M := rfl
  have b2 : (PV.tnth (dateV (some (Y, M, D)) l) 2).toI = D := rfl
  rw [b4, b3, b0, b1, b2, c_not, zjf]
  match l, hf with
  | [], _ =>
   rw [c_ltF (by simp), c_ltF (by simp), z28, c_ltF (by simp)]
   exact mom17_p Y M D (0, 0) (by omega) (by omega) (.inl rfl)
  | [a], hf =>
   rw [c_ltF (by simp), c_ltF (by simp), z28, c_ltT (by simp), rd0]
   simp only [Option.bind_some, z2j]
   rw [cond_false, z6e, time_p a (hf a (by simp))]
   simp only [Option.bind_some, tn0, tn1, zo]
   rw [c_eqF (by simp)]
   exact mom17_p Y M D (mkO (timeO a)) (mkO_rng _).1 (mkO_rng _).2 (mkO_e _)
  | a :: b :: r, hf =>
   by_cases h2 : 2 < (((a :: b :: r).map PV.str).length : Int)
   ·rw [c_ltT h2]; rfl
   ·rw [c_ltF h2, c_ltT (by simp; omega), Bool.not_false, cond_true]; rfl
theorem momW_e (t : DateO) (r : List (List UInt8)) : (momW t r).2.2 ≠ 0 → (momW t r).1 = 0 ∧ (momW t r).2.1 = 0 := by
 have hF : ∀ Y M D q, (momF Y M D q).2.2 ≠ 0 → (momF Y M D q).1 = 0 ∧ (momF Y M D q).2.1 = 0 := by
  intro Y M D q
  unfold momF stF
  split
  ·simp
  ·split
   ·split
    ·rename_i x
     cases insB (if q.1 = 86400000000 then (dayO Y M D).1 + 1 else (dayO Y M D).1) <;> simp
    ·simp
   ·simp
 match t, r with
 | some (Y, M, D), [] => exact hF _ _ _ _
 | some (Y, M, D), [a] => exact hF _ _ _ _
 | some (Y, M, D), _ :: _ :: _ => intro _; exact ⟨rfl, rfl⟩
 | none, [] => intro _; exact ⟨rfl, rfl⟩
 | none, _ :: _ => intro _; exact ⟨rfl, rfl⟩
theorem z17v (s : List UInt8) (a o b : Int) : zok s a o b = some (dtV (z1d8 s o)) ∧ z6f s a o b = some (dtV (z1d8 s o)) := by
 obtain ⟨i, u, e, e1, e2⟩ := Stamp_s18 s a o b
 suffices h : z6f s a o b = some (dtV (z1d8 s o)) by
  refine ⟨?_, h⟩
  rw [e1, ← e2, h]
 clear e1 e2
 rw [zdq]
 unfold z1d8
 have c2 : z4h 0 0 = some (stV 0 0 1) := zaw 0 0
 rw [c2]
 by_cases h1 : o < 0
 ·rw [c_ltT h1, if_pos (.inl h1)]; rfl
 rw [c_ltF h1]
 by_cases h2 : 2 < o
 ·rw [c_ltT h2, if_pos (.inr h2)]; rfl
 rw [c_ltF h2, zav, if_neg (by omega)]
 by_cases h3 : 2048 < (s.length : Int)
 ·rw [c_ltT h3, if_pos (by omega)]; rfl
 rw [c_ltF h3, if_neg (by omega)]
 have hs : Sm s := by show s.length ≤ 10000000000; omega
 have hw := zn1 hs
 rw [z154 s hs]
 simp only [Option.bind_some, zbx]
 rw [zug _ hw]
 simp only [Option.bind_some, zo]
 unfold stampW
 by_cases k2 : spcI (z2z s) = 2
 ·rw [k2, c_eqT rfl, if_pos rfl]; rfl
 rw [c_eqF k2, if_neg k2]
 by_cases k0 : spcI (z2z s) = 0
 ·rw [k0, c_not, c_eqT rfl, if_pos rfl, moment_p s (by omega) o ⟨by omega, by omega⟩]
  simp only [Option.bind_some]
  generalize hv : momW _ _ = v
  have hve := hv ▸ momW_e _ _
  have v2 : (PV.tnth (momV v) 2).toI = v.2.2 := rfl
  rw [v2]
  by_cases he : v.2.2 = 0
  ·rw [c_not, c_eqT he]
   show some (dtV (v.1, v.2.1, 0)) = some (dtV v)
   rw [← he]
  ·obtain ⟨g1, g2⟩ := hve he
   rw [c_not, c_eqF he]
   show some (dtV (0, 0, v.2.2)) = some (dtV v)
   have : v = (0, 0, v.2.2) := by rw [← g1]; exact Prod.ext rfl (Prod.ext (by rw [g1, g2]) rfl)
   rw [← this]
 ·rw [c_not, c_eqF k0, if_neg k0]; rfl
end Dv

namespace Dv
open Go
def dgN (n : Nat) : UInt8 := UInt8.ofNat (48 + n % 10)
def digC : Nat → Nat → Nat → List UInt8
 | 0, _, _ => []
 | f + 1, n, m => if n = 0 ∧ m = 0 then [] else digC f (n / 10) (m - 1) ++ [dgN n]
def digN (n : Nat) : List UInt8 := digC 20 n 1
def revD : Nat → Nat → List UInt8
 | 0, u => [dgN u]
 | f + 1, u => if u < 10 then [dgN u] else dgN u :: revD f (u / 10)
def decI (a : Int) : List UInt8 := if a < 0 then 45 :: digN (-a).toNat else digN a.toNat
def twoN (n : Nat) : List UInt8 := digC 20 n 2
end Dv

namespace Dv
open Go
def stripZ : List UInt8 → List UInt8
 | [] => []
 | c :: r => if stripZ r = [] ∧ c = 48 then [] else c :: stripZ r
def endF : Nat → Nat → List UInt8 → Nat
 | e, _, [] => e
 | e, i, c :: r => endF (if c = 48 then e else i + 1) (i + 1) r
def digB0 (c : UInt8) : Prop := 48 ≤ c.toNat ∧ c.toNat ≤ 57
def fracN (u : Nat) : List UInt8 := if u = 0 ∨ 999999 < u then [] else 46 :: stripZ (digC 20 u 6)
def textN (t : Nat) : List UInt8 := twoN (t / 3600000000) ++ (58 :: (twoN (t / 60000000 % 60) ++ (58 :: (twoN (t / 1000000 % 60) ++ fracN (t % 1000000)))))
def longI (a : Int) : List UInt8 := if a < 0 then 45 :: textN (-a).toNat else textN a.toNat
end Dv

namespace Dv
open Go
def totL : List (List UInt8) → Nat
 | [] => 0
 | s :: l => s.length + totL l
def joinB (sep : List UInt8) : List (List UInt8) → List UInt8
 | [] => []
 | [a] => a
 | a :: b :: r => a ++ (sep ++ joinB sep (b :: r))
def tailB (sep : List UInt8) : List (List UInt8) → List UInt8
 | [] => []
 | a :: r => sep ++ (a ++ tailB sep r)
def fullL (l : List (List UInt8)) : List (List UInt8) := l.filter fun s => !eqS s []
end Dv

namespace Dv
open Go
abbrev InS (n : Int) : Prop := -9223372036854775807 ≤ n ∧ n ≤ 9223372036854775807
def spanR (i m d u : Int) : Bool :=
 if i = 0 then decide (-2147483647 ≤ m ∧ m ≤ 2147483647 ∧ -2147483647 ≤ d ∧ d ≤ 2147483647 ∧ -9223372036854775807 ≤ u ∧ u ≤ 9223372036854775807) else decide ((i = -1 ∨ i = 1) ∧ m = 0 ∧ d = 0 ∧ u = 0)
def styleR (a b c : Int) : Bool := decide (0 ≤ a ∧ a ≤ 1 ∧ 0 ≤ b ∧ b ≤ 2 ∧ 0 ≤ c ∧ c ≤ 2)
theorem neg_ok {u : Int} (h1 : -9223372036854775808 ≤ u) (h2 : u ≤ 9223372036854775807) : ∃ n, z1bj u = some (.tuple [.int .i64 n, .int .i64 (if u = -9223372036854775808 then 10 else 0)]) := by
 rw [z1fp, z1fo]
 by_cases h : u = -9223372036854775808
 ·subst h
  refine ⟨0, ?_⟩
  kernel_rfl
 ·have e : IntKind.i64.wrap (0 - u) = -u := by rw [w64 (by omega) (by omega)]; omega
  refine ⟨-u, ?_⟩
  rw [e]
  have hb : (ltB (-u) 0 == ltB 0 u) = true := by
   unfold ltB
   by_cases hu : 0 < u
   ·rw [decide_eq_true hu, decide_eq_true (by omega)]; rfl
   ·rw [decide_eq_false hu, decide_eq_false (by omega)]; rfl
  rw [hb, if_neg h]
  rfl
theorem z1cs (n : Int) : zju n = some (.bool (decide (-2147483647 ≤ n ∧ n ≤ 2147483647))) := by
 rw [z122]
 unfold leB
 by_cases h1 : -2147483647 ≤ n <;> by_cases h2 : n ≤ 2147483647 <;> simp [h1, h2]
theorem right_s {i m d u : Int} (h1 : -9223372036854775808 ≤ u) (h2 : u ≤ 9223372036854775807) : zog i m d u = some (.bool (spanR i m d u)) := by
 rw [z14x]
 unfold spanR
 by_cases hi : i = 0
 ·obtain ⟨n, hn⟩ := neg_ok h1 h2
  rw [c_not, c_eqT hi, if_pos hi, hn, z1cs, z1cs]
  simp only [Option.bind_some, zr, tn1, zo]
  by_cases hm : -2147483647 ≤ m ∧ m ≤ 2147483647
  ·rw [decide_eq_true hm, cond_true]
   by_cases hd : -2147483647 ≤ d ∧ d ≤ 2147483647
   ·rw [decide_eq_true hd, cond_true]
    unfold eqB
    by_cases hu : u = -9223372036854775808
    ·simp [hu]
    ·have : -9223372036854775807 ≤ u := by omega
     simp [hu, hm, hd, this, h2]
   ·rw [decide_eq_false hd, cond_false, decide_eq_false (by omega)]
  ·rw [decide_eq_false hm, cond_false, decide_eq_false (by omega)]
 ·rw [c_not, c_eqF hi, if_neg hi]
  unfold eqB leB
  by_cases a1 : m = 0 <;> by_cases a2 : d = 0 <;> by_cases a3 : u = 0 <;> simp [a1, a2, a3]
  by_cases b1 : -1 ≤ i <;> by_cases b2 : i ≤ 1 <;> simp [b1, b2] <;> omega
def sgnB (a : Int) : List UInt8 := if a < 0 then [45] else [43]
def absI (a : Int) : Int := if a < 0 then -a else a
end Dv

namespace Dv
open Go
def unitB (n : Int) (name : List UInt8) (was : Int) : List UInt8 :=
 if n = 0 then [] else (if was < 0 ∧ 0 < n then [43] else []) ++ (decI n ++ (32 :: (name ++ (if n = 1 then [] else [115]))))
def nextW (n was : Int) : Int := if n = 0 then was else n
def timeB (u was : Int) : List UInt8 := if 0 < u ∧ was < 0 then 43 :: longI u else if u ≠ 0 ∨ was = 0 then longI u else []
def addW (t s : List UInt8) : List UInt8 := if s = [] then t else if t = [] then s else t ++ (32 :: s)
def yearN : List UInt8 := [121, 101, 97, 114]
def monN : List UInt8 := [109, 111, 110]
def dayN : List UInt8 := [100, 97, 121]
def pgB (m d u : Int) : List UInt8 :=
 addW (addW (addW (unitB (m.tdiv 12) yearN 0) (unitB (m.tmod 12) monN (m.tdiv 12))) (unitB d dayN (nextW (m.tmod 12) (m.tdiv 12)))) (timeB u (nextW d (nextW (m.tmod 12) (m.tdiv 12))))
end Dv

namespace Dv
open Go
theorem extIB : zai z71 EE.ext = some z5t := by kernel_rfl
theorem z184 (s : List UInt8) (c : UInt8) : z77 s (c.toNat : Int) = some (.int .i64 (Lib.indexByte s c)) := by
 rw [zbg, zte EE _ _ _ extIB]
 have e : z5t [.str s, .int .u8 (c.toNat : Int)] = some (.int .i64 (Lib.indexByte s c)) := by
  unfold z5t
  simp
 rw [e]; rfl
def clockN (n : Nat) : List UInt8 := digN (n / 3600000000) ++ (58 :: (twoN (n / 60000000 % 60) ++ (58 :: (twoN (n / 1000000 % 60) ++ fracN (n % 1000000)))))
def wordsH (m d u : Int) : List UInt8 :=
 sgnB m ++ (digN ((absI m).toNat / 12) ++ (45 :: (digN ((absI m).toNat % 12) ++ (32 :: (sgnB d ++ (digN (absI d).toNat ++ (32 :: (sgnB u ++ clockN (absI u).toNat))))))))
end Dv
