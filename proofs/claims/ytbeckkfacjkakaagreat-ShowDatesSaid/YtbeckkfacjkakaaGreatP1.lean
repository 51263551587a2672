/- The seat's proofs. -/
import Derived.Test.YtbeckkfacjkakaaGreatQ1
import Derived.Test.YtbeckkfacjkakaaGreatL3
import Derived.Test.YtbeckkfacjkakaaGreatQ2
import Derived.Laws.Bits64
import Derived.Test.YtbeckkfacjkakaaGreatL1
import Derived.Laws.RangeAny
import Derived.Lib.IndexLaws
set_option linter.unusedVariables false
set_option linter.unusedSimpArgs false
/- The seat's environment, checked; what its functions without bodies answer. -/
namespace Dv
open Go

theorem chkNames : namesChk EE.P.funcs.toList = true := by kernel_rfl
theorem chkTypes : tisChk EE.P 0 EE.tt = true := by kernel_rfl
theorem chkEqs : eqsChk EE = true := by kernel_rfl
theorem chkMt : allB (mtChk EE.P) EE.mt = true := by kernel_rfl
theorem chkOrders : EE.P.follows .mixedOrders = true := by kernel_rfl
theorem sameOk : ∀ g, memN g EE.same = true → ExtAt EE g Extern.AbiNoEscape.same := by
  intro g h
  have he : EE.same = [165] := rfl
  rw [he] at h
  simp only [memN, Bool.or_eq_true, Bool.or_false, beq_iff_eq, Bool.false_eq_true] at h
  subst h
  exact ⟨⟨(EE.P.funcs[165]?).getD default, by kernel_rfl, by kernel_rfl, by kernel_rfl, by kernel_rfl, by kernel_rfl⟩⟩
theorem mnzOk : ∀ g e, findN g EE.mnz = some e → ∃ ps t, EE.P.underlying t = some (.slice e) ∧ ExtAt EE g (Extern.BytealgMakeNoZero.makeNoZero ps #[t]) := by
  intro g e h
  have he : EE.mnz = [(166, 5)] := rfl
  rw [he] at h
  simp only [findN] at h
  cases h1 : (g == 166) with
  | true =>
    rw [h1] at h
    simp only [cond_true, Option.some.injEq] at h
    have := eq_of_beq h1
    subst this; subst h
    exact ⟨((EE.P.funcs[166]?).getD default).params, ((EE.P.funcs[166]?).getD default).resultTypes.getD 0 0, by kernel_rfl, ⟨⟨(EE.P.funcs[166]?).getD default, by kernel_rfl, by kernel_rfl, by kernel_rfl, by kernel_rfl, by kernel_rfl⟩⟩⟩
  | false =>
  rw [h1] at h
  simp only [cond_false] at h
  cases h
theorem envOk : EnvOk EE := envChk_ok (by unfold envChk; rw [chkNames, chkTypes, chkEqs, chkMt, chkOrders]; rfl) sameOk mnzOk
theorem extOk : ExtOk EE := by
  intro g m h args r hr
  right
  have he : EE.ext = [(172, extAdd64), (203, extIndexByte)] := rfl
  rw [he] at h
  simp only [findExt] at h
  cases h1 : (g == 172) with
  | true =>
    rw [h1] at h
    simp only [cond_true, Option.some.injEq] at h
    have := eq_of_beq h1
    subst this; subst h
    exact ext_add64 ⟨⟨(EE.P.funcs[172]?).getD default, by kernel_rfl, by kernel_rfl, by kernel_rfl, by kernel_rfl, by kernel_rfl⟩⟩ args r hr
  | false =>
  rw [h1] at h
  simp only [cond_false] at h
  cases h1 : (g == 203) with
  | true =>
    rw [h1] at h
    simp only [cond_true, Option.some.injEq] at h
    have := eq_of_beq h1
    subst this; subst h
    exact ext_indexByte ⟨⟨(EE.P.funcs[203]?).getD default, by kernel_rfl, by kernel_rfl, by kernel_rfl, by kernel_rfl, by kernel_rfl⟩⟩ args r hr
  | false =>
  rw [h1] at h
  simp only [cond_false] at h
  cases h
end Dv

/- Days of the calendar, as the program and the reference compute them. -/
namespace Dv
open Go

theorem i64min : IntKind.i64.min = -9223372036854775808 := rfl
theorem i64max : IntKind.i64.max = 9223372036854775807 := rfl
abbrev In64 (n : Int) : Prop := -9223372036854775808 ≤ n ∧ n ≤ 9223372036854775807

theorem emod_rng (a : Int) {b : Int} (hb : 0 < b) : 0 ≤ a % b ∧ a % b < b := ⟨Int.emod_nonneg a (by omega), Int.emod_lt_of_pos a hb⟩
theorem tmod_rng (a : Int) {b : Int} (hb : 0 < b) : -b < a.tmod b ∧ a.tmod b < b := by
  have h2 := emod_rng a hb
  rcases Int.lt_or_le a 0 with h | h
  · have h4 : a.tmod b = -((-a).tmod b) := by rw [Int.neg_tmod]; omega
    have h6 : (-a).tmod b = (-a) % b := tmod_pos (by omega)
    have := emod_rng (-a) hb
    omega
  · rw [tmod_pos h]; omega

theorem ref_mod {a b : Int} (hb : 0 < b) (hb2 : b ≤ 9223372036854775807) : computusref02_mod a b = some (.int .i64 (a % b)) := by
  rw [computusref02_mod_eq, ← tmod_floor hb]
  have := tmod_rng a hb
  rw [c_eqF (by omega)]
  by_cases h : a.tmod b < 0
  · rw [c_ltT h, if_pos h, w64 (by omega) (by omega)]
  · rw [c_ltF h, if_neg h]

theorem tdiv_rng {a b : Int} (ha : In64 a) (hb : 0 < b) : -9223372036854775808 ≤ a.tdiv b ∧ a.tdiv b ≤ 9223372036854775807 := by
  have h1 := Int.tmod_add_mul_tdiv a b
  have h2 := tmod_rng a hb
  rcases Int.lt_or_le a 0 with h | h
  · have h3 : a.tdiv b = -((-a) / b) := by rw [← tdiv_pos (by omega), Int.neg_tdiv]; omega
    have h4 : (-a) / b ≤ -a := Int.ediv_le_self b (by omega)
    have h5 : 0 ≤ (-a) / b := Int.ediv_nonneg (by omega) (by omega)
    omega
  · rw [tdiv_pos h]
    have h4 : a / b ≤ a := Int.ediv_le_self b h
    have h5 : 0 ≤ a / b := Int.ediv_nonneg h (by omega)
    omega

theorem ref_div {a b : Int} (ha : In64 a) (ha2 : -9223372036854775808 < a) (hb : 1 < b) : computusref02_div a b = some (.int .i64 (a / b)) := by
  rw [computusref02_div_eq, ← tdiv_floor (by omega : 0 < b)]
  have h1 := tdiv_rng ha (by omega : 0 < b)
  rw [c_eqF (by omega), c_eqF (by omega)]
  by_cases h : a.tmod b < 0
  · rw [c_ltT h, if_pos h, w64 h1.1 h1.2]
    have h3 : (if a.tmod b < 0 then a.tdiv b - 1 else a.tdiv b) = a / b := tdiv_floor (by omega)
    rw [if_pos h] at h3
    have h4 : a ≤ a / b * b + (b - 1) := by
      have := Int.emod_add_mul_ediv a b
      have := emod_rng a (by omega : 0 < b)
      rw [Int.mul_comm]; omega
    have h5 : -9223372036854775808 ≤ a.tdiv b - 1 := by
      have ha0 : a < 0 := by
        rcases Int.lt_or_le a 0 with h' | h'
        · exact h'
        · rw [tmod_pos h'] at h; have := emod_rng a (by omega : 0 < b); omega
      have : a.tdiv b = -((-a) / b) := by rw [← tdiv_pos (by omega), Int.neg_tdiv]; omega
      have h6 : (-a) / b ≤ -a := Int.ediv_le_self b (by omega)
      omega
    rw [w64 h5 (by omega)]
  · rw [c_ltF h, if_neg h, w64 h1.1 h1.2]

theorem civ_floor {a b : Int} (ha : In64 a) (ha2 : -9223372036854775808 < a) (hb : 1 < b) (hb2 : b ≤ 9223372036854775807) : civil_floor a b = some (.tuple [.int .i64 (a / b), .int .i64 (a % b)]) := by
  have hd := ref_div ha ha2 hb
  have hm := ref_mod (a := a) (by omega : 0 < b) hb2
  rw [computusref02_div_eq] at hd
  rw [computusref02_mod_eq] at hm
  rw [civil_floor_eq]
  rw [c_eqF (by omega)] at hm hd ⊢
  rw [c_eqF (by omega)] at hd ⊢
  cases h : ltB (a.tmod b) 0 <;> rw [h] at hm hd <;> simp only [cond_true, cond_false, Option.some.injEq, PV.int.injEq, true_and] at hm hd ⊢ <;> rw [hm, hd]

theorem ref_leap (y : Int) : computusref02_Leap y = some (.bool (leapI y)) := by
  rw [computusref02_Leap_eq, ref_mod (by omega) (by omega), ref_mod (by omega) (by omega), ref_mod (by omega) (by omega)]
  simp only [Option.bind_some, PV.toI, leapI]
  by_cases a4 : y % 4 = 0 <;> by_cases a1 : y % 100 = 0 <;> by_cases a0 : y % 400 = 0 <;> simp [a4, a1, a0, PV.toI, eqB]

theorem tmod_zero (a : Int) {b : Int} (hb : 0 < b) : a.tmod b = 0 ↔ a % b = 0 := by
  have h1 := tmod_floor (a := a) hb
  have h2 := tmod_rng a hb
  split at h1 <;> omega

theorem civ_leap (y : Int) : civil_Leap y = some (.bool (leapI y)) := by
  have h4 := tmod_zero y (by omega : (0 : Int) < 4)
  have h1 := tmod_zero y (by omega : (0 : Int) < 100)
  have h0 := tmod_zero y (by omega : (0 : Int) < 400)
  rw [civil_Leap_eq]
  by_cases a4 : y % 4 = 0 <;> by_cases a1 : y % 100 = 0 <;> by_cases a0 : y % 400 = 0 <;> simp [leapI, h4, h1, h0, a4, a1, a0, eqB]

theorem mcases {m : Int} (h1 : 1 ≤ m) (h2 : m ≤ 12) : m = 1 ∨ m = 2 ∨ m = 3 ∨ m = 4 ∨ m = 5 ∨ m = 6 ∨ m = 7 ∨ m = 8 ∨ m = 9 ∨ m = 10 ∨ m = 11 ∨ m = 12 := by omega

theorem ref_len {y m : Int} (h1 : 1 ≤ m) (h2 : m ≤ 12) : computusref02_Len y m = some (.int .i64 (lenI y m)) := by
  rw [computusref02_Len_eq]
  rcases mcases h1 h2 with rfl | rfl | rfl | rfl | rfl | rfl | rfl | rfl | rfl | rfl | rfl | rfl
  case inr.inl =>
    simp only [computusref02_Len_c10_eq, computusref02_Len_c15_eq, ref_leap, Option.bind_some, PV.toB]
    unfold lenI
    cases leapI y <;> rfl
  all_goals first | rfl | (simp only [computusref02_Len_c10_eq]; rfl)

theorem civ_len {y m : Int} (h1 : 1 ≤ m) (h2 : m ≤ 12) : civil_Len y m = some (.int .i64 (lenI y m)) := by
  rw [civil_Len_eq, c_ltF (by omega), c_ltF (by omega), civil_Len_c4_eq]
  rcases mcases h1 h2 with rfl | rfl | rfl | rfl | rfl | rfl | rfl | rfl | rfl | rfl | rfl | rfl
  case inr.inl =>
    simp only [civ_leap, Option.bind_some, PV.toB]
    unfold lenI
    cases leapI y <;> rfl
  all_goals rfl
/-! ### the day of a date -/
theorem ref_start_loop {y x : Int} (hy : -4800 ≤ y ∧ y ≤ 294500) : ∀ (j : Nat) (k : Int), 0 ≤ k → k + j = (y - 2000) % 400 → -3000000 ≤ x → x ≤ 108000000 →
    computusref02_start_c3 y (x + yearsI k) k = some (.int .i64 (x + yearsI ((y - 2000) % 400)))
  | 0, k, h0, hk, hx1, hx2 => by
    rw [computusref02_start_c3_eq, w64 (by omega) (by omega), ref_mod (by omega) (by omega)]
    simp only [Option.bind_some, PV.toI]
    rw [c_ltF (by omega)]
    congr 3
    rw [show k = (y - 2000) % 400 by omega]
  | j + 1, k, h0, hk, hx1, hx2 => by
    have hr := emod_rng (y - 2000) (by omega : (0 : Int) < 400)
    have hs := yearsI_succ h0 (by omega)
    have hy0 : 0 ≤ yearsI k ∧ yearsI k ≤ 146097 := by unfold yearsI; omega
    have ih := ref_start_loop (x := x) hy j (k + 1) (by omega) (by omega) hx1 hx2
    rw [computusref02_start_c3_eq, w64 (by omega) (by omega), ref_mod (by omega) (by omega)]
    simp only [Option.bind_some, PV.toI]
    rw [c_ltT (by omega), w64 (n := 2000 + k) (by omega) (by omega), ref_leap]
    simp only [Option.bind_some, PV.toB]
    rw [w64 (n := x + yearsI k + 365) (by omega) (by omega), w64 (n := k + 1) (by omega) (by omega)]
    cases hl : leapI (2000 + k) with
    | true =>
      rw [hl] at hs
      simp only [if_true] at hs
      rw [cond_true, w64 (by omega) (by omega), ← ih, hs]
      congr 1; omega
    | false =>
      rw [hl] at hs
      simp only [Bool.false_eq_true, if_false] at hs
      rw [cond_false, ← ih, hs]
      congr 1; omega

theorem ref_start {y : Int} (hy : -4800 ≤ y ∧ y ≤ 294500) : computusref02_start y = some (.int .i64 (jan1 y)) := by
  have hr := emod_rng (y - 2000) (by omega : (0 : Int) < 400)
  have hq : -17 ≤ (y - 2000) / 400 ∧ (y - 2000) / 400 ≤ 732 := by omega
  rw [computusref02_start_eq, w64 (by omega) (by omega), ref_div (by unfold In64; omega) (by omega) (by omega)]
  simp only [Option.bind_some, PV.toI]
  rw [w64 (by omega) (by omega)]
  have := ref_start_loop (y := y) (x := (y - 2000) / 400 * 146097) hy ((y - 2000) % 400).toNat 0 (by omega) (by omega) (by omega) (by omega)
  rw [yearsI_0, Int.add_zero] at this
  exact this

theorem ref_day_loop {y m x : Int} (h2 : m ≤ 12) : ∀ (j : Nat) (k : Int), 1 ≤ k → k + j = m → -4000000 ≤ x → x ≤ 109000000 →
    computusref02_day_c3 y m (x + monthsI y k) k = some (.int .i64 (x + monthsI y m))
  | 0, k, h0, hk, hx1, hx2 => by
    rw [computusref02_day_c3_eq, c_ltF (by omega), show k = m by omega]
  | j + 1, k, h0, hk, hx1, hx2 => by
    have hs := monthsI_succ (y := y) h0 (by omega : k ≤ 12)
    have hb := monthsI_bounds (y := y) h0 (by omega : k ≤ 12)
    have hl := lenI_range y k h0 (by omega)
    have ih := ref_day_loop (y := y) (x := x) h2 j (k + 1) (by omega) (by omega) hx1 hx2
    rw [computusref02_day_c3_eq, c_ltT (by omega), ref_len h0 (by omega)]
    simp only [Option.bind_some, PV.toI]
    rw [w64 (by omega) (by omega), w64 (by omega) (by omega), ← ih, hs]
    congr 1; omega

theorem ref_day {y m d : Int} (hy : -4800 ≤ y ∧ y ≤ 294500) (h1 : 1 ≤ m) (h2 : m ≤ 12) (hd : -1000 ≤ d ∧ d ≤ 1000) : computusref02_day y m d = some (.int .i64 (dayI y m d)) := by
  have hj := jan1_bounds hy.1 hy.2
  rw [computusref02_day_eq, ref_start hy]
  simp only [Option.bind_some, PV.toI]
  rw [w64 (n := jan1 y + d) (by omega) (by omega), w64 (by omega) (by omega)]
  have := ref_day_loop (y := y) (m := m) (x := jan1 y + d - 1) h2 (m - 1).toNat 1 (by omega) (by omega) (by omega) (by omega)
  rw [months_1, Int.add_zero] at this
  rw [this]
  unfold dayI
  congr 2; omega

theorem marchY_rng {y : Int} (hy : -4801 ≤ y ∧ y ≤ 294500) : -3000000 ≤ y / 400 * 146097 ∧ y / 400 * 146097 ≤ 108000000 ∧ 0 ≤ y % 400 ∧ y % 400 ≤ 399 ∧ 0 ≤ y % 400 / 4 ∧ y % 400 / 4 ≤ 99 ∧ 0 ≤ y % 400 / 100 ∧ y % 400 / 100 ≤ 3 := by
  refine ⟨?_, ?_, ?_, ?_, ?_, ?_, ?_, ?_⟩ <;> omega

theorem civ_day_c3 {y m d : Int} (hy : -4801 ≤ y ∧ y ≤ 294500) (hm : 3 ≤ m ∧ m ≤ 14) (hd : -1000 ≤ d ∧ d ≤ 1000) : civil_day_c3 y m d = some (.int .i64 (marchY y + (153 * (m - 3) + 2) / 5 + d - 1 - 730425)) := by
  have hr := marchY_rng hy
  have h5 : 0 ≤ (153 * (m - 3) + 2) / 5 ∧ (153 * (m - 3) + 2) / 5 ≤ 400 := by omega
  rw [civil_day_c3_eq, civ_floor (by unfold In64; omega) (by omega) (by omega) (by omega)]
  simp only [Option.bind_some, PV.tnth, nthD, PV.toI]
  rw [tdiv_pos (a := y % 400) (by omega), tdiv_pos (a := y % 400) (by omega), w64 (n := m - 3) (by omega) (by omega), w64 (n := 153 * (m - 3)) (by omega) (by omega), w64 (n := 153 * (m - 3) + 2) (by omega) (by omega), tdiv_pos (a := 153 * (m - 3) + 2) (by omega)]
  unfold marchY
  generalize y / 400 * 146097 = a at *
  generalize y % 400 = b at *
  generalize b / 4 = c at *
  generalize b / 100 = e at *
  generalize (153 * (m - 3) + 2) / 5 = f at *
  rw [w64 (n := a) (by omega) (by omega), w64 (n := b * 365) (by omega) (by omega), w64 (n := c) (by omega) (by omega), w64 (n := e) (by omega) (by omega), w64 (n := f) (by omega) (by omega),
    w64 (n := a + b * 365) (by omega) (by omega), w64 (n := a + b * 365 + c) (by omega) (by omega), w64 (n := a + b * 365 + c - e) (by omega) (by omega), w64 (n := a + b * 365 + c - e + f) (by omega) (by omega),
    w64 (n := a + b * 365 + c - e + f + d) (by omega) (by omega), w64 (n := a + b * 365 + c - e + f + d - 1) (by omega) (by omega), w64 (by omega) (by omega)]

theorem civ_day {y m d : Int} (hy : -4800 ≤ y ∧ y ≤ 294500) (h1 : 1 ≤ m) (h2 : m ≤ 12) (hd : -1000 ≤ d ∧ d ≤ 1000) : civil_day y m d = some (.int .i64 (dayI y m d)) := by
  have hm := march_day (y := y) (d := d) h1 h2
  rw [civil_day_eq]
  by_cases h : m ≤ 2
  · rw [c_leT h, w64 (by omega) (by omega), w64 (by omega) (by omega), civ_day_c3 (by omega) (by omega) hd]
    rw [if_pos h, if_pos h] at hm
    rw [hm]
  · rw [c_leF h, civ_day_c3 (by omega) (by omega) hd]
    rw [if_neg h, if_neg h] at hm
    rw [hm]

/-- Can a date be? -/
def rightI (y m d : Int) : Bool := decide (-4718 ≤ y ∧ y ≤ 294282 ∧ 1 ≤ m ∧ m ≤ 12 ∧ 1 ≤ d ∧ d ≤ lenI y m)

theorem ref_right (y m d : Int) : computusref02_Right y m d = some (.bool (rightI y m d)) := by
  rw [computusref02_Right_eq]
  unfold rightI
  by_cases a : -4718 ≤ y <;> by_cases b : y ≤ 294282 <;> by_cases c : 1 ≤ m <;> by_cases e : m ≤ 12 <;> by_cases f : 1 ≤ d <;> simp [a, b, c, e, f, leB]
  rw [ref_len c e]; rfl

theorem civ_right (y m d : Int) : civil_Right y m d = some (.bool (rightI y m d)) := by
  rw [civil_Right_eq]
  unfold rightI
  by_cases a : -4718 ≤ y <;> by_cases b : y ≤ 294282 <;> by_cases f : 1 ≤ d <;> simp [a, b, f, leB]
  by_cases c : 1 ≤ m <;> by_cases e : m ≤ 12
  · rw [civ_len c e]; simp [c, e]; rfl
  all_goals
    have hz : civil_Len y m = some (.int .i64 0) := by
      rw [civil_Len_eq]
      by_cases hm : m < 1
      · rw [c_ltT hm, civil_Len_c3_eq]
      · rw [c_ltF hm, c_ltT (by omega), civil_Len_c3_eq]
    rw [hz]
    simp [c, e, PV.toI]
    try exact decide_eq_false (by omega)

def daysV (y m d : Int) : PV := bif rightI y m d then .tuple [.int .i64 (dayI y m d), .int .i64 0] else .tuple [.int .i64 0, .int .i64 10]

theorem ref_days (y m d : Int) : computusref02_Days y m d = some (daysV y m d) := by
  rw [computusref02_Days_eq, ref_right]
  unfold daysV
  simp only [Option.bind_some, PV.toB]
  cases h : rightI y m d with
  | false => rfl
  | true =>
    have := of_decide_eq_true h
    have hl := lenI_range y m this.2.2.1 this.2.2.2.1
    rw [ref_day (by omega) (by omega) (by omega) (by omega)]; rfl

theorem civ_days (y m d : Int) : civil_Days y m d = some (daysV y m d) := by
  rw [civil_Days_eq, civ_right]
  unfold daysV
  simp only [Option.bind_some, PV.toB]
  cases h : rightI y m d with
  | false => rfl
  | true =>
    have := of_decide_eq_true h
    have hl := lenI_range y m this.2.2.1 this.2.2.2.1
    rw [civ_day (by omega) (by omega) (by omega) (by omega)]; rfl

theorem ref_weekday (n : Int) : computusref02_Weekday n = some (.int .i64 (wkI n)) := by
  have := emod_rng n (by omega : (0 : Int) < 7)
  rw [computusref02_Weekday_eq, ref_mod (by omega) (by omega)]
  simp only [Option.bind_some, PV.toI]
  rw [w64 (by omega) (by omega), ref_mod (by omega) (by omega)]
  rfl

theorem civ_weekday {n : Int} (h : In64 n) (h2 : -9223372036854775808 < n) : civil_Weekday n = some (.int .i64 (wkI n)) := by
  have := emod_rng n (by omega : (0 : Int) < 7)
  rw [civil_Weekday_eq, civ_floor h h2 (by omega) (by omega)]
  simp only [Option.bind_some, PV.tnth, nthD, PV.toI]
  rw [w64 (by omega) (by omega), tmod_pos (by omega)]
  rfl
end Dv

/- Whole numbers with their limits, as the program reckons with them. -/
namespace Dv
open Go

theorem shr32 {a : Int} : shrI .u64 a 32 = a / 4294967296 := by
  unfold shrI
  have : (min (32 : Int).toNat IntKind.u64.bits) = 32 := rfl
  rw [this]
  have h2 : ((2 : Int) ^ 32) = 4294967296 := by decide
  rw [h2, Int.fdiv_eq_ediv_of_nonneg _ (by omega)]

theorem and32 {a : Int} (h0 : 0 ≤ a) (h1 : a < 18446744073709551616) : andI .u64 a 4294967295 = a % 4294967296 := by
  unfold andI
  obtain ⟨n, rfl⟩ := Int.eq_ofNat_of_zero_le h0
  have hb : IntKind.u64.bits = 64 := rfl
  have e : (BitVec.ofInt IntKind.u64.bits (n : Int) &&& BitVec.ofInt IntKind.u64.bits 4294967295).toNat = n % 4294967296 := by
    rw [hb, BitVec.toNat_and]
    have e1 : (BitVec.ofInt 64 (n : Int)).toNat = n := by
      rw [BitVec.toNat_ofInt]; omega
    have e2 : (BitVec.ofInt 64 4294967295).toNat = 2 ^ 32 - 1 := by decide
    rw [e1, e2, Nat.and_two_pow_sub_one_eq_mod]
  rw [e, IntKind.wrap_u64]
  omega

theorem mul64_s {a b : Int} (ha : 0 ≤ a ∧ a < 18446744073709551616) (hb : 0 ≤ b ∧ b < 18446744073709551616) :
    bits_Mul64 a b = some (.tuple [.int .u64 (a * b / 18446744073709551616), .int .u64 (a * b % 18446744073709551616)]) := by
  rw [bits_Mul64_eq]
  simp only [shr32, and32 ha.1 ha.2, and32 hb.1 hb.2]
  have hab : a * b = 18446744073709551616 * ((a / 4294967296) * (b / 4294967296)) + 4294967296 * ((a / 4294967296) * (b % 4294967296) + (a % 4294967296) * (b / 4294967296)) + (a % 4294967296) * (b % 4294967296) := by
    have gen : ∀ x1 x0 y1 y0 : Int, (4294967296 * x1 + x0) * (4294967296 * y1 + y0) = 18446744073709551616 * (x1 * y1) + 4294967296 * (x1 * y0 + x0 * y1) + x0 * y0 := by
      intro x1 x0 y1 y0
      have e1 : (4294967296 * x1) * (4294967296 * y1) = 18446744073709551616 * (x1 * y1) := by
        rw [Int.mul_assoc, Int.mul_left_comm x1, ← Int.mul_assoc]; rfl
      have e2 : (4294967296 * x1) * y0 = 4294967296 * (x1 * y0) := Int.mul_assoc _ _ _
      have e3 : x0 * (4294967296 * y1) = 4294967296 * (x0 * y1) := Int.mul_left_comm _ _ _
      rw [Int.add_mul, Int.mul_add, Int.mul_add, e1, e2, e3]
      omega
    have h := gen (a / 4294967296) (a % 4294967296) (b / 4294967296) (b % 4294967296)
    have ea : 4294967296 * (a / 4294967296) + a % 4294967296 = a := by omega
    have eb : 4294967296 * (b / 4294967296) + b % 4294967296 = b := by omega
    rw [ea, eb] at h
    exact h
  have x1 : 0 ≤ a / 4294967296 ∧ a / 4294967296 ≤ 4294967295 := by omega
  have x0 : 0 ≤ a % 4294967296 ∧ a % 4294967296 ≤ 4294967295 := by omega
  have y1 : 0 ≤ b / 4294967296 ∧ b / 4294967296 ≤ 4294967295 := by omega
  have y0 : 0 ≤ b % 4294967296 ∧ b % 4294967296 ≤ 4294967295 := by omega
  rw [hab]
  generalize a / 4294967296 = u1 at *
  generalize a % 4294967296 = u0 at *
  generalize b / 4294967296 = v1 at *
  generalize b % 4294967296 = v0 at *
  have bd : ∀ x y : Int, 0 ≤ x ∧ x ≤ 4294967295 → 0 ≤ y ∧ y ≤ 4294967295 → 0 ≤ x * y ∧ x * y ≤ 18446744065119617025 := by
    intro x y hx hy
    refine ⟨Int.mul_nonneg hx.1 hy.1, ?_⟩
    have := Int.mul_le_mul hx.2 hy.2 hy.1 (by omega)
    omega
  have bp := bd u0 v0 x0 y0
  have bq := bd u1 v0 x1 y0
  have br := bd u0 v1 x0 y1
  have bs := bd u1 v1 x1 y1
  clear hab
  generalize u0 * v0 = p at *
  generalize u1 * v0 = q at *
  generalize u0 * v1 = r at *
  generalize u1 * v1 = s at *
  have wu : ∀ n : Int, 0 ≤ n → n ≤ 18446744073709551615 → IntKind.u64.wrap n = n := fun n h1 h2 => wu64 h1 h2
  have hp0 : 0 ≤ p / 4294967296 ∧ p / 4294967296 ≤ 4294967294 := by omega
  have ht : 0 ≤ q + p / 4294967296 ∧ q + p / 4294967296 ≤ 18446744069414584319 := by omega
  rw [wu p (by omega) (by omega), wu q (by omega) (by omega), wu r (by omega) (by omega), wu s (by omega) (by omega), wu _ ht.1 (by omega), and32 ht.1 (by omega)]
  have hpq : ∃ t, t = q + p / 4294967296 := ⟨_, rfl⟩
  obtain ⟨t, hpq⟩ := hpq
  rw [← hpq] at ht ⊢
  have hw1 : 0 ≤ t % 4294967296 + r ∧ t % 4294967296 + r ≤ 18446744069414584320 := by omega
  have hs2 : 0 ≤ s + t / 4294967296 ∧ s + t / 4294967296 ≤ 18446744069414584320 := by omega
  rw [wu _ hw1.1 (by omega), wu _ hs2.1 (by omega)]
  have hw2 : 0 ≤ (t % 4294967296 + r) / 4294967296 ∧ (t % 4294967296 + r) / 4294967296 ≤ 4294967295 := by omega
  have key : (18446744073709551616 * s + 4294967296 * (q + r) + p) / 18446744073709551616 = s + t / 4294967296 + (t % 4294967296 + r) / 4294967296 := by
    have e1 : 4294967296 * (q + r) + p = 4294967296 * (t + r) + p % 4294967296 := by omega
    have e2 : t + r = 4294967296 * (t / 4294967296) + (t % 4294967296 + r) := by omega
    omega
  rw [key, IntKind.wrap_u64, IntKind.wrap_u64]
  congr 3
  rw [Int.emod_eq_of_lt (by omega) (by omega)]

theorem size_sL {a : Int} (h : In64 a) : num_size a = some (.int .u64 (if a < 0 then -a else a)) := by
  rw [num_size_eq]
  unfold In64 at h
  by_cases h0 : a < 0
  · rw [c_ltT h0, if_pos h0, IntKind.wrap_u64, IntKind.wrap_u64]
    congr 2; omega
  · rw [c_ltF h0, if_neg h0, IntKind.wrap_u64]
    congr 2; omega

/-- A number with its limits: itself, or that it is none. -/
def limV (n : Int) : PV := if In64 n then .tuple [.int .i64 n, .int .i64 0] else .tuple [.int .i64 0, .int .i64 10]

theorem rd1 (x y : Int) : rdT (tiInt .u64) [.int .u64 x, .int .u64 y] 1 0 = some (.int .u64 y) := rfl

theorem signed_sL (neg : Bool) {m : Int} (h0 : 0 ≤ m) (h1 : m < 340282366920938463463374607431768211456) :
    num_signed neg (m / 18446744073709551616) (m % 18446744073709551616) = some (limV (if neg then -m else m)) := by
  rw [num_signed_eq, num_signed_c5_eq, rd1, c_not]
  have hq : 0 ≤ m / 18446744073709551616 := by omega
  by_cases hz : m / 18446744073709551616 = 0
  · rw [c_eqT hz]
    have hm : m % 18446744073709551616 = m := by omega
    rw [hm]
    simp only [Option.bind_some, PV.toI]
    cases neg with
    | true =>
      simp only [cond_true, if_true]
      by_cases hl : m ≤ 9223372036854775808
      · rw [c_leT hl, IntKind.wrap_u64, IntKind.wrap_i64]
        unfold limV
        rw [if_pos (by unfold In64; omega)]
        congr 3
        congr 1
        omega
      · rw [c_leF hl]
        unfold limV
        rw [if_neg (by unfold In64; omega)]
    | false =>
      simp only [cond_false, Bool.false_eq_true, if_false]
      by_cases hl : 9223372036854775807 < m
      · rw [c_ltT hl]
        unfold limV
        rw [if_neg (by unfold In64; omega)]
      · rw [c_ltF hl, w64 (by omega) (by omega)]
        unfold limV
        rw [if_pos (by unfold In64; omega)]
  · rw [c_eqF hz]
    unfold limV
    rw [if_neg (by unfold In64; cases neg <;> simp <;> omega)]

theorem add_s {a b : Int} (ha : In64 a) (hb : In64 b) : num_Add a b = some (limV (a + b)) := by
  rw [num_Add_eq, c_not]
  unfold In64 at ha hb
  unfold limV
  by_cases h : In64 (a + b)
  · rw [if_pos h]
    unfold In64 at h
    rw [w64 h.1 h.2]
    have : (ltB a (a + b) == ltB 0 b) = true := by
      unfold ltB
      by_cases hb0 : 0 < b
      · rw [decide_eq_true hb0, decide_eq_true (by omega)]; rfl
      · rw [decide_eq_false hb0, decide_eq_false (by omega)]; rfl
    rw [this]; rfl
  · rw [if_neg h]
    unfold In64 at h
    have : (ltB a (IntKind.i64.wrap (a + b)) == ltB 0 b) = false := by
      unfold ltB
      rw [IntKind.wrap_i64]
      by_cases hb0 : 0 < b
      · rw [decide_eq_true hb0, decide_eq_false (by omega)]; rfl
      · rw [decide_eq_false hb0, decide_eq_true (by omega)]; rfl
    rw [this]; rfl

theorem sub_s {a b : Int} (ha : In64 a) (hb : In64 b) : num_Sub a b = some (limV (a - b)) := by
  rw [num_Sub_eq, c_not]
  unfold In64 at ha hb
  unfold limV
  by_cases h : In64 (a - b)
  · rw [if_pos h]
    unfold In64 at h
    rw [w64 h.1 h.2]
    have : (ltB (a - b) a == ltB 0 b) = true := by
      unfold ltB
      by_cases hb0 : 0 < b
      · rw [decide_eq_true hb0, decide_eq_true (by omega)]; rfl
      · rw [decide_eq_false hb0, decide_eq_false (by omega)]; rfl
    rw [this]; rfl
  · rw [if_neg h]
    unfold In64 at h
    have : (ltB (IntKind.i64.wrap (a - b)) a == ltB 0 b) = false := by
      unfold ltB
      rw [IntKind.wrap_i64]
      by_cases hb0 : 0 < b
      · rw [decide_eq_true hb0, decide_eq_false (by omega)]; rfl
      · rw [decide_eq_false hb0, decide_eq_true (by omega)]; rfl
    rw [this]; rfl
end Dv

/- How often, and what is left, as the program reckons it. -/
namespace Dv
open Go

theorem product_s {a b : Int} (ha : In64 a) (hb : In64 b) : num_product a b = some (.agg [.int .u64 ((if a < 0 then -a else a) * (if b < 0 then -b else b) / 18446744073709551616), .int .u64 ((if a < 0 then -a else a) * (if b < 0 then -b else b) % 18446744073709551616)]) := by
  rw [num_product_eq, size_sL ha, size_sL hb]
  simp only [Option.bind_some, toI_int]
  unfold In64 at ha hb
  rw [mul64_s (by split <;> omega) (by split <;> omega)]
  rfl

theorem signed0 (neg : Bool) {m : Int} (h0 : 0 ≤ m) (h1 : m < 18446744073709551616) : num_signed neg 0 m = some (limV (if neg then -m else m)) := by
  have := signed_sL neg (m := m) h0 (by omega)
  rw [show m / 18446744073709551616 = 0 by omega, show m % 18446744073709551616 = m by omega] at this
  exact this

theorem limV2 (n : Int) : some (PV.tuple [.int .i64 (PV.toI (PV.tnth (limV n) 0)), .int .i64 (PV.toI (PV.tnth (limV n) 1))]) = some (limV n) := by
  unfold limV
  split <;> rfl

theorem scale_c9 (neg : Bool) {m : Int} (h0 : 0 ≤ m) (h1 : m < 18446744073709551616) : num_Scale_c9 neg m = some (limV (if neg then -m else m)) := by
  rw [num_Scale_c9_eq, signed0 neg h0 h1]
  simp only [Option.bind_some]
  exact limV2 _

theorem add64_call {x y c : Int} (hx : 0 ≤ x) (hy : 0 ≤ y) (hc : 0 ≤ c) (hc1 : c ≤ 1) :
    callW EE [tiInt .u64, tiInt .u64] (.func (.func fn_bits_Add64) [] []) [.int .u64 x, .int .u64 y, .int .u64 c] = some (.tuple [.int .u64 ((x + y + c) % 18446744073709551616), .int .u64 ((x + y + c) / 18446744073709551616)]) := by
  rw [callW_ext EE _ _ _ (m := extAdd64) rfl]
  unfold extAdd64
  have : (leB 0 x && leB 0 y && leB 0 c && leB c 1) = true := by simp [leB, hx, hy, hc, hc1]
  simp only
  rw [this]
  rfl

theorem ndiv_s {a b : Int} (ha : In64 a) (hb : 0 < b) (hb2 : b ≤ 9223372036854775807) : num_Div a b = some (limV (a / b)) := by
  have hB : In64 b := by unfold In64; omega
  rw [num_Div_eq, num_Scale_eq, c_eqF (by omega), product_s ha (by unfold In64; omega), size_sL hB]
  simp only [Option.bind_some, ag0, ag1, toI_int]
  rw [if_neg (show ¬ b < 0 by omega), if_neg (show ¬ (1 : Int) < 0 by omega), Int.mul_one]
  unfold In64 at ha
  have hu : 0 ≤ (if a < 0 then -a else a) ∧ (if a < 0 then -a else a) ≤ 9223372036854775808 := by split <;> omega
  generalize hm : (if a < 0 then -a else a) = m at hu
  rw [show m / 18446744073709551616 = 0 by omega, show m % 18446744073709551616 = m by omega, c_leF (by omega)]
  rw [bits_Div64_eq, c_eqF (by omega), bits_Div64_c3_eq, c_leF (by omega), bits_Div64_c5_eq, c_eqT rfl, c_eqF (by omega), c_eqF (by omega)]
  simp only [Option.bind_some, tn0, tn1, toI_int]
  rw [tdiv_pos hu.1, tmod_pos hu.1]
  have hq0 : 0 ≤ m / b := Int.ediv_nonneg hu.1 (by omega)
  have hq1 : m / b ≤ m := Int.ediv_le_self _ hu.1
  rw [wu64 hq0 (by omega)]
  have hb0 : ltB b 0 = false := decide_eq_false (by omega)
  have h10 : ltB 1 0 = false := rfl
  rw [hb0, h10]
  by_cases h0 : a < 0
  · rw [if_pos h0] at hm
    rw [show ltB a 0 = true from decide_eq_true h0]
    have tf : (true == false) = false := rfl
    simp only [tf, Bool.not_true, Bool.not_false, cond_false, cond_true]
    have hem : m = b * (m / b) + m % b := (Int.mul_ediv_add_emod m b).symm
    have hr := emod_rng m hb
    by_cases hz : m % b = 0
    · rw [c_eqT hz, scale_c9 _ hq0 (by omega)]
      simp only [Option.bind_some, if_true]
      have : a / b = -(m / b) := by
        have : a = b * (-(m / b)) := by rw [Int.mul_neg]; omega
        rw [this, Int.mul_ediv_cancel_left _ (by omega)]
      rw [this]
      exact limV2 _
    · rw [c_eqF hz, num_Scale_c10_eq, add64_call hq0 (by omega) (by omega) (by omega)]
      simp only [Option.bind_some, tn0, tn1, toI_int, Int.add_zero]
      rw [show (m / b + 1) / 18446744073709551616 = 0 by omega, show (m / b + 1) % 18446744073709551616 = m / b + 1 by omega, signed0 _ (by omega) (by omega)]
      simp only [Option.bind_some, if_true]
      have : a / b = -(m / b + 1) := by
        have h2 : a = (b - m % b) + b * (-(m / b + 1)) := by rw [Int.mul_neg, Int.mul_add]; omega
        rw [h2, Int.add_mul_ediv_left _ _ (by omega), Int.ediv_eq_zero_of_lt (by omega) (by omega)]; omega
      rw [this]
      exact limV2 _
  · rw [if_neg h0] at hm
    subst hm
    rw [show ltB a 0 = false from decide_eq_false h0]
    have ff : (false == false) = true := rfl
    simp only [ff, Bool.not_true, Bool.not_false, cond_false, cond_true]
    rw [scale_c9 _ hq0 (by omega)]
    simp only [Option.bind_some, Bool.false_eq_true, if_false]
    exact limV2 _

theorem nmod_s {a b : Int} (ha : In64 a) (hb : 0 < b) (hb2 : b ≤ 9223372036854775807) : num_Mod a b = some (.tuple [.int .i64 (a % b), .int .i64 0]) := by
  rw [num_Mod_eq, c_eqF (by omega), c_eqF (by omega), c_eqF (by omega), c_not, c_not]
  have h := tmod_floor (a := a) hb
  have hr := emod_rng a hb
  have ht := tmod_rng a hb
  unfold In64 at ha
  have hb0 : ltB b 0 = false := decide_eq_false (by omega)
  by_cases hz : a.tmod b = 0
  · rw [c_eqT hz, hz]
    rw [hz] at h
    simp only [Int.lt_irrefl, if_false] at h
    rw [← h]
  · rw [c_eqF hz, hb0]
    by_cases hn : a.tmod b < 0
    · rw [show ltB (a.tmod b) 0 = true from decide_eq_true hn]
      rw [if_pos hn] at h
      rw [h, w64 (by omega) (by omega)]; rfl
    · rw [show ltB (a.tmod b) 0 = false from decide_eq_false hn]
      rw [if_neg hn] at h
      rw [h]; rfl

theorem nsplit_s {a : Int} (ha : In64 a) : num_Split a = some (.tuple [.int .i64 (a / 86400000000), .int .i64 (a % 86400000000)]) := by
  rw [num_Split_eq, ndiv_s ha (by omega) (by omega), nmod_s ha (by omega) (by omega)]
  unfold In64 at ha
  rw [limV, if_pos (by unfold In64; omega)]
  rfl
end Dv

/- Numbers of 192 bits, as the document reckons with them. Written by mkwide.py. -/
namespace Dv
open Go

/-- The six parts of a number, the lowest first. -/
def limbs (n : Nat) : List PV := [.int .u64 ((n % 4294967296 : Nat) : Int), .int .u64 ((n / 4294967296 % 4294967296 : Nat) : Int), .int .u64 ((n / 4294967296 / 4294967296 % 4294967296 : Nat) : Int), .int .u64 ((n / 4294967296 / 4294967296 / 4294967296 % 4294967296 : Nat) : Int), .int .u64 ((n / 4294967296 / 4294967296 / 4294967296 / 4294967296 % 4294967296 : Nat) : Int), .int .u64 ((n / 4294967296 / 4294967296 / 4294967296 / 4294967296 / 4294967296 % 4294967296 : Nat) : Int)]

theorem limbs_zero : limbs 0 = [.int .u64 0, .int .u64 0, .int .u64 0, .int .u64 0, .int .u64 0, .int .u64 0] := rfl
theorem add_st0 (c : Int) (a0 a1 a2 a3 a4 a5 : Int) (b0 b1 b2 b3 b4 b5 : Int) (o0 o1 o2 o3 o4 o5 : Int) (z : Nat) : computusref01_add_c4 [.int .u64 a0, .int .u64 a1, .int .u64 a2, .int .u64 a3, .int .u64 a4, .int .u64 a5] [.int .u64 b0, .int .u64 b1, .int .u64 b2, .int .u64 b3, .int .u64 b4, .int .u64 b5] c 0 [.int .u64 o0, .int .u64 o1, .int .u64 o2, .int .u64 o3, .int .u64 o4, .int .u64 o5] z = computusref01_add_c4 [.int .u64 a0, .int .u64 a1, .int .u64 a2, .int .u64 a3, .int .u64 a4, .int .u64 a5] [.int .u64 b0, .int .u64 b1, .int .u64 b2, .int .u64 b3, .int .u64 b4, .int .u64 b5] (shrI .u64 (IntKind.u64.wrap (IntKind.u64.wrap (c + a0) + b0)) 32) 1 [.int .u64 (andI .u64 (IntKind.u64.wrap (IntKind.u64.wrap (c + a0) + b0)) 4294967295), .int .u64 o1, .int .u64 o2, .int .u64 o3, .int .u64 o4, .int .u64 o5] z := by
  rw [computusref01_add_c4_eq]; rfl
theorem add_st1 (c : Int) (a0 a1 a2 a3 a4 a5 : Int) (b0 b1 b2 b3 b4 b5 : Int) (o0 o1 o2 o3 o4 o5 : Int) (z : Nat) : computusref01_add_c4 [.int .u64 a0, .int .u64 a1, .int .u64 a2, .int .u64 a3, .int .u64 a4, .int .u64 a5] [.int .u64 b0, .int .u64 b1, .int .u64 b2, .int .u64 b3, .int .u64 b4, .int .u64 b5] c 1 [.int .u64 o0, .int .u64 o1, .int .u64 o2, .int .u64 o3, .int .u64 o4, .int .u64 o5] z = computusref01_add_c4 [.int .u64 a0, .int .u64 a1, .int .u64 a2, .int .u64 a3, .int .u64 a4, .int .u64 a5] [.int .u64 b0, .int .u64 b1, .int .u64 b2, .int .u64 b3, .int .u64 b4, .int .u64 b5] (shrI .u64 (IntKind.u64.wrap (IntKind.u64.wrap (c + a1) + b1)) 32) 2 [.int .u64 o0, .int .u64 (andI .u64 (IntKind.u64.wrap (IntKind.u64.wrap (c + a1) + b1)) 4294967295), .int .u64 o2, .int .u64 o3, .int .u64 o4, .int .u64 o5] z := by
  rw [computusref01_add_c4_eq]; rfl
theorem add_st2 (c : Int) (a0 a1 a2 a3 a4 a5 : Int) (b0 b1 b2 b3 b4 b5 : Int) (o0 o1 o2 o3 o4 o5 : Int) (z : Nat) : computusref01_add_c4 [.int .u64 a0, .int .u64 a1, .int .u64 a2, .int .u64 a3, .int .u64 a4, .int .u64 a5] [.int .u64 b0, .int .u64 b1, .int .u64 b2, .int .u64 b3, .int .u64 b4, .int .u64 b5] c 2 [.int .u64 o0, .int .u64 o1, .int .u64 o2, .int .u64 o3, .int .u64 o4, .int .u64 o5] z = computusref01_add_c4 [.int .u64 a0, .int .u64 a1, .int .u64 a2, .int .u64 a3, .int .u64 a4, .int .u64 a5] [.int .u64 b0, .int .u64 b1, .int .u64 b2, .int .u64 b3, .int .u64 b4, .int .u64 b5] (shrI .u64 (IntKind.u64.wrap (IntKind.u64.wrap (c + a2) + b2)) 32) 3 [.int .u64 o0, .int .u64 o1, .int .u64 (andI .u64 (IntKind.u64.wrap (IntKind.u64.wrap (c + a2) + b2)) 4294967295), .int .u64 o3, .int .u64 o4, .int .u64 o5] z := by
  rw [computusref01_add_c4_eq]; rfl
theorem add_st3 (c : Int) (a0 a1 a2 a3 a4 a5 : Int) (b0 b1 b2 b3 b4 b5 : Int) (o0 o1 o2 o3 o4 o5 : Int) (z : Nat) : computusref01_add_c4 [.int .u64 a0, .int .u64 a1, .int .u64 a2, .int .u64 a3, .int .u64 a4, .int .u64 a5] [.int .u64 b0, .int .u64 b1, .int .u64 b2, .int .u64 b3, .int .u64 b4, .int .u64 b5] c 3 [.int .u64 o0, .int .u64 o1, .int .u64 o2, .int .u64 o3, .int .u64 o4, .int .u64 o5] z = computusref01_add_c4 [.int .u64 a0, .int .u64 a1, .int .u64 a2, .int .u64 a3, .int .u64 a4, .int .u64 a5] [.int .u64 b0, .int .u64 b1, .int .u64 b2, .int .u64 b3, .int .u64 b4, .int .u64 b5] (shrI .u64 (IntKind.u64.wrap (IntKind.u64.wrap (c + a3) + b3)) 32) 4 [.int .u64 o0, .int .u64 o1, .int .u64 o2, .int .u64 (andI .u64 (IntKind.u64.wrap (IntKind.u64.wrap (c + a3) + b3)) 4294967295), .int .u64 o4, .int .u64 o5] z := by
  rw [computusref01_add_c4_eq]; rfl
theorem add_st4 (c : Int) (a0 a1 a2 a3 a4 a5 : Int) (b0 b1 b2 b3 b4 b5 : Int) (o0 o1 o2 o3 o4 o5 : Int) (z : Nat) : computusref01_add_c4 [.int .u64 a0, .int .u64 a1, .int .u64 a2, .int .u64 a3, .int .u64 a4, .int .u64 a5] [.int .u64 b0, .int .u64 b1, .int .u64 b2, .int .u64 b3, .int .u64 b4, .int .u64 b5] c 4 [.int .u64 o0, .int .u64 o1, .int .u64 o2, .int .u64 o3, .int .u64 o4, .int .u64 o5] z = computusref01_add_c4 [.int .u64 a0, .int .u64 a1, .int .u64 a2, .int .u64 a3, .int .u64 a4, .int .u64 a5] [.int .u64 b0, .int .u64 b1, .int .u64 b2, .int .u64 b3, .int .u64 b4, .int .u64 b5] (shrI .u64 (IntKind.u64.wrap (IntKind.u64.wrap (c + a4) + b4)) 32) 5 [.int .u64 o0, .int .u64 o1, .int .u64 o2, .int .u64 o3, .int .u64 (andI .u64 (IntKind.u64.wrap (IntKind.u64.wrap (c + a4) + b4)) 4294967295), .int .u64 o5] z := by
  rw [computusref01_add_c4_eq]; rfl
theorem add_st5 (c : Int) (a0 a1 a2 a3 a4 a5 : Int) (b0 b1 b2 b3 b4 b5 : Int) (o0 o1 o2 o3 o4 o5 : Int) (z : Nat) : computusref01_add_c4 [.int .u64 a0, .int .u64 a1, .int .u64 a2, .int .u64 a3, .int .u64 a4, .int .u64 a5] [.int .u64 b0, .int .u64 b1, .int .u64 b2, .int .u64 b3, .int .u64 b4, .int .u64 b5] c 5 [.int .u64 o0, .int .u64 o1, .int .u64 o2, .int .u64 o3, .int .u64 o4, .int .u64 o5] z = computusref01_add_c4 [.int .u64 a0, .int .u64 a1, .int .u64 a2, .int .u64 a3, .int .u64 a4, .int .u64 a5] [.int .u64 b0, .int .u64 b1, .int .u64 b2, .int .u64 b3, .int .u64 b4, .int .u64 b5] (shrI .u64 (IntKind.u64.wrap (IntKind.u64.wrap (c + a5) + b5)) 32) 6 [.int .u64 o0, .int .u64 o1, .int .u64 o2, .int .u64 o3, .int .u64 o4, .int .u64 (andI .u64 (IntKind.u64.wrap (IntKind.u64.wrap (c + a5) + b5)) 4294967295)] z := by
  rw [computusref01_add_c4_eq]; rfl
theorem add_end (c : Int) (l m r : List PV) (z : Nat) : computusref01_add_c4 l m c 6 r z = some (.sl 1 r) := by
  rw [computusref01_add_c4_eq]; rfl
theorem less_st0 (c : Int) (a0 a1 a2 a3 a4 a5 : Int) (b0 b1 b2 b3 b4 b5 : Int) (o0 o1 o2 o3 o4 o5 : Int) (z : Nat) : computusref01_less_c4 [.int .u64 a0, .int .u64 a1, .int .u64 a2, .int .u64 a3, .int .u64 a4, .int .u64 a5] [.int .u64 b0, .int .u64 b1, .int .u64 b2, .int .u64 b3, .int .u64 b4, .int .u64 b5] c 0 [.int .u64 o0, .int .u64 o1, .int .u64 o2, .int .u64 o3, .int .u64 o4, .int .u64 o5] z = computusref01_less_c4 [.int .u64 a0, .int .u64 a1, .int .u64 a2, .int .u64 a3, .int .u64 a4, .int .u64 a5] [.int .u64 b0, .int .u64 b1, .int .u64 b2, .int .u64 b3, .int .u64 b4, .int .u64 b5] (IntKind.u64.wrap (1 - shrI .u64 (IntKind.u64.wrap (IntKind.u64.wrap (IntKind.u64.wrap (a0 + 4294967296) - b0) - c)) 32)) 1 [.int .u64 (andI .u64 (IntKind.u64.wrap (IntKind.u64.wrap (IntKind.u64.wrap (a0 + 4294967296) - b0) - c)) 4294967295), .int .u64 o1, .int .u64 o2, .int .u64 o3, .int .u64 o4, .int .u64 o5] z := by
  rw [computusref01_less_c4_eq]; rfl
theorem less_st1 (c : Int) (a0 a1 a2 a3 a4 a5 : Int) (b0 b1 b2 b3 b4 b5 : Int) (o0 o1 o2 o3 o4 o5 : Int) (z : Nat) : computusref01_less_c4 [.int .u64 a0, .int .u64 a1, .int .u64 a2, .int .u64 a3, .int .u64 a4, .int .u64 a5] [.int .u64 b0, .int .u64 b1, .int .u64 b2, .int .u64 b3, .int .u64 b4, .int .u64 b5] c 1 [.int .u64 o0, .int .u64 o1, .int .u64 o2, .int .u64 o3, .int .u64 o4, .int .u64 o5] z = computusref01_less_c4 [.int .u64 a0, .int .u64 a1, .int .u64 a2, .int .u64 a3, .int .u64 a4, .int .u64 a5] [.int .u64 b0, .int .u64 b1, .int .u64 b2, .int .u64 b3, .int .u64 b4, .int .u64 b5] (IntKind.u64.wrap (1 - shrI .u64 (IntKind.u64.wrap (IntKind.u64.wrap (IntKind.u64.wrap (a1 + 4294967296) - b1) - c)) 32)) 2 [.int .u64 o0, .int .u64 (andI .u64 (IntKind.u64.wrap (IntKind.u64.wrap (IntKind.u64.wrap (a1 + 4294967296) - b1) - c)) 4294967295), .int .u64 o2, .int .u64 o3, .int .u64 o4, .int .u64 o5] z := by
  rw [computusref01_less_c4_eq]; rfl
theorem less_st2 (c : Int) (a0 a1 a2 a3 a4 a5 : Int) (b0 b1 b2 b3 b4 b5 : Int) (o0 o1 o2 o3 o4 o5 : Int) (z : Nat) : computusref01_less_c4 [.int .u64 a0, .int .u64 a1, .int .u64 a2, .int .u64 a3, .int .u64 a4, .int .u64 a5] [.int .u64 b0, .int .u64 b1, .int .u64 b2, .int .u64 b3, .int .u64 b4, .int .u64 b5] c 2 [.int .u64 o0, .int .u64 o1, .int .u64 o2, .int .u64 o3, .int .u64 o4, .int .u64 o5] z = computusref01_less_c4 [.int .u64 a0, .int .u64 a1, .int .u64 a2, .int .u64 a3, .int .u64 a4, .int .u64 a5] [.int .u64 b0, .int .u64 b1, .int .u64 b2, .int .u64 b3, .int .u64 b4, .int .u64 b5] (IntKind.u64.wrap (1 - shrI .u64 (IntKind.u64.wrap (IntKind.u64.wrap (IntKind.u64.wrap (a2 + 4294967296) - b2) - c)) 32)) 3 [.int .u64 o0, .int .u64 o1, .int .u64 (andI .u64 (IntKind.u64.wrap (IntKind.u64.wrap (IntKind.u64.wrap (a2 + 4294967296) - b2) - c)) 4294967295), .int .u64 o3, .int .u64 o4, .int .u64 o5] z := by
  rw [computusref01_less_c4_eq]; rfl
theorem less_st3 (c : Int) (a0 a1 a2 a3 a4 a5 : Int) (b0 b1 b2 b3 b4 b5 : Int) (o0 o1 o2 o3 o4 o5 : Int) (z : Nat) : computusref01_less_c4 [.int .u64 a0, .int .u64 a1, .int .u64 a2, .int .u64 a3, .int .u64 a4, .int .u64 a5] [.int .u64 b0, .int .u64 b1, .int .u64 b2, .int .u64 b3, .int .u64 b4, .int .u64 b5] c 3 [.int .u64 o0, .int .u64 o1, .int .u64 o2, .int .u64 o3, .int .u64 o4, .int .u64 o5] z = computusref01_less_c4 [.int .u64 a0, .int .u64 a1, .int .u64 a2, .int .u64 a3, .int .u64 a4, .int .u64 a5] [.int .u64 b0, .int .u64 b1, .int .u64 b2, .int .u64 b3, .int .u64 b4, .int .u64 b5] (IntKind.u64.wrap (1 - shrI .u64 (IntKind.u64.wrap (IntKind.u64.wrap (IntKind.u64.wrap (a3 + 4294967296) - b3) - c)) 32)) 4 [.int .u64 o0, .int .u64 o1, .int .u64 o2, .int .u64 (andI .u64 (IntKind.u64.wrap (IntKind.u64.wrap (IntKind.u64.wrap (a3 + 4294967296) - b3) - c)) 4294967295), .int .u64 o4, .int .u64 o5] z := by
  rw [computusref01_less_c4_eq]; rfl
theorem less_st4 (c : Int) (a0 a1 a2 a3 a4 a5 : Int) (b0 b1 b2 b3 b4 b5 : Int) (o0 o1 o2 o3 o4 o5 : Int) (z : Nat) : computusref01_less_c4 [.int .u64 a0, .int .u64 a1, .int .u64 a2, .int .u64 a3, .int .u64 a4, .int .u64 a5] [.int .u64 b0, .int .u64 b1, .int .u64 b2, .int .u64 b3, .int .u64 b4, .int .u64 b5] c 4 [.int .u64 o0, .int .u64 o1, .int .u64 o2, .int .u64 o3, .int .u64 o4, .int .u64 o5] z = computusref01_less_c4 [.int .u64 a0, .int .u64 a1, .int .u64 a2, .int .u64 a3, .int .u64 a4, .int .u64 a5] [.int .u64 b0, .int .u64 b1, .int .u64 b2, .int .u64 b3, .int .u64 b4, .int .u64 b5] (IntKind.u64.wrap (1 - shrI .u64 (IntKind.u64.wrap (IntKind.u64.wrap (IntKind.u64.wrap (a4 + 4294967296) - b4) - c)) 32)) 5 [.int .u64 o0, .int .u64 o1, .int .u64 o2, .int .u64 o3, .int .u64 (andI .u64 (IntKind.u64.wrap (IntKind.u64.wrap (IntKind.u64.wrap (a4 + 4294967296) - b4) - c)) 4294967295), .int .u64 o5] z := by
  rw [computusref01_less_c4_eq]; rfl
theorem less_st5 (c : Int) (a0 a1 a2 a3 a4 a5 : Int) (b0 b1 b2 b3 b4 b5 : Int) (o0 o1 o2 o3 o4 o5 : Int) (z : Nat) : computusref01_less_c4 [.int .u64 a0, .int .u64 a1, .int .u64 a2, .int .u64 a3, .int .u64 a4, .int .u64 a5] [.int .u64 b0, .int .u64 b1, .int .u64 b2, .int .u64 b3, .int .u64 b4, .int .u64 b5] c 5 [.int .u64 o0, .int .u64 o1, .int .u64 o2, .int .u64 o3, .int .u64 o4, .int .u64 o5] z = computusref01_less_c4 [.int .u64 a0, .int .u64 a1, .int .u64 a2, .int .u64 a3, .int .u64 a4, .int .u64 a5] [.int .u64 b0, .int .u64 b1, .int .u64 b2, .int .u64 b3, .int .u64 b4, .int .u64 b5] (IntKind.u64.wrap (1 - shrI .u64 (IntKind.u64.wrap (IntKind.u64.wrap (IntKind.u64.wrap (a5 + 4294967296) - b5) - c)) 32)) 6 [.int .u64 o0, .int .u64 o1, .int .u64 o2, .int .u64 o3, .int .u64 o4, .int .u64 (andI .u64 (IntKind.u64.wrap (IntKind.u64.wrap (IntKind.u64.wrap (a5 + 4294967296) - b5) - c)) 4294967295)] z := by
  rw [computusref01_less_c4_eq]; rfl
theorem less_end (c : Int) (l m r : List PV) (z : Nat) : computusref01_less_c4 l m c 6 r z = some (.sl 1 r) := by
  rw [computusref01_less_c4_eq]; rfl

theorem addD {c x y : Nat} (hc : c ≤ 1) : IntKind.u64.wrap (IntKind.u64.wrap ((c : Int) + ((x % 4294967296 : Nat) : Int)) + ((y % 4294967296 : Nat) : Int)) = ((c + x % 4294967296 + y % 4294967296 : Nat) : Int) := by
  rw [IntKind.wrap_u64, IntKind.wrap_u64]; omega
theorem shrN (n : Nat) : shrI .u64 (n : Int) 32 = ((n / 4294967296 : Nat) : Int) := by rw [shr32]; omega
theorem andN {n : Nat} (h : n < 18446744073709551616) : andI .u64 (n : Int) 4294967295 = ((n % 4294967296 : Nat) : Int) := by rw [and32 (by omega) (by omega)]; omega
theorem add_step (c x y s : Nat) (hc : c ≤ 1) (h : c + x + y = s) : (c + x % 4294967296 + y % 4294967296) / 4294967296 ≤ 1 ∧ (c + x % 4294967296 + y % 4294967296) % 4294967296 = s % 4294967296 ∧ (c + x % 4294967296 + y % 4294967296) / 4294967296 + x / 4294967296 + y / 4294967296 = s / 4294967296 := by omega
/-- Two numbers and a carry: the next ones. -/
theorem addS {c x y s : Nat} (hc : c ≤ 1) (h : c + x + y = s) : ∃ d : Nat, d ≤ 1 ∧ d + x / 4294967296 + y / 4294967296 = s / 4294967296 ∧
    shrI .u64 (IntKind.u64.wrap (IntKind.u64.wrap ((c : Int) + ((x % 4294967296 : Nat) : Int)) + ((y % 4294967296 : Nat) : Int))) 32 = (d : Int) ∧
    andI .u64 (IntKind.u64.wrap (IntKind.u64.wrap ((c : Int) + ((x % 4294967296 : Nat) : Int)) + ((y % 4294967296 : Nat) : Int))) 4294967295 = ((s % 4294967296 : Nat) : Int) := by
  obtain ⟨h1, h2, h3⟩ := add_step c x y s hc h
  refine ⟨(c + x % 4294967296 + y % 4294967296) / 4294967296, h1, h3, ?_, ?_⟩
  · rw [addD hc, shrN]
  · rw [addD hc, andN (by omega), h2]
/-- Likewise, without: what is lent. -/
theorem lessS {c x y : Nat} {s : Int} (hc : c ≤ 1) (h : (x : Int) - y - c = s) : ∃ d : Nat, d ≤ 1 ∧ ((x / 4294967296 : Nat) : Int) - ((y / 4294967296 : Nat) : Int) - d = s / 4294967296 ∧
    IntKind.u64.wrap (1 - shrI .u64 (IntKind.u64.wrap (IntKind.u64.wrap (IntKind.u64.wrap (((x % 4294967296 : Nat) : Int) + 4294967296) - ((y % 4294967296 : Nat) : Int)) - (c : Int))) 32) = (d : Int) ∧
    andI .u64 (IntKind.u64.wrap (IntKind.u64.wrap (IntKind.u64.wrap (((x % 4294967296 : Nat) : Int) + 4294967296) - ((y % 4294967296 : Nat) : Int)) - (c : Int))) 4294967295 = s % 4294967296 := by
  have e : IntKind.u64.wrap (IntKind.u64.wrap (IntKind.u64.wrap (((x % 4294967296 : Nat) : Int) + 4294967296) - ((y % 4294967296 : Nat) : Int)) - (c : Int)) = ((x % 4294967296 : Nat) : Int) + 4294967296 - ((y % 4294967296 : Nat) : Int) - (c : Int) := by
    rw [IntKind.wrap_u64, IntKind.wrap_u64, IntKind.wrap_u64]; omega
  rw [e]
  refine ⟨(1 - (((x % 4294967296 : Nat) : Int) + 4294967296 - ((y % 4294967296 : Nat) : Int) - (c : Int)) / 4294967296).toNat, by omega, by omega, ?_, ?_⟩
  · rw [shr32, IntKind.wrap_u64]; omega
  · rw [and32 (by omega) (by omega)]; omega

theorem radd_s (x y : Nat) : computusref01_add (limbs x) (limbs y) = some (.sl 1 (limbs (x + y))) := by
  obtain ⟨c1, g1, h1, e1, f1⟩ := addS (c := 0) (x := x) (y := y) (s := x + y) (by omega) (by omega)
  obtain ⟨c2, g2, h2, e2, f2⟩ := addS g1 h1
  obtain ⟨c3, g3, h3, e3, f3⟩ := addS g2 h2
  obtain ⟨c4, g4, h4, e4, f4⟩ := addS g3 h3
  obtain ⟨c5, g5, h5, e5, f5⟩ := addS g4 h4
  obtain ⟨c6, g6, h6, e6, f6⟩ := addS g5 h5
  unfold limbs
  rw [computusref01_add_eq]
  have z0 : (0 : Int) = ((0 : Nat) : Int) := rfl
  refine (add_st0 ((0 : Nat) : Int) _ _ _ _ _ _ _ _ _ _ _ _ _ _ _ _ _ _ _).trans ?_
  rw [e1, f1]
  rw [add_st1, e2, f2]
  rw [add_st2, e3, f3]
  rw [add_st3, e4, f4]
  rw [add_st4, e5, f5]
  rw [add_st5, e6, f6]
  rw [add_end]

theorem rless_s {x y : Nat} (h : y ≤ x) : computusref01_less (limbs x) (limbs y) = some (.sl 1 (limbs (x - y))) := by
  obtain ⟨c1, g1, h1, e1, f1⟩ := lessS (c := 0) (x := x) (y := y) (s := ((x - y : Nat) : Int)) (by omega) (by omega)
  obtain ⟨c2, g2, h2, e2, f2⟩ := lessS (x := x / 4294967296) (y := y / 4294967296) (s := (((x - y) / 4294967296 : Nat) : Int)) g1 (by omega)
  obtain ⟨c3, g3, h3, e3, f3⟩ := lessS (x := x / 4294967296 / 4294967296) (y := y / 4294967296 / 4294967296) (s := (((x - y) / 4294967296 / 4294967296 : Nat) : Int)) g2 (by omega)
  obtain ⟨c4, g4, h4, e4, f4⟩ := lessS (x := x / 4294967296 / 4294967296 / 4294967296) (y := y / 4294967296 / 4294967296 / 4294967296) (s := (((x - y) / 4294967296 / 4294967296 / 4294967296 : Nat) : Int)) g3 (by omega)
  obtain ⟨c5, g5, h5, e5, f5⟩ := lessS (x := x / 4294967296 / 4294967296 / 4294967296 / 4294967296) (y := y / 4294967296 / 4294967296 / 4294967296 / 4294967296) (s := (((x - y) / 4294967296 / 4294967296 / 4294967296 / 4294967296 : Nat) : Int)) g4 (by omega)
  obtain ⟨c6, g6, h6, e6, f6⟩ := lessS (x := x / 4294967296 / 4294967296 / 4294967296 / 4294967296 / 4294967296) (y := y / 4294967296 / 4294967296 / 4294967296 / 4294967296 / 4294967296) (s := (((x - y) / 4294967296 / 4294967296 / 4294967296 / 4294967296 / 4294967296 : Nat) : Int)) g5 (by omega)
  unfold limbs
  rw [computusref01_less_eq]
  refine (less_st0 ((0 : Nat) : Int) _ _ _ _ _ _ _ _ _ _ _ _ _ _ _ _ _ _ _).trans ?_
  rw [e1, f1]
  refine (less_st1 _ _ _ _ _ _ _ _ _ _ _ _ _ _ _ _ _ _ _ _).trans ?_
  rw [e2, f2]
  refine (less_st2 _ _ _ _ _ _ _ _ _ _ _ _ _ _ _ _ _ _ _ _).trans ?_
  rw [e3, f3]
  refine (less_st3 _ _ _ _ _ _ _ _ _ _ _ _ _ _ _ _ _ _ _ _).trans ?_
  rw [e4, f4]
  refine (less_st4 _ _ _ _ _ _ _ _ _ _ _ _ _ _ _ _ _ _ _ _).trans ?_
  rw [e5, f5]
  refine (less_st5 _ _ _ _ _ _ _ _ _ _ _ _ _ _ _ _ _ _ _ _).trans ?_
  rw [e6, f6]
  rw [less_end]
  rfl

def cmpI (x y : Nat) : Int := if x < y then -1 else if y < x then 1 else 0
theorem cmp_st0 (a0 a1 a2 a3 a4 a5 : Int) (b0 b1 b2 b3 b4 b5 : Int) : computusref01_cmp_c2 [.int .u64 a0, .int .u64 a1, .int .u64 a2, .int .u64 a3, .int .u64 a4, .int .u64 a5] [.int .u64 b0, .int .u64 b1, .int .u64 b2, .int .u64 b3, .int .u64 b4, .int .u64 b5] 0 = bif ltB a0 b0 then some (.int .i64 (-1)) else bif ltB b0 a0 then some (.int .i64 1) else computusref01_cmp_c2 [.int .u64 a0, .int .u64 a1, .int .u64 a2, .int .u64 a3, .int .u64 a4, .int .u64 a5] [.int .u64 b0, .int .u64 b1, .int .u64 b2, .int .u64 b3, .int .u64 b4, .int .u64 b5] (-1) := by
  rw [computusref01_cmp_c2_eq]; rfl
theorem cmp_st1 (a0 a1 a2 a3 a4 a5 : Int) (b0 b1 b2 b3 b4 b5 : Int) : computusref01_cmp_c2 [.int .u64 a0, .int .u64 a1, .int .u64 a2, .int .u64 a3, .int .u64 a4, .int .u64 a5] [.int .u64 b0, .int .u64 b1, .int .u64 b2, .int .u64 b3, .int .u64 b4, .int .u64 b5] 1 = bif ltB a1 b1 then some (.int .i64 (-1)) else bif ltB b1 a1 then some (.int .i64 1) else computusref01_cmp_c2 [.int .u64 a0, .int .u64 a1, .int .u64 a2, .int .u64 a3, .int .u64 a4, .int .u64 a5] [.int .u64 b0, .int .u64 b1, .int .u64 b2, .int .u64 b3, .int .u64 b4, .int .u64 b5] 0 := by
  rw [computusref01_cmp_c2_eq]; rfl
theorem cmp_st2 (a0 a1 a2 a3 a4 a5 : Int) (b0 b1 b2 b3 b4 b5 : Int) : computusref01_cmp_c2 [.int .u64 a0, .int .u64 a1, .int .u64 a2, .int .u64 a3, .int .u64 a4, .int .u64 a5] [.int .u64 b0, .int .u64 b1, .int .u64 b2, .int .u64 b3, .int .u64 b4, .int .u64 b5] 2 = bif ltB a2 b2 then some (.int .i64 (-1)) else bif ltB b2 a2 then some (.int .i64 1) else computusref01_cmp_c2 [.int .u64 a0, .int .u64 a1, .int .u64 a2, .int .u64 a3, .int .u64 a4, .int .u64 a5] [.int .u64 b0, .int .u64 b1, .int .u64 b2, .int .u64 b3, .int .u64 b4, .int .u64 b5] 1 := by
  rw [computusref01_cmp_c2_eq]; rfl
theorem cmp_st3 (a0 a1 a2 a3 a4 a5 : Int) (b0 b1 b2 b3 b4 b5 : Int) : computusref01_cmp_c2 [.int .u64 a0, .int .u64 a1, .int .u64 a2, .int .u64 a3, .int .u64 a4, .int .u64 a5] [.int .u64 b0, .int .u64 b1, .int .u64 b2, .int .u64 b3, .int .u64 b4, .int .u64 b5] 3 = bif ltB a3 b3 then some (.int .i64 (-1)) else bif ltB b3 a3 then some (.int .i64 1) else computusref01_cmp_c2 [.int .u64 a0, .int .u64 a1, .int .u64 a2, .int .u64 a3, .int .u64 a4, .int .u64 a5] [.int .u64 b0, .int .u64 b1, .int .u64 b2, .int .u64 b3, .int .u64 b4, .int .u64 b5] 2 := by
  rw [computusref01_cmp_c2_eq]; rfl
theorem cmp_st4 (a0 a1 a2 a3 a4 a5 : Int) (b0 b1 b2 b3 b4 b5 : Int) : computusref01_cmp_c2 [.int .u64 a0, .int .u64 a1, .int .u64 a2, .int .u64 a3, .int .u64 a4, .int .u64 a5] [.int .u64 b0, .int .u64 b1, .int .u64 b2, .int .u64 b3, .int .u64 b4, .int .u64 b5] 4 = bif ltB a4 b4 then some (.int .i64 (-1)) else bif ltB b4 a4 then some (.int .i64 1) else computusref01_cmp_c2 [.int .u64 a0, .int .u64 a1, .int .u64 a2, .int .u64 a3, .int .u64 a4, .int .u64 a5] [.int .u64 b0, .int .u64 b1, .int .u64 b2, .int .u64 b3, .int .u64 b4, .int .u64 b5] 3 := by
  rw [computusref01_cmp_c2_eq]; rfl
theorem cmp_st5 (a0 a1 a2 a3 a4 a5 : Int) (b0 b1 b2 b3 b4 b5 : Int) : computusref01_cmp_c2 [.int .u64 a0, .int .u64 a1, .int .u64 a2, .int .u64 a3, .int .u64 a4, .int .u64 a5] [.int .u64 b0, .int .u64 b1, .int .u64 b2, .int .u64 b3, .int .u64 b4, .int .u64 b5] 5 = bif ltB a5 b5 then some (.int .i64 (-1)) else bif ltB b5 a5 then some (.int .i64 1) else computusref01_cmp_c2 [.int .u64 a0, .int .u64 a1, .int .u64 a2, .int .u64 a3, .int .u64 a4, .int .u64 a5] [.int .u64 b0, .int .u64 b1, .int .u64 b2, .int .u64 b3, .int .u64 b4, .int .u64 b5] 4 := by
  rw [computusref01_cmp_c2_eq]; rfl
theorem cmp_end (l m : List PV) : computusref01_cmp_c2 l m (-1) = some (.int .i64 0) := by
  rw [computusref01_cmp_c2_eq]; rfl

theorem cmpS {x y : Nat} {k : Option PV} (h : x / 4294967296 = y / 4294967296) :
    (bif ltB ((x % 4294967296 : Nat) : Int) ((y % 4294967296 : Nat) : Int) then some (.int .i64 (-1)) else bif ltB ((y % 4294967296 : Nat) : Int) ((x % 4294967296 : Nat) : Int) then some (.int .i64 1) else k) =
      if x = y then k else some (.int .i64 (cmpI x y)) := by
  unfold cmpI
  by_cases h1 : x < y
  · rw [c_ltT (by omega), if_neg (by omega), if_pos h1]
  · rw [c_ltF (by omega)]
    by_cases h2 : y < x
    · rw [c_ltT (by omega), if_neg (by omega), if_neg h1, if_pos h2]
    · rw [c_ltF (by omega), if_pos (by omega)]
theorem cmpI_div {x y : Nat} (h : ¬ x / 4294967296 = y / 4294967296) : cmpI (x / 4294967296) (y / 4294967296) = cmpI x y := by
  unfold cmpI
  by_cases h1 : x / 4294967296 < y / 4294967296
  · rw [if_pos h1, if_pos (by omega)]
  · rw [if_neg h1, if_pos (by omega), if_neg (by omega), if_pos (by omega)]

theorem cmpE0 {x y : Nat} (h : ¬ x = y) : cmpI (x) (y) = cmpI x y := rfl
theorem cmpE1 {x y : Nat} (h : ¬ x / 4294967296 = y / 4294967296) : cmpI (x / 4294967296) (y / 4294967296) = cmpI x y := (cmpI_div h).trans (cmpE0 (fun e => h (by rw [e])))
theorem cmpE2 {x y : Nat} (h : ¬ x / 4294967296 / 4294967296 = y / 4294967296 / 4294967296) : cmpI (x / 4294967296 / 4294967296) (y / 4294967296 / 4294967296) = cmpI x y := (cmpI_div h).trans (cmpE1 (fun e => h (by rw [e])))
theorem cmpE3 {x y : Nat} (h : ¬ x / 4294967296 / 4294967296 / 4294967296 = y / 4294967296 / 4294967296 / 4294967296) : cmpI (x / 4294967296 / 4294967296 / 4294967296) (y / 4294967296 / 4294967296 / 4294967296) = cmpI x y := (cmpI_div h).trans (cmpE2 (fun e => h (by rw [e])))
theorem cmpE4 {x y : Nat} (h : ¬ x / 4294967296 / 4294967296 / 4294967296 / 4294967296 = y / 4294967296 / 4294967296 / 4294967296 / 4294967296) : cmpI (x / 4294967296 / 4294967296 / 4294967296 / 4294967296) (y / 4294967296 / 4294967296 / 4294967296 / 4294967296) = cmpI x y := (cmpI_div h).trans (cmpE3 (fun e => h (by rw [e])))
theorem cmpE5 {x y : Nat} (h : ¬ x / 4294967296 / 4294967296 / 4294967296 / 4294967296 / 4294967296 = y / 4294967296 / 4294967296 / 4294967296 / 4294967296 / 4294967296) : cmpI (x / 4294967296 / 4294967296 / 4294967296 / 4294967296 / 4294967296) (y / 4294967296 / 4294967296 / 4294967296 / 4294967296 / 4294967296) = cmpI x y := (cmpI_div h).trans (cmpE4 (fun e => h (by rw [e])))
theorem cmpF0 {x y : Nat} (h : x / 4294967296 = y / 4294967296) : computusref01_cmp_c2 (limbs x) (limbs y) 0 = some (.int .i64 (cmpI x y)) := by
  unfold limbs
  rw [cmp_st0, cmpS h]
  by_cases e : x = y
  · rw [if_pos e, cmp_end]; subst e; unfold cmpI; rw [if_neg (by omega), if_neg (by omega)]
  · rw [if_neg e]
theorem cmpF1 {x y : Nat} (h : x / 4294967296 / 4294967296 = y / 4294967296 / 4294967296) : computusref01_cmp_c2 (limbs x) (limbs y) 1 = some (.int .i64 (cmpI x y)) := by
  unfold limbs
  rw [cmp_st1, cmpS h]
  by_cases e : x / 4294967296 = y / 4294967296
  · rw [if_pos e]; exact cmpF0 e
  · rw [if_neg e, cmpE1 e]
theorem cmpF2 {x y : Nat} (h : x / 4294967296 / 4294967296 / 4294967296 = y / 4294967296 / 4294967296 / 4294967296) : computusref01_cmp_c2 (limbs x) (limbs y) 2 = some (.int .i64 (cmpI x y)) := by
  unfold limbs
  rw [cmp_st2, cmpS h]
  by_cases e : x / 4294967296 / 4294967296 = y / 4294967296 / 4294967296
  · rw [if_pos e]; exact cmpF1 e
  · rw [if_neg e, cmpE2 e]
theorem cmpF3 {x y : Nat} (h : x / 4294967296 / 4294967296 / 4294967296 / 4294967296 = y / 4294967296 / 4294967296 / 4294967296 / 4294967296) : computusref01_cmp_c2 (limbs x) (limbs y) 3 = some (.int .i64 (cmpI x y)) := by
  unfold limbs
  rw [cmp_st3, cmpS h]
  by_cases e : x / 4294967296 / 4294967296 / 4294967296 = y / 4294967296 / 4294967296 / 4294967296
  · rw [if_pos e]; exact cmpF2 e
  · rw [if_neg e, cmpE3 e]
theorem cmpF4 {x y : Nat} (h : x / 4294967296 / 4294967296 / 4294967296 / 4294967296 / 4294967296 = y / 4294967296 / 4294967296 / 4294967296 / 4294967296 / 4294967296) : computusref01_cmp_c2 (limbs x) (limbs y) 4 = some (.int .i64 (cmpI x y)) := by
  unfold limbs
  rw [cmp_st4, cmpS h]
  by_cases e : x / 4294967296 / 4294967296 / 4294967296 / 4294967296 = y / 4294967296 / 4294967296 / 4294967296 / 4294967296
  · rw [if_pos e]; exact cmpF3 e
  · rw [if_neg e, cmpE4 e]
theorem cmpF5 {x y : Nat} (h : x / 4294967296 / 4294967296 / 4294967296 / 4294967296 / 4294967296 / 4294967296 = y / 4294967296 / 4294967296 / 4294967296 / 4294967296 / 4294967296 / 4294967296) : computusref01_cmp_c2 (limbs x) (limbs y) 5 = some (.int .i64 (cmpI x y)) := by
  unfold limbs
  rw [cmp_st5, cmpS h]
  by_cases e : x / 4294967296 / 4294967296 / 4294967296 / 4294967296 / 4294967296 = y / 4294967296 / 4294967296 / 4294967296 / 4294967296 / 4294967296
  · rw [if_pos e]; exact cmpF4 e
  · rw [if_neg e, cmpE5 e]

theorem up6 {n : Nat} (h : n < 6277101735386680763835789423207666416102355444464034512896) : n / 4294967296 / 4294967296 / 4294967296 / 4294967296 / 4294967296 / 4294967296 = 0 := by
  rw [Nat.div_div_eq_div_mul, Nat.div_div_eq_div_mul, Nat.div_div_eq_div_mul, Nat.div_div_eq_div_mul, Nat.div_div_eq_div_mul]
  exact Nat.div_eq_of_lt h
theorem rcmp_s {x y : Nat} (hx : x < 6277101735386680763835789423207666416102355444464034512896) (hy : y < 6277101735386680763835789423207666416102355444464034512896) :
    computusref01_cmp (limbs x) (limbs y) = some (.int .i64 (cmpI x y)) := by
  rw [computusref01_cmp_eq]
  exact cmpF5 (by rw [up6 hx, up6 hy])
theorem rzero_s {x : Nat} (hx : x < 6277101735386680763835789423207666416102355444464034512896) : computusref01_zero (limbs x) = some (.bool (decide (x = 0))) := by
  rw [computusref01_zero_eq, ← limbs_zero, rcmp_s hx (by omega)]
  simp only [Option.bind_some, toI_int, eqB]
  congr 2
  unfold cmpI
  by_cases h : x = 0
  · subst h; rfl
  · rw [if_neg (by omega), if_pos (by omega)]; simp [h]

/-! ### Of, Small -/
theorem orHL {h l : Nat} (h1 : h < 4294967296) (h2 : l < 4294967296) : orI .u64 (shlI .u64 (h : Int) 32) (l : Int) = ((h * 4294967296 + l : Nat) : Int) := by
  have e : shlI .u64 (h : Int) 32 = ((h * 4294967296 : Nat) : Int) := by
    unfold shlI
    have : (min (32 : Int).toNat IntKind.u64.bits) = 32 := rfl
    rw [this, IntKind.wrap_u64]
    have h2 : ((2 : Int) ^ 32) = 4294967296 := by decide
    rw [h2]; omega
  rw [e]
  unfold orI
  have hb : IntKind.u64.bits = 64 := rfl
  rw [hb]
  have e1 : (BitVec.ofInt 64 ((h * 4294967296 : Nat) : Int)).toNat = h * 4294967296 := by rw [BitVec.toNat_ofInt]; omega
  have e2 : (BitVec.ofInt 64 (l : Int)).toNat = l := by rw [BitVec.toNat_ofInt]; omega
  rw [BitVec.toNat_or, e1, e2]
  have := Nat.shiftLeft_add_eq_or_of_lt (b := l) (i := 32) h2 h
  rw [Nat.shiftLeft_eq] at this
  rw [show h * 4294967296 = h * 2 ^ 32 from rfl, ← this, IntKind.wrap_u64]
  omega

theorem rOf_s {a : Int} (h : In64 a) : computusref01_Of a = some (.agg [.bool (decide (a < 0)), .sl 1 (limbs a.natAbs)]) := by
  rw [computusref01_Of_eq]
  unfold In64 at h
  have fin : ∀ n : Int, n = (a.natAbs : Int) → computusref01_Of_c4 a n false = some (.agg [.bool (decide (a < 0)), .sl 1 (limbs a.natAbs)]) := by
    intro n hn
    subst hn
    rw [computusref01_Of_c4_eq, shrN, andN (by omega)]
    unfold limbs
    rw [show a.natAbs / 4294967296 % 4294967296 = a.natAbs / 4294967296 by omega, show a.natAbs / 4294967296 / 4294967296 = 0 by omega]
    rfl
  by_cases h0 : a < 0
  · rw [c_ltT h0, fin _ (by rw [IntKind.wrap_u64, IntKind.wrap_u64]; omega)]
  · rw [c_ltF h0, fin _ (by rw [IntKind.wrap_u64]; omega)]

theorem small_st2 (ng : Bool) (a0 a1 a2 a3 a4 a5 : Int) : computusref01_Small_c2 2 ng [.int .u64 a0, .int .u64 a1, .int .u64 a2, .int .u64 a3, .int .u64 a4, .int .u64 a5] = bif !(eqB a2 0) then some (.tuple [.int .i64 0, .int .i64 10]) else computusref01_Small_c2 3 ng [.int .u64 a0, .int .u64 a1, .int .u64 a2, .int .u64 a3, .int .u64 a4, .int .u64 a5] := by
  rw [computusref01_Small_c2_eq]; rfl
theorem small_st3 (ng : Bool) (a0 a1 a2 a3 a4 a5 : Int) : computusref01_Small_c2 3 ng [.int .u64 a0, .int .u64 a1, .int .u64 a2, .int .u64 a3, .int .u64 a4, .int .u64 a5] = bif !(eqB a3 0) then some (.tuple [.int .i64 0, .int .i64 10]) else computusref01_Small_c2 4 ng [.int .u64 a0, .int .u64 a1, .int .u64 a2, .int .u64 a3, .int .u64 a4, .int .u64 a5] := by
  rw [computusref01_Small_c2_eq]; rfl
theorem small_st4 (ng : Bool) (a0 a1 a2 a3 a4 a5 : Int) : computusref01_Small_c2 4 ng [.int .u64 a0, .int .u64 a1, .int .u64 a2, .int .u64 a3, .int .u64 a4, .int .u64 a5] = bif !(eqB a4 0) then some (.tuple [.int .i64 0, .int .i64 10]) else computusref01_Small_c2 5 ng [.int .u64 a0, .int .u64 a1, .int .u64 a2, .int .u64 a3, .int .u64 a4, .int .u64 a5] := by
  rw [computusref01_Small_c2_eq]; rfl
theorem small_st5 (ng : Bool) (a0 a1 a2 a3 a4 a5 : Int) : computusref01_Small_c2 5 ng [.int .u64 a0, .int .u64 a1, .int .u64 a2, .int .u64 a3, .int .u64 a4, .int .u64 a5] = bif !(eqB a5 0) then some (.tuple [.int .i64 0, .int .i64 10]) else computusref01_Small_c2 6 ng [.int .u64 a0, .int .u64 a1, .int .u64 a2, .int .u64 a3, .int .u64 a4, .int .u64 a5] := by
  rw [computusref01_Small_c2_eq]; rfl
theorem small_end (ng : Bool) (a0 a1 a2 a3 a4 a5 : Int) : computusref01_Small_c2 6 ng [.int .u64 a0, .int .u64 a1, .int .u64 a2, .int .u64 a3, .int .u64 a4, .int .u64 a5] = bif ng then (bif leB (orI .u64 (shlI .u64 a1 32) a0) 9223372036854775808 then computusref01_Small_c8 (orI .u64 (shlI .u64 a1 32) a0) else computusref01_Small_c9 (orI .u64 (shlI .u64 a1 32) a0) ng [.int .u64 a0, .int .u64 a1, .int .u64 a2, .int .u64 a3, .int .u64 a4, .int .u64 a5]) else computusref01_Small_c9 (orI .u64 (shlI .u64 a1 32) a0) ng [.int .u64 a0, .int .u64 a1, .int .u64 a2, .int .u64 a3, .int .u64 a4, .int .u64 a5] := by
  rw [computusref01_Small_c2_eq]; rfl

theorem rSmall_s (ng : Bool) {n : Nat} (hn : n < 6277101735386680763835789423207666416102355444464034512896) : computusref01_Small ng (limbs n) = some (limV (if ng then -(n : Int) else (n : Int))) := by
  rw [computusref01_Small_eq]
  by_cases hb : n < 18446744073709551616
  · have q2 : n / 4294967296 / 4294967296 = 0 := by omega
    unfold limbs
    rw [q2]
    rw [small_st2, c_not, c_eqT (by omega), small_st3, c_not, c_eqT (by omega), small_st4, c_not, c_eqT (by omega), small_st5, c_not, c_eqT (by omega), small_end, orHL (by omega) (by omega)]
    rw [show n / 4294967296 % 4294967296 * 4294967296 + n % 4294967296 = n by omega, computusref01_Small_c8_eq, computusref01_Small_c9_eq]
    cases ng with
    | true =>
      simp only [cond_true, if_true]
      by_cases hl : n ≤ 9223372036854775808
      · rw [c_leT (by omega), limV, if_pos (by unfold In64; omega), IntKind.wrap_u64, IntKind.wrap_i64]
        congr 4; omega
      · rw [c_leF (by omega), limV, if_neg (by unfold In64; omega)]
    | false =>
      simp only [cond_false, Bool.false_eq_true, if_false]
      by_cases hl : 9223372036854775808 ≤ n
      · rw [c_leT (by omega), limV, if_neg (by unfold In64; omega)]
      · rw [c_leF (by omega), limV, if_pos (by unfold In64; omega), w64 (by omega) (by omega)]
  · have no : limV (if ng then -(n : Int) else (n : Int)) = .tuple [.int .i64 0, .int .i64 10] := by
      rw [limV, if_neg (by unfold In64; cases ng <;> simp <;> omega)]
    rw [no]
    have hz : n / 4294967296 / 4294967296 ≠ 0 := by omega
    have h6 := up6 hn
    unfold limbs
    generalize n / 4294967296 / 4294967296 = q at hz h6
    by_cases e2 : q % 4294967296 = 0
    · rw [small_st2, c_not, c_eqT (by omega)]
      by_cases e3 : q / 4294967296 % 4294967296 = 0
      · rw [small_st3, c_not, c_eqT (by omega)]
        by_cases e4 : q / 4294967296 / 4294967296 % 4294967296 = 0
        · rw [small_st4, c_not, c_eqT (by omega), small_st5, c_not, c_eqF (by omega)]
        · rw [small_st4, c_not, c_eqF (by omega)]
      · rw [small_st3, c_not, c_eqF (by omega)]
    · rw [small_st2, c_not, c_eqF (by omega)]
end Dv

/- How often, and what is left, as the document reckons it. Written by mkwide2.py. -/
namespace Dv
open Go

theorem div_c4 (l m q : List PV) (i : Int) (z w : Nat) (a0 a1 a2 a3 a4 a5 : Int) (h : leB 0 i = true) : computusref01_divide_c4 l m i q z [.int .u64 a0, .int .u64 a1, .int .u64 a2, .int .u64 a3, .int .u64 a4, .int .u64 a5] w = computusref01_divide_c7 l m i q z [.int .u64 (andI .u64 (IntKind.u64.wrap (IntKind.u64.wrap (0 + a0) + a0)) 4294967295), .int .u64 (andI .u64 (IntKind.u64.wrap (IntKind.u64.wrap ((shrI .u64 (IntKind.u64.wrap (IntKind.u64.wrap (0 + a0) + a0)) 32) + a1) + a1)) 4294967295), .int .u64 (andI .u64 (IntKind.u64.wrap (IntKind.u64.wrap ((shrI .u64 (IntKind.u64.wrap (IntKind.u64.wrap ((shrI .u64 (IntKind.u64.wrap (IntKind.u64.wrap (0 + a0) + a0)) 32) + a1) + a1)) 32) + a2) + a2)) 4294967295), .int .u64 (andI .u64 (IntKind.u64.wrap (IntKind.u64.wrap ((shrI .u64 (IntKind.u64.wrap (IntKind.u64.wrap ((shrI .u64 (IntKind.u64.wrap (IntKind.u64.wrap ((shrI .u64 (IntKind.u64.wrap (IntKind.u64.wrap (0 + a0) + a0)) 32) + a1) + a1)) 32) + a2) + a2)) 32) + a3) + a3)) 4294967295), .int .u64 (andI .u64 (IntKind.u64.wrap (IntKind.u64.wrap ((shrI .u64 (IntKind.u64.wrap (IntKind.u64.wrap ((shrI .u64 (IntKind.u64.wrap (IntKind.u64.wrap ((shrI .u64 (IntKind.u64.wrap (IntKind.u64.wrap ((shrI .u64 (IntKind.u64.wrap (IntKind.u64.wrap (0 + a0) + a0)) 32) + a1) + a1)) 32) + a2) + a2)) 32) + a3) + a3)) 32) + a4) + a4)) 4294967295), .int .u64 (andI .u64 (IntKind.u64.wrap (IntKind.u64.wrap ((shrI .u64 (IntKind.u64.wrap (IntKind.u64.wrap ((shrI .u64 (IntKind.u64.wrap (IntKind.u64.wrap ((shrI .u64 (IntKind.u64.wrap (IntKind.u64.wrap ((shrI .u64 (IntKind.u64.wrap (IntKind.u64.wrap ((shrI .u64 (IntKind.u64.wrap (IntKind.u64.wrap (0 + a0) + a0)) 32) + a1) + a1)) 32) + a2) + a2)) 32) + a3) + a3)) 32) + a4) + a4)) 32) + a5) + a5)) 4294967295)] 6 := by
  rw [computusref01_divide_c4_eq, h]; rfl
theorem div_c41 (l m q : List PV) (i : Int) (z : Nat) (a0 a1 a2 a3 a4 a5 : Int) (h : leB 0 i = true) : computusref01_divide_c4_1 l m [.int .u64 a0, .int .u64 a1, .int .u64 a2, .int .u64 a3, .int .u64 a4, .int .u64 a5] i q z = computusref01_divide_c7 l m i q z [.int .u64 (andI .u64 (IntKind.u64.wrap (IntKind.u64.wrap (0 + a0) + a0)) 4294967295), .int .u64 (andI .u64 (IntKind.u64.wrap (IntKind.u64.wrap ((shrI .u64 (IntKind.u64.wrap (IntKind.u64.wrap (0 + a0) + a0)) 32) + a1) + a1)) 4294967295), .int .u64 (andI .u64 (IntKind.u64.wrap (IntKind.u64.wrap ((shrI .u64 (IntKind.u64.wrap (IntKind.u64.wrap ((shrI .u64 (IntKind.u64.wrap (IntKind.u64.wrap (0 + a0) + a0)) 32) + a1) + a1)) 32) + a2) + a2)) 4294967295), .int .u64 (andI .u64 (IntKind.u64.wrap (IntKind.u64.wrap ((shrI .u64 (IntKind.u64.wrap (IntKind.u64.wrap ((shrI .u64 (IntKind.u64.wrap (IntKind.u64.wrap ((shrI .u64 (IntKind.u64.wrap (IntKind.u64.wrap (0 + a0) + a0)) 32) + a1) + a1)) 32) + a2) + a2)) 32) + a3) + a3)) 4294967295), .int .u64 (andI .u64 (IntKind.u64.wrap (IntKind.u64.wrap ((shrI .u64 (IntKind.u64.wrap (IntKind.u64.wrap ((shrI .u64 (IntKind.u64.wrap (IntKind.u64.wrap ((shrI .u64 (IntKind.u64.wrap (IntKind.u64.wrap ((shrI .u64 (IntKind.u64.wrap (IntKind.u64.wrap (0 + a0) + a0)) 32) + a1) + a1)) 32) + a2) + a2)) 32) + a3) + a3)) 32) + a4) + a4)) 4294967295), .int .u64 (andI .u64 (IntKind.u64.wrap (IntKind.u64.wrap ((shrI .u64 (IntKind.u64.wrap (IntKind.u64.wrap ((shrI .u64 (IntKind.u64.wrap (IntKind.u64.wrap ((shrI .u64 (IntKind.u64.wrap (IntKind.u64.wrap ((shrI .u64 (IntKind.u64.wrap (IntKind.u64.wrap ((shrI .u64 (IntKind.u64.wrap (IntKind.u64.wrap (0 + a0) + a0)) 32) + a1) + a1)) 32) + a2) + a2)) 32) + a3) + a3)) 32) + a4) + a4)) 32) + a5) + a5)) 4294967295)] 6 := by
  rw [computusref01_divide_c4_1_eq, h]; rfl

theorem dbl (r : Nat) (l : Int → Int → Int → Int → Int → Int → Option PV) : True := trivial
theorem dbl_c4 (l m q : List PV) (i : Int) (z w r : Nat) (h : leB 0 i = true) : computusref01_divide_c4 l m i q z (limbs r) w = computusref01_divide_c7 l m i q z (limbs (2 * r)) 6 := by
  obtain ⟨c1, g1, h1, e1, f1⟩ := addS (c := 0) (x := r) (y := r) (s := 2 * r) (by omega) (by omega)
  obtain ⟨c2, g2, h2, e2, f2⟩ := addS g1 h1
  obtain ⟨c3, g3, h3, e3, f3⟩ := addS g2 h2
  obtain ⟨c4, g4, h4, e4, f4⟩ := addS g3 h3
  obtain ⟨c5, g5, h5, e5, f5⟩ := addS g4 h4
  obtain ⟨c6, g6, h6, e6, f6⟩ := addS g5 h5
  have z0 : ((0 : Nat) : Int) = 0 := rfl
  rw [z0] at e1 f1
  unfold limbs
  rw [div_c4 l m q i z w _ _ _ _ _ _ h]
  rw [e1, f1]
  rw [e2, f2]
  rw [e3, f3]
  rw [e4, f4]
  rw [e5, f5]
  rw [f6]
theorem dbl_c41 (l m q : List PV) (i : Int) (z r : Nat) (h : leB 0 i = true) : computusref01_divide_c4_1 l m (limbs r) i q z = computusref01_divide_c7 l m i q z (limbs (2 * r)) 6 := by
  obtain ⟨c1, g1, h1, e1, f1⟩ := addS (c := 0) (x := r) (y := r) (s := 2 * r) (by omega) (by omega)
  obtain ⟨c2, g2, h2, e2, f2⟩ := addS g1 h1
  obtain ⟨c3, g3, h3, e3, f3⟩ := addS g2 h2
  obtain ⟨c4, g4, h4, e4, f4⟩ := addS g3 h3
  obtain ⟨c5, g5, h5, e5, f5⟩ := addS g4 h4
  obtain ⟨c6, g6, h6, e6, f6⟩ := addS g5 h5
  have z0 : ((0 : Nat) : Int) = 0 := rfl
  rw [z0] at e1 f1
  unfold limbs
  rw [div_c41 l m q i z _ _ _ _ _ _ h]
  rw [e1, f1]
  rw [e2, f2]
  rw [e3, f3]
  rw [e4, f4]
  rw [e5, f5]
  rw [f6]

/-! ### bits -/
theorem and1 {n : Nat} (h : n < 18446744073709551616) : andI .u64 (n : Int) 1 = ((n % 2 : Nat) : Int) := by
  unfold andI
  have hb : IntKind.u64.bits = 64 := rfl
  rw [hb, BitVec.toNat_and]
  have e1 : (BitVec.ofInt 64 (n : Int)).toNat = n := by rw [BitVec.toNat_ofInt]; omega
  have e2 : (BitVec.ofInt 64 1).toNat = 1 := by decide
  rw [e1, e2, Nat.and_one_is_mod, IntKind.wrap_u64]
  omega
theorem shrM {n m : Nat} (hm : m < 32) : shrI .u64 (n : Int) (m : Int) = ((n / 2 ^ m : Nat) : Int) := by
  unfold shrI
  have : min (m : Int).toNat IntKind.u64.bits = m := by have : IntKind.u64.bits = 64 := rfl; omega
  rw [this, Int.fdiv_eq_ediv_of_nonneg _ (Int.pow_nonneg (by omega)), Int.natCast_ediv, Int.natCast_pow]
  rfl
theorem bit_s {a m : Nat} (hm : m < 32) : andI .u64 (shrI .u64 ((a % 4294967296 : Nat) : Int) (m : Int)) 1 = ((a / 2 ^ m % 2 : Nat) : Int) := by
  have hle : a % 4294967296 / 2 ^ m ≤ a % 4294967296 := Nat.div_le_self _ _
  rw [shrM hm, and1 (by omega)]
  congr 1
  have e : (4294967296 : Nat) = 2 ^ m * 2 ^ (32 - m) := by
    rw [← Nat.pow_add, show m + (32 - m) = 32 by omega]
  rw [e, Nat.mod_mul_right_div_self]
  exact Nat.mod_mod_of_dvd _ ⟨2 ^ (32 - m - 1), by rw [← Nat.pow_succ']; congr 1; omega⟩
theorem orE {r c : Nat} (h : r % 2 = 0) (hr : r < 18446744073709551616) (hc : c < 2) : orI .u64 (r : Int) (c : Int) = ((r + c : Nat) : Int) := by
  unfold orI
  have hb : IntKind.u64.bits = 64 := rfl
  rw [hb, BitVec.toNat_or]
  have e1 : (BitVec.ofInt 64 (r : Int)).toNat = r := by rw [BitVec.toNat_ofInt]; omega
  have e2 : (BitVec.ofInt 64 (c : Int)).toNat = c := by rw [BitVec.toNat_ofInt]; omega
  rw [e1, e2]
  have := Nat.shiftLeft_add_eq_or_of_lt (b := c) (i := 1) (by omega) (r / 2)
  rw [Nat.shiftLeft_eq, show r / 2 * 2 ^ 1 = r by omega] at this
  rw [← this, IntKind.wrap_u64]; omega
theorem orP {p m k : Nat} (hm : m < 32) (h : p = 2 ^ (m + 1) * k) : orI .u64 ((p % 4294967296 : Nat) : Int) (shlI .u64 1 (m : Int)) = ((p % 4294967296 + 2 ^ m : Nat) : Int) ∧ p % 4294967296 + 2 ^ m < 4294967296 := by
  have h2 : 2 ^ m < 4294967296 := Nat.pow_lt_pow_of_lt (a := 2) (by omega) hm
  have es : shlI .u64 1 (m : Int) = ((2 ^ m : Nat) : Int) := by
    unfold shlI
    have : min (m : Int).toNat IntKind.u64.bits = m := by have : IntKind.u64.bits = 64 := rfl; omega
    have e3 : ((2 : Int) ^ m) = ((2 ^ m : Nat) : Int) := by rw [Int.natCast_pow]; rfl
    rw [this, IntKind.wrap_u64, Int.one_mul, e3]
    generalize 2 ^ m = t at h2
    omega
  have e : (4294967296 : Nat) = 2 ^ (m + 1) * 2 ^ (31 - m) := by
    rw [← Nat.pow_add, show m + 1 + (31 - m) = 32 by omega]
  have ep : p % 4294967296 = 2 ^ (m + 1) * (k % 2 ^ (31 - m)) := by rw [h, e, Nat.mul_mod_mul_left]
  have hp : p % 4294967296 < 4294967296 := Nat.mod_lt _ (by omega)
  have lt : p % 4294967296 + 2 ^ m < 4294967296 := by
    have hk : k % 2 ^ (31 - m) + 1 ≤ 2 ^ (31 - m) := Nat.mod_lt _ (Nat.pow_pos (by omega))
    have := Nat.mul_le_mul_left (2 ^ (m + 1)) hk
    rw [← e, Nat.mul_add, ← ep, Nat.mul_one, Nat.pow_succ] at this
    have hpos : 0 < 2 ^ m := Nat.pow_pos (by omega)
    omega
  refine ⟨?_, lt⟩
  rw [es]
  unfold orI
  have hb : IntKind.u64.bits = 64 := rfl
  rw [hb, BitVec.toNat_or]
  have e1 : (BitVec.ofInt 64 ((p % 4294967296 : Nat) : Int)).toNat = p % 4294967296 := by rw [BitVec.toNat_ofInt]; omega
  have e2 : (BitVec.ofInt 64 ((2 ^ m : Nat) : Int)).toNat = 2 ^ m := by
    rw [BitVec.toNat_ofInt]
    generalize 2 ^ m = t at h2
    omega
  rw [e1, e2]
  have := Nat.shiftLeft_add_eq_or_of_lt (b := 2 ^ m) (i := m + 1) (Nat.pow_lt_pow_of_lt (by omega) (by omega)) (k % 2 ^ (31 - m))
  rw [Nat.shiftLeft_eq, Nat.mul_comm, ← ep] at this
  rw [← this, IntKind.wrap_u64]; omega

/-! ### parts -/
theorem limb_at (a j : Nat) (hj : j < 6) : rdT (tiInt .u64) (limbs a) j 0 = some (.int .u64 ((a / 4294967296 ^ j % 4294967296 : Nat) : Int)) := by
  match j, hj with
  | 0, _ => rw [Nat.pow_zero, Nat.div_one]; rfl
  | 1, _ => rw [Nat.pow_one]; rfl
  | 2, _ => rw [show 4294967296 ^ 2 = 4294967296 * 4294967296 by decide, ← Nat.div_div_eq_div_mul]; rfl
  | 3, _ => rw [show 4294967296 ^ 3 = 4294967296 * 4294967296 * 4294967296 by decide, ← Nat.div_div_eq_div_mul, ← Nat.div_div_eq_div_mul]; rfl
  | 4, _ => rw [show 4294967296 ^ 4 = 4294967296 * 4294967296 * 4294967296 * 4294967296 by decide, ← Nat.div_div_eq_div_mul, ← Nat.div_div_eq_div_mul, ← Nat.div_div_eq_div_mul]; rfl
  | 5, _ => rw [show 4294967296 ^ 5 = 4294967296 * 4294967296 * 4294967296 * 4294967296 * 4294967296 by decide, ← Nat.div_div_eq_div_mul, ← Nat.div_div_eq_div_mul, ← Nat.div_div_eq_div_mul, ← Nat.div_div_eq_div_mul]; rfl

theorem limb_set (p e j : Nat) (hj : j < 6) (h : p % 4294967296 + e < 4294967296) : stC (limbs (p * 4294967296 ^ j)) j 0 [.int .u64 ((p % 4294967296 + e : Nat) : Int)] = some (limbs ((p + e) * 4294967296 ^ j)) := by
  have h1 : (p + e) % 4294967296 = p % 4294967296 + e := by omega
  have h2 : (p + e) / 4294967296 = p / 4294967296 := by omega
  have hB : 0 < 4294967296 := by omega
  match j, hj with
  | 0, _ =>
    rw [Nat.pow_zero, Nat.mul_one, Nat.mul_one]
    unfold limbs; rw [h1, h2]; rfl
  | 1, _ =>
    rw [Nat.pow_one]
    unfold limbs; simp only [Nat.mul_div_cancel _ hB, Nat.mul_mod_left, h1, h2]; rfl
  | 2, _ =>
    rw [show p * 4294967296 ^ 2 = p * 4294967296 * 4294967296 by rw [show 4294967296 ^ 2 = 4294967296 * 4294967296 by decide]; simp only [Nat.mul_assoc], show (p + e) * 4294967296 ^ 2 = (p + e) * 4294967296 * 4294967296 by rw [show 4294967296 ^ 2 = 4294967296 * 4294967296 by decide]; simp only [Nat.mul_assoc]]
    unfold limbs; simp only [Nat.mul_div_cancel _ hB, Nat.mul_mod_left, h1, h2]; rfl
  | 3, _ =>
    rw [show p * 4294967296 ^ 3 = p * 4294967296 * 4294967296 * 4294967296 by rw [show 4294967296 ^ 3 = 4294967296 * 4294967296 * 4294967296 by decide]; simp only [Nat.mul_assoc], show (p + e) * 4294967296 ^ 3 = (p + e) * 4294967296 * 4294967296 * 4294967296 by rw [show 4294967296 ^ 3 = 4294967296 * 4294967296 * 4294967296 by decide]; simp only [Nat.mul_assoc]]
    unfold limbs; simp only [Nat.mul_div_cancel _ hB, Nat.mul_mod_left, h1, h2]; rfl
  | 4, _ =>
    rw [show p * 4294967296 ^ 4 = p * 4294967296 * 4294967296 * 4294967296 * 4294967296 by rw [show 4294967296 ^ 4 = 4294967296 * 4294967296 * 4294967296 * 4294967296 by decide]; simp only [Nat.mul_assoc], show (p + e) * 4294967296 ^ 4 = (p + e) * 4294967296 * 4294967296 * 4294967296 * 4294967296 by rw [show 4294967296 ^ 4 = 4294967296 * 4294967296 * 4294967296 * 4294967296 by decide]; simp only [Nat.mul_assoc]]
    unfold limbs; simp only [Nat.mul_div_cancel _ hB, Nat.mul_mod_left, h1, h2]; rfl
  | 5, _ =>
    rw [show p * 4294967296 ^ 5 = p * 4294967296 * 4294967296 * 4294967296 * 4294967296 * 4294967296 by rw [show 4294967296 ^ 5 = 4294967296 * 4294967296 * 4294967296 * 4294967296 * 4294967296 by decide]; simp only [Nat.mul_assoc], show (p + e) * 4294967296 ^ 5 = (p + e) * 4294967296 * 4294967296 * 4294967296 * 4294967296 * 4294967296 by rw [show 4294967296 ^ 5 = 4294967296 * 4294967296 * 4294967296 * 4294967296 * 4294967296 by decide]; simp only [Nat.mul_assoc]]
    unfold limbs; simp only [Nat.mul_div_cancel _ hB, Nat.mul_mod_left, h1, h2]; rfl

theorem limb_low (r c : Nat) (h : r % 2 = 0) (hc : c < 2) : stC (limbs r) 0 0 [.int .u64 ((r % 4294967296 + c : Nat) : Int)] = some (limbs (r + c)) := by
  have := limb_set r c 0 (by omega) (by omega)
  rw [Nat.pow_zero, Nat.mul_one, Nat.mul_one] at this
  exact this

theorem limbs_len (n : Nat) : ((limbs n).length : Int) = 6 := rfl

/-- One turn. -/
theorem div_turn {a b r q j m k : Nat} (z w : Nat) (hj : j < 6) (hm : m < 32) (hr : r % 2 = 0) (hr2 : r < 3138550867693340381917894711603833208051177722232017256446) (hb : b < 6277101735386680763835789423207666416102355444464034512896)
    (hq : q = 2 ^ (m + 1) * k * 4294967296 ^ j) :
    computusref01_divide_c7 (limbs a) (limbs b) ((32 * j + m : Nat) : Int) (limbs q) z (limbs r) w =
      if b ≤ r + a / 2 ^ (32 * j + m) % 2 then computusref01_divide_c4_1 (limbs a) (limbs b) (limbs (r + a / 2 ^ (32 * j + m) % 2 - b)) (((32 * j + m : Nat) : Int) - 1) (limbs (q + 2 ^ (32 * j + m))) z
      else computusref01_divide_c4 (limbs a) (limbs b) (((32 * j + m : Nat) : Int) - 1) (limbs q) z (limbs (r + a / 2 ^ (32 * j + m) % 2)) w := by
  have i1 : IntKind.i64.wrap (Int.tdiv ((32 * j + m : Nat) : Int) 32) = (j : Int) := by rw [tdiv_pos (by omega), w64 (by omega) (by omega)]; omega
  have i2 : IntKind.u64.wrap (Int.tmod ((32 * j + m : Nat) : Int) 32) = (m : Int) := by rw [tmod_pos (by omega), wu64 (by omega) (by omega)]; omega
  have ab : a / 4294967296 ^ j / 2 ^ m = a / 2 ^ (32 * j + m) := by
    rw [Nat.div_div_eq_div_mul, show (4294967296 : Nat) = 2 ^ 32 by decide, ← Nat.pow_mul, ← Nat.pow_add]
  have hbit : a / 2 ^ (32 * j + m) % 2 < 2 := Nat.mod_lt _ (by omega)
  rw [computusref01_divide_c7_eq, i1, i2, limbs_len, c_inT (by omega)]
  have r0 : rdT (tiInt .u64) (limbs r) 0 0 = some (.int .u64 ((r % 4294967296 : Nat) : Int)) := rfl
  rw [r0, rdI_n, limb_at a j hj]
  simp only [Option.bind_some, toI_int]
  rw [c_ltF (by omega), c_inT (by omega), bit_s hm, ab, orE (by omega) (by omega) hbit, limb_low r _ hr hbit]
  simp only [Option.bind_some]
  rw [rcmp_s (by omega) hb]
  simp only [Option.bind_some, toI_int]
  generalize a / 2 ^ (32 * j + m) % 2 = c at hbit
  by_cases hc : b ≤ r + c
  · have : (0 : Int) ≤ cmpI (r + c) b := by
      unfold cmpI; rw [if_neg (by omega)]; split <;> omega
    rw [c_leT this, if_pos hc, rless_s hc]
    simp only [Option.bind_some, toL_sl]
    rw [limbs_len, c_inT (by omega), Int.toNat_natCast, limb_at q j hj]
    simp only [Option.bind_some, toI_int]
    rw [c_ltF (by omega), c_inT (by omega)]
    have hqd : q / 4294967296 ^ j = 2 ^ (m + 1) * k := by rw [hq, Nat.mul_div_cancel _ (Nat.pow_pos (by omega))]
    obtain ⟨o1, o2⟩ := orP (p := 2 ^ (m + 1) * k) hm rfl
    rw [hqd, o1]
    have := limb_set (2 ^ (m + 1) * k) (2 ^ m) j hj o2
    rw [← hq] at this
    rw [this]
    simp only [Option.bind_some]
    have e : (2 ^ (m + 1) * k + 2 ^ m) * 4294967296 ^ j = q + 2 ^ (32 * j + m) := by
      rw [Nat.add_mul, ← hq, show (4294967296 : Nat) = 2 ^ 32 by decide, ← Nat.pow_mul, ← Nat.pow_add, Nat.add_comm m]
    rw [e, w64 (by omega) (by omega)]
  · have : ¬ (0 : Int) ≤ cmpI (r + c) b := by
      unfold cmpI; rw [if_pos (by omega)]; omega
    rw [c_leF this, if_neg hc, w64 (by omega) (by omega)]

theorem div_math {A b c : Nat} (hb : 0 < b) (hc : c < 2) :
    (b ≤ 2 * (A % b) + c → (2 * A + c) / b = 2 * (A / b) + 1 ∧ (2 * A + c) % b = 2 * (A % b) + c - b) ∧ (¬ b ≤ 2 * (A % b) + c → (2 * A + c) / b = 2 * (A / b) ∧ (2 * A + c) % b = 2 * (A % b) + c) := by
  have h1 := Nat.div_add_mod A b
  have h2 := Nat.mod_lt A hb
  generalize A / b = Q at h1
  generalize A % b = R at h1 h2
  subst h1
  constructor
  · intro h
    have e : 2 * (b * Q + R) + c = (2 * R + c - b) + b * (2 * Q + 1) := by
      rw [Nat.mul_add b, Nat.mul_one, show b * (2 * Q) = 2 * (b * Q) by rw [Nat.mul_left_comm]]; omega
    rw [e, Nat.add_mul_div_left _ _ hb, Nat.add_mul_mod_self_left, Nat.div_eq_of_lt (by omega), Nat.mod_eq_of_lt (by omega)]
    omega
  · intro h
    have e : 2 * (b * Q + R) + c = (2 * R + c) + b * (2 * Q) := by
      rw [show b * (2 * Q) = 2 * (b * Q) by rw [Nat.mul_left_comm]]; omega
    rw [e, Nat.add_mul_div_left _ _ hb, Nat.add_mul_mod_self_left, Nat.div_eq_of_lt (by omega), Nat.mod_eq_of_lt (by omega)]
    omega

theorem div_loop {a b : Nat} (hb : 0 < b) (hb2 : b < 1000000000000000000000000000000000000000000000000000000000) : ∀ (n : Nat), n ≤ 192 →
    (∀ z w, computusref01_divide_c4 (limbs a) (limbs b) ((n : Int) - 1) (limbs (2 ^ n * (a / 2 ^ n / b))) z (limbs (a / 2 ^ n % b)) w = some (.tuple [.sl 1 (limbs (a / b)), .sl 1 (limbs (a % b))])) ∧
    (∀ z, computusref01_divide_c4_1 (limbs a) (limbs b) (limbs (a / 2 ^ n % b)) ((n : Int) - 1) (limbs (2 ^ n * (a / 2 ^ n / b))) z = some (.tuple [.sl 1 (limbs (a / b)), .sl 1 (limbs (a % b))]))
  | 0, _ => by
    simp only [Nat.pow_zero, Nat.div_one, Nat.one_mul]
    constructor
    · intro z w; rw [computusref01_divide_c4_eq]; rfl
    · intro z; rw [computusref01_divide_c4_1_eq]; rfl
  | n + 1, hn => by
    have ih := div_loop (a := a) hb hb2 n (by omega)
    have e0 : ((n + 1 : Nat) : Int) - 1 = (n : Int) := by omega
    have hl : leB 0 (n : Int) = true := decide_eq_true (by omega)
    have hA : a / 2 ^ n = 2 * (a / 2 ^ (n + 1)) + a / 2 ^ n % 2 := by
      have : a / 2 ^ (n + 1) = a / 2 ^ n / 2 := by rw [Nat.pow_succ, Nat.div_div_eq_div_mul]
      omega
    have hR := Nat.mod_lt (a / 2 ^ (n + 1)) hb
    have hbit : a / 2 ^ n % 2 < 2 := Nat.mod_lt _ (by omega)
    obtain ⟨m1, m2⟩ := div_math (A := a / 2 ^ (n + 1)) hb hbit
    rw [← hA] at m1 m2
    have turn : ∀ z w, computusref01_divide_c7 (limbs a) (limbs b) (n : Int) (limbs (2 ^ (n + 1) * (a / 2 ^ (n + 1) / b))) z (limbs (2 * (a / 2 ^ (n + 1) % b))) w = some (.tuple [.sl 1 (limbs (a / b)), .sl 1 (limbs (a % b))]) := by
      intro z w
      have hn2 : 32 * (n / 32) + n % 32 = n := by omega
      have := div_turn (a := a) (b := b) (r := 2 * (a / 2 ^ (n + 1) % b)) (q := 2 ^ (n + 1) * (a / 2 ^ (n + 1) / b)) (j := n / 32) (m := n % 32) (k := a / 2 ^ (n + 1) / b) z w (by omega) (by omega) (by omega) (by omega) (by omega)
        (by
          rw [Nat.mul_right_comm]
          congr 1
          rw [show (4294967296 : Nat) = 2 ^ 32 by decide, ← Nat.pow_mul, ← Nat.pow_add]
          congr 1; omega)
      rw [hn2] at this
      rw [this]
      by_cases hc : b ≤ 2 * (a / 2 ^ (n + 1) % b) + a / 2 ^ n % 2
      · obtain ⟨q1, q2⟩ := m1 hc
        rw [if_pos hc, ← q2]
        have : 2 ^ (n + 1) * (a / 2 ^ (n + 1) / b) + 2 ^ n = 2 ^ n * (a / 2 ^ n / b) := by
          rw [q1, Nat.mul_add, Nat.mul_one, Nat.pow_succ, Nat.mul_assoc]
        rw [this]
        exact ih.2 z
      · obtain ⟨q1, q2⟩ := m2 hc
        rw [if_neg hc, ← q2]
        have : 2 ^ (n + 1) * (a / 2 ^ (n + 1) / b) = 2 ^ n * (a / 2 ^ n / b) := by
          rw [q1, Nat.pow_succ, Nat.mul_assoc]
        rw [this]
        exact ih.1 z w
    constructor
    · intro z w
      rw [e0, dbl_c4 _ _ _ _ _ _ _ hl]
      exact turn z 6
    · intro z
      rw [e0, dbl_c41 _ _ _ _ _ _ hl]
      exact turn z 6

theorem rdivide_s {a b : Nat} (ha : a < 6277101735386680763835789423207666416102355444464034512896) (hb : 0 < b) (hb2 : b < 1000000000000000000000000000000000000000000000000000000000) :
    computusref01_divide (limbs a) (limbs b) = some (.tuple [.sl 1 (limbs (a / b)), .sl 1 (limbs (a % b))]) := by
  rw [computusref01_divide_eq]
  have h := (div_loop (a := a) hb hb2 192 (by omega)).1 6 6
  have e : a / 2 ^ 192 = 0 := Nat.div_eq_of_lt (by rw [show (2 : Nat) ^ 192 = 6277101735386680763835789423207666416102355444464034512896 by decide]; exact ha)
  rw [e, Nat.zero_div, Nat.zero_mod, Nat.mul_zero, limbs_zero] at h
  exact h
end Dv

/- Sums, products, quotients of wide numbers, as the document reckons them. Written by mkwide3.py. -/
namespace Dv
open Go

def wI (v : Int) : PV := .agg [.bool (decide (v < 0)), .sl 1 (limbs v.natAbs)]

theorem ofI_s {a : Int} (h : In64 a) : computusref01_Of a = some (wI a) := rOf_s h

theorem plus_s {a b : Int} (ha : a.natAbs < 1000000000000000000000000000000000000000000000000000000000) (hb : b.natAbs < 1000000000000000000000000000000000000000000000000000000000) :
    computusref01_Plus (decide (a < 0)) (limbs a.natAbs) (decide (b < 0)) (limbs b.natAbs) = some (wI (a + b)) := by
  have fin : ∀ (g : Bool) (n : Nat) (v : Int), g = decide (v < 0) → n = v.natAbs → some (PV.agg [.bool g, .sl 1 (limbs n)]) = some (wI v) := by
    intro g n v h1 h2; subst h1; subst h2; rfl
  rw [computusref01_Plus_eq]
  by_cases hs : decide (a < 0) = decide (b < 0)
  · rw [hs, beq_self_eq_true, cond_true, radd_s]
    simp only [Option.bind_some, toL_sl]
    have hd := decide_eq_decide.mp hs
    apply fin
    · rw [decide_eq_decide]; omega
    · omega
  · have hf : (decide (a < 0) == decide (b < 0)) = false := by simpa using hs
    have hd : ¬ (a < 0 ↔ b < 0) := fun e => hs (decide_eq_decide.mpr e)
    rw [hf, cond_false, rcmp_s (by omega) (by omega)]
    simp only [Option.bind_some, toI_int]
    by_cases hc : b.natAbs ≤ a.natAbs
    · have h0 : (0 : Int) ≤ cmpI a.natAbs b.natAbs := by unfold cmpI; rw [if_neg (by omega)]; split <;> omega
      rw [c_leT h0, rless_s hc]
      simp only [Option.bind_some, toL_sl]
      by_cases hn : a < 0
      · rw [decide_eq_true hn, cond_true]
        apply fin
        · unfold ltB; rw [decide_eq_decide]; unfold cmpI; rw [if_neg (by omega)]; split <;> omega
        · omega
      · rw [decide_eq_false hn, cond_false]
        apply fin
        · symm; rw [decide_eq_false_iff_not]; omega
        · omega
    · have h0 : ¬ (0 : Int) ≤ cmpI a.natAbs b.natAbs := by unfold cmpI; rw [if_pos (by omega)]; omega
      rw [c_leF h0, rless_s (by omega)]
      simp only [Option.bind_some, toL_sl]
      apply fin
      · rw [decide_eq_decide]; omega
      · omega

theorem minus_s {a : Int} (ha : a.natAbs < 1000000000000000000000000000000000000000000000000000000000) : computusref01_Minus (decide (a < 0)) (limbs a.natAbs) = some (wI (-a)) := by
  rw [computusref01_Minus_eq, c_not]
  have e : (-a).natAbs = a.natAbs := by omega
  by_cases hn : a < 0
  · rw [decide_eq_true hn, cond_true]
    unfold wI
    rw [e, decide_eq_false (by omega)]
  · rw [decide_eq_false hn, cond_false, rzero_s (by omega)]
    simp only [Option.bind_some, toB_bool]
    unfold wI
    rw [e, ← decide_not]
    congr 4
    rw [decide_eq_decide]; omega

theorem over_s {a b : Int} (ha : a.natAbs < 1000000000000000000000000000000000000000000000000000000000) (hb : 0 < b) (hb2 : b < 1000000000000000000000000000000000000000000000000000000000) :
    computusref01_Over (decide (a < 0)) (limbs a.natAbs) (decide (b < 0)) (limbs b.natAbs) = some (wI (a / b)) := by
  rw [computusref01_Over_eq, rdivide_s (by omega) (by omega) (by omega), decide_eq_false (show ¬ b < 0 by omega)]
  simp only [Option.bind_some, tn0, tn1, toL_sl]
  obtain ⟨k, rfl⟩ := Int.eq_ofNat_of_zero_le (show 0 ≤ b by omega)
  rw [Int.natAbs_natCast]
  have hk : 0 < k := by omega
  have hqle : a.natAbs / k ≤ a.natAbs := Nat.div_le_self _ _
  have hrlt : a.natAbs % k < k := Nat.mod_lt _ hk
  have hdm := Nat.div_add_mod a.natAbs k
  by_cases hn : a < 0
  · rw [decide_eq_true hn]
    have tf : (true == false) = false := rfl
    simp only [tf, Bool.not_false, cond_true]
    rw [rzero_s (by omega)]
    simp only [Option.bind_some, toB_bool]
    generalize hq : a.natAbs / k = q at *
    generalize hr : a.natAbs % k = r at *
    have hkq : ((k * q : Nat) : Int) = (k : Int) * (q : Int) := Int.natCast_mul _ _
    by_cases hz : r = 0
    · rw [decide_eq_true hz, Bool.not_true, cond_false, rzero_s (by omega)]
      simp only [Option.bind_some, toB_bool]
      have hv : a / (k : Int) = -(q : Int) := by
        have : a = (k : Int) * (-(q : Int)) := by rw [Int.mul_neg, ← hkq]; omega
        rw [this, Int.mul_ediv_cancel_left _ (by omega)]
      unfold wI
      rw [hv, ← decide_not, Int.natAbs_neg, Int.natAbs_natCast]
      congr 4
      rw [decide_eq_decide]; omega
    · rw [decide_eq_false hz, Bool.not_false, cond_true, computusref01_Over_c3_eq, ofI_s (by unfold In64; omega)]
      simp only [Option.bind_some]
      rw [show (wI 1).nth 1 = .sl 1 (limbs 1) from rfl, toL_sl, radd_s]
      simp only [Option.bind_some, toL_sl, tf, Bool.not_false, cond_true]
      rw [rzero_s (by omega)]
      simp only [Option.bind_some, toB_bool]
      have hv : a / (k : Int) = -((q + 1 : Nat) : Int) := by
        have h2 : a = ((k : Int) - r) + (k : Int) * (-((q + 1 : Nat) : Int)) := by
          rw [Int.mul_neg, show (k : Int) * ((q + 1 : Nat) : Int) = ((k * q : Nat) : Int) + k by rw [hkq, Int.natCast_add, Int.mul_add]; omega]; omega
        rw [h2, Int.add_mul_ediv_left _ _ (by omega), Int.ediv_eq_zero_of_lt (by omega) (by omega)]; omega
      unfold wI
      rw [hv, ← decide_not, Int.natAbs_neg, Int.natAbs_natCast]
      congr 4
      rw [decide_eq_decide]; omega
  · rw [decide_eq_false hn]
    have ff : (false == false) = true := rfl
    simp only [ff, Bool.not_true, cond_false]
    have hv : a / (k : Int) = ((a.natAbs / k : Nat) : Int) := by
      obtain ⟨m, rfl⟩ := Int.eq_ofNat_of_zero_le (show 0 ≤ a by omega)
      rw [Int.natAbs_natCast, Int.natCast_ediv]
    unfold wI
    rw [hv, Int.natAbs_natCast, decide_eq_false (show ¬ ((a.natAbs / k : Nat) : Int) < 0 from by have := Int.natCast_nonneg (a.natAbs / k); omega)]

/-! ### products -/
theorem times_in00 (c : Int) (a0 a1 a2 a3 a4 a5 : Int) (b0 b1 b2 b3 b4 b5 : Int) (o0 o1 o2 o3 o4 o5 : Int) (p q s : Bool) (t : List PV) (z w : Nat) : computusref01_Times_c8 0 c 0 p [.int .u64 a0, .int .u64 a1, .int .u64 a2, .int .u64 a3, .int .u64 a4, .int .u64 a5] q [.int .u64 b0, .int .u64 b1, .int .u64 b2, .int .u64 b3, .int .u64 b4, .int .u64 b5] s t z [.int .u64 o0, .int .u64 o1, .int .u64 o2, .int .u64 o3, .int .u64 o4, .int .u64 o5] w = computusref01_Times_c8 0 (shrI .u64 (IntKind.u64.wrap (c + IntKind.u64.wrap (a0 * b0))) 32) 1 p [.int .u64 a0, .int .u64 a1, .int .u64 a2, .int .u64 a3, .int .u64 a4, .int .u64 a5] q [.int .u64 b0, .int .u64 b1, .int .u64 b2, .int .u64 b3, .int .u64 b4, .int .u64 b5] s t z [.int .u64 (andI .u64 (IntKind.u64.wrap (c + IntKind.u64.wrap (a0 * b0))) 4294967295), .int .u64 o1, .int .u64 o2, .int .u64 o3, .int .u64 o4, .int .u64 o5] w := by
  rw [computusref01_Times_c8_eq]; rfl
theorem times_in01 (c : Int) (a0 a1 a2 a3 a4 a5 : Int) (b0 b1 b2 b3 b4 b5 : Int) (o0 o1 o2 o3 o4 o5 : Int) (p q s : Bool) (t : List PV) (z w : Nat) : computusref01_Times_c8 0 c 1 p [.int .u64 a0, .int .u64 a1, .int .u64 a2, .int .u64 a3, .int .u64 a4, .int .u64 a5] q [.int .u64 b0, .int .u64 b1, .int .u64 b2, .int .u64 b3, .int .u64 b4, .int .u64 b5] s t z [.int .u64 o0, .int .u64 o1, .int .u64 o2, .int .u64 o3, .int .u64 o4, .int .u64 o5] w = computusref01_Times_c8 0 (shrI .u64 (IntKind.u64.wrap (c + IntKind.u64.wrap (a0 * b1))) 32) 2 p [.int .u64 a0, .int .u64 a1, .int .u64 a2, .int .u64 a3, .int .u64 a4, .int .u64 a5] q [.int .u64 b0, .int .u64 b1, .int .u64 b2, .int .u64 b3, .int .u64 b4, .int .u64 b5] s t z [.int .u64 o0, .int .u64 (andI .u64 (IntKind.u64.wrap (c + IntKind.u64.wrap (a0 * b1))) 4294967295), .int .u64 o2, .int .u64 o3, .int .u64 o4, .int .u64 o5] w := by
  rw [computusref01_Times_c8_eq]; rfl
theorem times_in02 (c : Int) (a0 a1 a2 a3 a4 a5 : Int) (b0 b1 b2 b3 b4 b5 : Int) (o0 o1 o2 o3 o4 o5 : Int) (p q s : Bool) (t : List PV) (z w : Nat) : computusref01_Times_c8 0 c 2 p [.int .u64 a0, .int .u64 a1, .int .u64 a2, .int .u64 a3, .int .u64 a4, .int .u64 a5] q [.int .u64 b0, .int .u64 b1, .int .u64 b2, .int .u64 b3, .int .u64 b4, .int .u64 b5] s t z [.int .u64 o0, .int .u64 o1, .int .u64 o2, .int .u64 o3, .int .u64 o4, .int .u64 o5] w = computusref01_Times_c8 0 (shrI .u64 (IntKind.u64.wrap (c + IntKind.u64.wrap (a0 * b2))) 32) 3 p [.int .u64 a0, .int .u64 a1, .int .u64 a2, .int .u64 a3, .int .u64 a4, .int .u64 a5] q [.int .u64 b0, .int .u64 b1, .int .u64 b2, .int .u64 b3, .int .u64 b4, .int .u64 b5] s t z [.int .u64 o0, .int .u64 o1, .int .u64 (andI .u64 (IntKind.u64.wrap (c + IntKind.u64.wrap (a0 * b2))) 4294967295), .int .u64 o3, .int .u64 o4, .int .u64 o5] w := by
  rw [computusref01_Times_c8_eq]; rfl
theorem times_in10 (c : Int) (a0 a1 a2 a3 a4 a5 : Int) (b0 b1 b2 b3 b4 b5 : Int) (o0 o1 o2 o3 o4 o5 : Int) (p q s : Bool) (t : List PV) (w : Nat) : computusref01_Times_c8_1 t 1 c 0 p [.int .u64 a0, .int .u64 a1, .int .u64 a2, .int .u64 a3, .int .u64 a4, .int .u64 a5] q [.int .u64 b0, .int .u64 b1, .int .u64 b2, .int .u64 b3, .int .u64 b4, .int .u64 b5] s [.int .u64 o0, .int .u64 o1, .int .u64 o2, .int .u64 o3, .int .u64 o4, .int .u64 o5] w = computusref01_Times_c8_1 t 1 (shrI .u64 (IntKind.u64.wrap (c + IntKind.u64.wrap (a1 * b0))) 32) 1 p [.int .u64 a0, .int .u64 a1, .int .u64 a2, .int .u64 a3, .int .u64 a4, .int .u64 a5] q [.int .u64 b0, .int .u64 b1, .int .u64 b2, .int .u64 b3, .int .u64 b4, .int .u64 b5] s [.int .u64 o0, .int .u64 (andI .u64 (IntKind.u64.wrap (c + IntKind.u64.wrap (a1 * b0))) 4294967295), .int .u64 o2, .int .u64 o3, .int .u64 o4, .int .u64 o5] w := by
  rw [computusref01_Times_c8_1_eq]; rfl
theorem times_in11 (c : Int) (a0 a1 a2 a3 a4 a5 : Int) (b0 b1 b2 b3 b4 b5 : Int) (o0 o1 o2 o3 o4 o5 : Int) (p q s : Bool) (t : List PV) (w : Nat) : computusref01_Times_c8_1 t 1 c 1 p [.int .u64 a0, .int .u64 a1, .int .u64 a2, .int .u64 a3, .int .u64 a4, .int .u64 a5] q [.int .u64 b0, .int .u64 b1, .int .u64 b2, .int .u64 b3, .int .u64 b4, .int .u64 b5] s [.int .u64 o0, .int .u64 o1, .int .u64 o2, .int .u64 o3, .int .u64 o4, .int .u64 o5] w = computusref01_Times_c8_1 t 1 (shrI .u64 (IntKind.u64.wrap (c + IntKind.u64.wrap (a1 * b1))) 32) 2 p [.int .u64 a0, .int .u64 a1, .int .u64 a2, .int .u64 a3, .int .u64 a4, .int .u64 a5] q [.int .u64 b0, .int .u64 b1, .int .u64 b2, .int .u64 b3, .int .u64 b4, .int .u64 b5] s [.int .u64 o0, .int .u64 o1, .int .u64 (andI .u64 (IntKind.u64.wrap (c + IntKind.u64.wrap (a1 * b1))) 4294967295), .int .u64 o3, .int .u64 o4, .int .u64 o5] w := by
  rw [computusref01_Times_c8_1_eq]; rfl
theorem times_in12 (c : Int) (a0 a1 a2 a3 a4 a5 : Int) (b0 b1 b2 b3 b4 b5 : Int) (o0 o1 o2 o3 o4 o5 : Int) (p q s : Bool) (t : List PV) (w : Nat) : computusref01_Times_c8_1 t 1 c 2 p [.int .u64 a0, .int .u64 a1, .int .u64 a2, .int .u64 a3, .int .u64 a4, .int .u64 a5] q [.int .u64 b0, .int .u64 b1, .int .u64 b2, .int .u64 b3, .int .u64 b4, .int .u64 b5] s [.int .u64 o0, .int .u64 o1, .int .u64 o2, .int .u64 o3, .int .u64 o4, .int .u64 o5] w = computusref01_Times_c8_1 t 1 (shrI .u64 (IntKind.u64.wrap (c + IntKind.u64.wrap (a1 * b2))) 32) 3 p [.int .u64 a0, .int .u64 a1, .int .u64 a2, .int .u64 a3, .int .u64 a4, .int .u64 a5] q [.int .u64 b0, .int .u64 b1, .int .u64 b2, .int .u64 b3, .int .u64 b4, .int .u64 b5] s [.int .u64 o0, .int .u64 o1, .int .u64 o2, .int .u64 (andI .u64 (IntKind.u64.wrap (c + IntKind.u64.wrap (a1 * b2))) 4294967295), .int .u64 o4, .int .u64 o5] w := by
  rw [computusref01_Times_c8_1_eq]; rfl

theorem mulS {c x y s : Nat} (hc : c < 4294967296) (hx : x < 4294967296) (hy : y < 4294967296) (h : c + x * y = s) :
    andI .u64 (IntKind.u64.wrap ((c : Int) + IntKind.u64.wrap ((x : Int) * (y : Int)))) 4294967295 = ((s % 4294967296 : Nat) : Int) ∧ shrI .u64 (IntKind.u64.wrap ((c : Int) + IntKind.u64.wrap ((x : Int) * (y : Int)))) 32 = ((s / 4294967296 : Nat) : Int) ∧ s / 4294967296 < 4294967296 := by
  have hm : x * y ≤ 4294967295 * 4294967295 := Nat.mul_le_mul (by omega) (by omega)
  have e : IntKind.u64.wrap ((c : Int) + IntKind.u64.wrap ((x : Int) * (y : Int))) = (s : Int) := by
    rw [← Int.natCast_mul, IntKind.wrap_u64, IntKind.wrap_u64]; omega
  rw [e, andN (by omega), shrN]
  exact ⟨rfl, rfl, by omega⟩

/-- A part and a number of two parts. -/
theorem row_limbs {x y : Nat} (hx : x < 4294967296) (hy : y < 18446744073709551616) : ∃ p1 p2 : Nat, p1 < 4294967296 ∧ p2 < 4294967296 ∧
    limbs (x * y) = [.int .u64 ((x * (y % 4294967296) % 4294967296 : Nat) : Int), .int .u64 (((x * (y % 4294967296) / 4294967296 + x * (y / 4294967296)) % 4294967296 : Nat) : Int), .int .u64 (((x * (y % 4294967296) / 4294967296 + x * (y / 4294967296)) / 4294967296 : Nat) : Int), .int .u64 0, .int .u64 0, .int .u64 0] ∧
    limbs (x * y * 4294967296) = [.int .u64 0, .int .u64 ((x * (y % 4294967296) % 4294967296 : Nat) : Int), .int .u64 (((x * (y % 4294967296) / 4294967296 + x * (y / 4294967296)) % 4294967296 : Nat) : Int), .int .u64 (((x * (y % 4294967296) / 4294967296 + x * (y / 4294967296)) / 4294967296 : Nat) : Int), .int .u64 0, .int .u64 0] := by
  refine ⟨0, 0, by omega, by omega, ?_⟩
  have hy1 : y / 4294967296 < 4294967296 := by omega
  have h1 : x * (y % 4294967296) ≤ 4294967295 * 4294967295 := Nat.mul_le_mul (by omega) (by omega)
  have h2 : x * (y / 4294967296) ≤ 4294967295 * 4294967295 := Nat.mul_le_mul (by omega) (by omega)
  have e : x * y = x * (y % 4294967296) + 4294967296 * (x * (y / 4294967296)) := by
    have := Nat.div_add_mod y 4294967296
    calc x * y = x * (4294967296 * (y / 4294967296) + y % 4294967296) := by rw [this]
      _ = _ := by rw [Nat.mul_add, Nat.mul_left_comm, Nat.add_comm]
  rw [e]
  generalize x * (y % 4294967296) = p at h1
  generalize x * (y / 4294967296) = q at h2
  have g0 : (p + 4294967296 * q) % 4294967296 = p % 4294967296 := by omega
  have g1 : (p + 4294967296 * q) / 4294967296 = p / 4294967296 + q := by omega
  have g2 : (p / 4294967296 + q) / 4294967296 % 4294967296 = (p / 4294967296 + q) / 4294967296 := by omega
  have g3 : (p / 4294967296 + q) / 4294967296 / 4294967296 = 0 := by omega
  have hB : 0 < 4294967296 := by omega
  constructor
  · unfold limbs; rw [g0, g1, g2, g3]; rfl
  · unfold limbs; simp only [Nat.mul_div_cancel _ hB, Nat.mul_mod_left, g0, g1, g2, g3]; rfl

theorem times_s {a b : Int} (ha : a.natAbs < 18446744073709551616) (hb : b.natAbs < 18446744073709551616) :
    computusref01_Times (decide (a < 0)) (limbs a.natAbs) (decide (b < 0)) (limbs b.natAbs) = some (wI (a * b)) := by
  generalize hp : decide (a < 0) = p
  generalize hq : decide (b < 0) = q
  have hab : (a * b).natAbs = a.natAbs * b.natAbs := Int.natAbs_mul a b
  have hsg : decide (a * b < 0) = bif !(p == q) then !decide (a.natAbs * b.natAbs = 0) else false := by
    subst hp; subst hq
    by_cases h1 : a < 0 <;> by_cases h2 : b < 0
    · have : ¬ a * b < 0 := by have := Int.mul_nonneg_of_nonpos_of_nonpos (show a ≤ 0 by omega) (show b ≤ 0 by omega); omega
      simp [h1, h2, this]
    · rw [decide_eq_true h1, decide_eq_false h2]
      show _ = !decide (a.natAbs * b.natAbs = 0)
      rw [← decide_not, decide_eq_decide, ← hab]
      have := Int.mul_nonpos_of_nonpos_of_nonneg (show a ≤ 0 by omega) (show 0 ≤ b by omega)
      omega
    · rw [decide_eq_false h1, decide_eq_true h2]
      show _ = !decide (a.natAbs * b.natAbs = 0)
      rw [← decide_not, decide_eq_decide, ← hab]
      have := Int.mul_nonpos_of_nonneg_of_nonpos (show 0 ≤ a by omega) (show b ≤ 0 by omega)
      omega
    · have : ¬ a * b < 0 := by have := Int.mul_nonneg (show 0 ≤ a by omega) (show 0 ≤ b by omega); omega
      simp [h1, h2, this]
  unfold wI
  rw [hab, hsg]
  generalize a.natAbs = x at ha hab hsg
  generalize b.natAbs = y at hb hab hsg
  clear hsg hab
  have hx1 : x / 4294967296 < 4294967296 := by omega
  have hx0 : x % 4294967296 < 4294967296 := by omega
  have hy1 : y / 4294967296 < 4294967296 := by omega
  have hy0 : y % 4294967296 < 4294967296 := by omega
  have yz : y / 4294967296 / 4294967296 = 0 := by omega
  have xq : x / 4294967296 % 4294967296 = x / 4294967296 := by omega
  have yq : y / 4294967296 % 4294967296 = y / 4294967296 := by omega
  obtain ⟨_, _, _, _, ra, _⟩ := row_limbs (x := x % 4294967296) (y := y) hx0 hb
  obtain ⟨_, _, _, _, _, rb⟩ := row_limbs (x := x / 4294967296) (y := y) hx1 hb
  rw [computusref01_Times_eq, computusref01_Times_c3_eq, c_ltT (by omega)]
  -- the first row
  obtain ⟨e1, e2, e3⟩ := mulS (c := 0) (s := x % 4294967296 * (y % 4294967296)) (by omega) hx0 hy0 (by omega)
  obtain ⟨f1, f2, f3⟩ := mulS (s := x % 4294967296 * (y % 4294967296) / 4294967296 + x % 4294967296 * (y / 4294967296)) e3 hx0 hy1 rfl
  obtain ⟨g1, g2, g3⟩ := mulS (y := 0) (s := (x % 4294967296 * (y % 4294967296) / 4294967296 + x % 4294967296 * (y / 4294967296)) / 4294967296) f3 hx0 (by omega) (by omega)
  have first : ∀ t z, computusref01_Times_c8 0 0 0 p (limbs x) q (limbs y) false t z [.int .u64 0, .int .u64 0, .int .u64 0, .int .u64 0, .int .u64 0, .int .u64 0] 6 = (computusref01_add t (limbs (x % 4294967296 * y))).bind fun v => computusref01_Times_c3_1 (PV.toL v) 1 p (limbs x) q (limbs y) false := by
    intro t z
    rw [ra]
    unfold limbs
    rw [yz, xq, yq]
    refine (times_in00 ((0 : Nat) : Int) _ _ _ _ _ _ _ _ _ _ _ _ _ _ _ _ _ _ _ _ _ _ _ _).trans ?_
    rw [e1, e2]
    refine (times_in01 _ _ _ _ _ _ _ _ _ _ _ _ _ _ _ _ _ _ _ _ _ _ _ _ _).trans ?_
    rw [f1, f2]
    refine (times_in02 _ _ _ _ _ _ _ _ _ ((0 : Nat) : Int) _ _ _ _ _ _ _ _ _ _ _ _ _ _ _).trans ?_
    rw [g1, g2, computusref01_Times_c8_eq, show ((x % 4294967296 * (y % 4294967296) / 4294967296 + x % 4294967296 * (y / 4294967296)) / 4294967296) % 4294967296 = (x % 4294967296 * (y % 4294967296) / 4294967296 + x % 4294967296 * (y / 4294967296)) / 4294967296 by omega]
    rfl
  rw [first, ← limbs_zero, radd_s, Nat.zero_add]
  simp only [Option.bind_some, toL_sl]
  rw [computusref01_Times_c3_1_eq, c_ltT (by omega)]
  -- the second row
  obtain ⟨e1, e2, e3⟩ := mulS (c := 0) (s := x / 4294967296 * (y % 4294967296)) (by omega) hx1 hy0 (by omega)
  obtain ⟨f1, f2, f3⟩ := mulS (s := x / 4294967296 * (y % 4294967296) / 4294967296 + x / 4294967296 * (y / 4294967296)) e3 hx1 hy1 rfl
  obtain ⟨g1, g2, g3⟩ := mulS (y := 0) (s := (x / 4294967296 * (y % 4294967296) / 4294967296 + x / 4294967296 * (y / 4294967296)) / 4294967296) f3 hx1 (by omega) (by omega)
  have second : ∀ t, computusref01_Times_c8_1 t 1 0 0 p (limbs x) q (limbs y) false [.int .u64 0, .int .u64 0, .int .u64 0, .int .u64 0, .int .u64 0, .int .u64 0] 6 = (computusref01_add t (limbs (x / 4294967296 * y * 4294967296))).bind fun v => computusref01_Times_c3_1 (PV.toL v) 2 p (limbs x) q (limbs y) false := by
    intro t
    rw [rb]
    unfold limbs
    rw [yz, xq, yq]
    refine (times_in10 ((0 : Nat) : Int) _ _ _ _ _ _ _ _ _ _ _ _ _ _ _ _ _ _ _ _ _ _ _).trans ?_
    rw [e1, e2]
    refine (times_in11 _ _ _ _ _ _ _ _ _ _ _ _ _ _ _ _ _ _ _ _ _ _ _ _).trans ?_
    rw [f1, f2]
    refine (times_in12 _ _ _ _ _ _ _ _ _ ((0 : Nat) : Int) _ _ _ _ _ _ _ _ _ _ _ _ _ _).trans ?_
    rw [g1, g2, computusref01_Times_c8_1_eq, show ((x / 4294967296 * (y % 4294967296) / 4294967296 + x / 4294967296 * (y / 4294967296)) / 4294967296) % 4294967296 = (x / 4294967296 * (y % 4294967296) / 4294967296 + x / 4294967296 * (y / 4294967296)) / 4294967296 by omega]
    rfl
  rw [← limbs_zero] at second ⊢
  rw [limbs_zero] at second ⊢
  rw [second, radd_s]
  simp only [Option.bind_some, toL_sl]
  have exy : x % 4294967296 * y + x / 4294967296 * y * 4294967296 = x * y := by
    have := Nat.div_add_mod x 4294967296
    calc x % 4294967296 * y + x / 4294967296 * y * 4294967296 = (4294967296 * (x / 4294967296) + x % 4294967296) * y := by
          rw [Nat.add_mul, Nat.add_comm, Nat.mul_comm (x / 4294967296 * y), Nat.mul_assoc]
      _ = _ := by rw [this]
  have hxy : x * y ≤ 18446744073709551615 * 18446744073709551615 := Nat.mul_le_mul (by omega) (by omega)
  rw [exy, computusref01_Times_c3_1_eq, c_ltF (by omega)]
  cases hpq : (p == q) with
  | true => rfl
  | false =>
    simp only [Bool.not_false, cond_true]
    rw [rzero_s (by omega)]
    rfl

/-! ### Div, Mod, Split -/
theorem rdiv_s {a b : Int} (ha : In64 a) (hb : 0 < b) (hb2 : b ≤ 9223372036854775807) : computusref01_Div a b = some (limV (a / b)) := by
  rw [computusref01_Div_eq, c_eqF (by omega), ofI_s ha, ofI_s (by unfold In64; omega)]
  simp only [Option.bind_some, wI, ag0, ag1, toB_bool, toL_sl]
  unfold In64 at ha
  have hq : (a / b).natAbs ≤ a.natAbs := by
    have := Int.natAbs_ediv_le_natAbs a b
    exact this
  rw [over_s (by omega) hb (by omega)]
  simp only [Option.bind_some, wI, ag0, ag1, toB_bool, toL_sl]
  rw [rSmall_s _ (by omega)]
  simp only [Option.bind_some]
  have e : (if decide (a / b < 0) = true then -((a / b).natAbs : Int) else ((a / b).natAbs : Int)) = a / b := by
    by_cases h : a / b < 0
    · rw [decide_eq_true h, if_pos rfl]; omega
    · rw [decide_eq_false h, if_neg (by decide)]; omega
  rw [e]
  unfold limV
  split <;> rfl

theorem rmod_s {a b : Int} (ha : In64 a) (hb : 0 < b) (hb2 : b ≤ 4611686018427387904) : computusref01_Mod a b = some (.tuple [.int .i64 (a % b), .int .i64 0]) := by
  rw [computusref01_Mod_eq, c_eqF (by omega), ofI_s ha, ofI_s (by unfold In64; omega)]
  simp only [Option.bind_some, wI, ag0, ag1, toB_bool, toL_sl]
  have ha' := ha
  unfold In64 at ha
  have hq : (a / b).natAbs ≤ a.natAbs := Int.natAbs_ediv_le_natAbs a b
  rw [over_s (by omega) hb (by omega)]
  simp only [Option.bind_some, wI, ag0, ag1, toB_bool, toL_sl]
  rw [times_s (by omega) (by omega)]
  simp only [Option.bind_some, wI, ag0, ag1, toB_bool, toL_sl]
  have hr := emod_rng a hb
  have hm := Int.mul_ediv_add_emod a b
  rw [minus_s (by omega)]
  simp only [Option.bind_some, wI, ag0, ag1, toB_bool, toL_sl]
  rw [plus_s (by omega) (by omega)]
  simp only [Option.bind_some, wI, ag0, ag1, toB_bool, toL_sl]
  have e : a + -(b * (a / b)) = a % b := by omega
  rw [e, rSmall_s _ (by omega)]
  simp only [Option.bind_some]
  rw [decide_eq_false (show ¬ a % b < 0 by omega), if_neg (by decide), limV, if_pos (by unfold In64; omega)]
  simp only [tn0, tn1, toI_int]
  rw [show ((a % b).natAbs : Int) = a % b by omega]

theorem rsplit_s {a : Int} (ha : In64 a) : computusref01_Split a = some (.tuple [.int .i64 (a / 86400000000), .int .i64 (a % 86400000000)]) := by
  rw [computusref01_Split_eq, rdiv_s ha (by omega) (by omega), rmod_s ha (by omega) (by omega)]
  unfold In64 at ha
  rw [limV, if_pos (by unfold In64; omega)]
  rfl
end Dv

/- Dates of days: both ways are the same. -/
namespace Dv
open Go

theorem jan1_mono (y : Int) : ∀ (k : Nat), jan1 y ≤ jan1 (y + k)
  | 0 => by simp
  | k + 1 => by
    have h1 := jan1_mono y k
    have h2 := jan1_succ (y + k)
    have hl : (if leapI (y + k) = true then (1 : Int) else 0) = 0 ∨ (if leapI (y + k) = true then (1 : Int) else 0) = 1 := by cases leapI (y + k) <;> simp
    have e : y + ((k + 1 : Nat) : Int) = y + k + 1 := by omega
    rw [e]; omega

theorem months_mono {y m : Int} (h1 : 1 ≤ m) : ∀ (k : Nat), m + k ≤ 13 → monthsI y m ≤ monthsI y (m + k)
  | 0, _ => by simp
  | k + 1, h => by
    have ih := months_mono (y := y) h1 k (by omega)
    have h2 := monthsI_succ (y := y) (m := m + k) (by omega) (by omega)
    have h3 := lenI_range y (m + k) (by omega) (by omega)
    have e : m + ((k + 1 : Nat) : Int) = m + k + 1 := by omega
    rw [e]; omega

theorem months_13 (y : Int) : monthsI y 13 = 365 + (if leapI y then 1 else 0) := rfl

/-- A date that can be, but for its year. -/
def okD (y m d : Int) : Prop := 1 ≤ m ∧ m ≤ 12 ∧ 1 ≤ d ∧ d ≤ lenI y m

theorem day_in {y m d : Int} (h : okD y m d) : jan1 y ≤ dayI y m d ∧ dayI y m d < jan1 (y + 1) := by
  obtain ⟨h1, h2, h3, h4⟩ := h
  have a := months_mono (y := y) (m := 1) (by omega) (m - 1).toNat (by omega)
  rw [show (1 : Int) + ((m - 1).toNat : Int) = m by omega] at a
  have b := months_mono (y := y) (m := m + 1) (by omega) (12 - m).toNat (by omega)
  rw [show m + 1 + ((12 - m).toNat : Int) = 13 by omega, months_13] at b
  have c := monthsI_succ (y := y) h1 h2
  have e := jan1_succ y
  have z : monthsI y 1 = 0 := rfl
  unfold dayI
  omega

theorem day_lt {y y' m m' d d' : Int} (h : okD y m d) (h' : okD y' m' d') (hy : y < y') : dayI y m d < dayI y' m' d' := by
  have a := (day_in h).2
  have b := (day_in h').1
  have c := jan1_mono (y + 1) (y' - (y + 1)).toNat
  rw [show y + 1 + ((y' - (y + 1)).toNat : Int) = y' by omega] at c
  omega

theorem day_ltm {y m m' d d' : Int} (h : okD y m d) (h' : okD y m' d') (hm : m < m') : dayI y m d < dayI y m' d' := by
  obtain ⟨h1, h2, h3, h4⟩ := h
  obtain ⟨h1', h2', h3', h4'⟩ := h'
  have b := months_mono (y := y) (m := m + 1) (by omega) (m' - (m + 1)).toNat (by omega)
  rw [show m + 1 + ((m' - (m + 1)).toNat : Int) = m' by omega] at b
  have c := monthsI_succ (y := y) h1 h2
  unfold dayI
  omega

theorem day_inj {y y' m m' d d' : Int} (h : okD y m d) (h' : okD y' m' d') (e : dayI y m d = dayI y' m' d') : y = y' ∧ m = m' ∧ d = d' := by
  have hy : y = y' := by
    rcases Int.lt_trichotomy y y' with a | a | a
    · have := day_lt h h' a; omega
    · exact a
    · have := day_lt h' h a; omega
  subst hy
  have hm : m = m' := by
    rcases Int.lt_trichotomy m m' with a | a | a
    · have := day_ltm h h' a; omega
    · exact a
    · have := day_ltm h' h a; omega
  subst hm
  unfold dayI at e
  exact ⟨rfl, rfl, by omega⟩

theorem minI_i (a b : Int) : minI a b = min a b := by
  unfold minI
  by_cases h : b < a
  · rw [decide_eq_true h]; simp only [cond_true]; omega
  · rw [decide_eq_false h]; simp only [cond_false]; omega

theorem march_sum {e c f k : Int} (hc : 0 ≤ c ∧ c ≤ 3) (hf : 0 ≤ f ∧ f ≤ 24) (hk : 0 ≤ k ∧ k ≤ 3) : marchY (400 * e + 100 * c + 4 * f + k) = 146097 * e + 36524 * c + 1461 * f + 365 * k := by
  unfold marchY
  have e1 : (400 * e + 100 * c + 4 * f + k) / 400 = e := by omega
  have e2 : (400 * e + 100 * c + 4 * f + k) % 400 = 100 * c + 4 * f + k := by omega
  have e3 : (100 * c + 4 * f + k) / 4 = 25 * c + f := by omega
  have e4 : (100 * c + 4 * f + k) / 100 = c := by omega
  rw [e1, e2, e3, e4]
  omega

theorem parts_fin {Y M l3 n : Int} (hm0 : 0 ≤ M) (hm1 : M ≤ 11) (hk : 0 ≤ l3 ∧ l3 ≤ 365) (hmd : (153 * M + 2) / 5 ≤ l3) (hm2 : l3 < (153 * (M + 1) + 2) / 5) (hYb : -5000000 ≤ Y ∧ Y ≤ 5000000)
    (hy : marchY Y + l3 = n + 730425) (hleap : l3 = 365 → leapI (Y + 1) = true) :
    ∃ y m d, (bif leB 10 M then some (PV.tuple [.int .i64 (IntKind.i64.wrap (Y + 1)), .int .i64 (IntKind.i64.wrap (M - 9)), .int .i64 (l3 - (153 * M + 2) / 5 + 1)]) else some (.tuple [.int .i64 Y, .int .i64 (IntKind.i64.wrap (M + 3)), .int .i64 (l3 - (153 * M + 2) / 5 + 1)])) =
      some (.tuple [.int .i64 y, .int .i64 m, .int .i64 d]) ∧ okD y m d ∧ dayI y m d = n := by
  by_cases h10 : 10 ≤ M
  · rw [c_leT h10, w64 (n := Y + 1) (by omega) (by omega), w64 (n := M - 9) (by omega) (by omega)]
    refine ⟨_, _, _, rfl, ⟨by omega, by omega, by omega, ?_⟩, ?_⟩
    · have : M = 10 ∨ M = 11 := by omega
      rcases this with rfl | rfl
      · show _ ≤ lenI (Y + 1) 1
        unfold lenI; rw [if_neg (by omega), if_neg (by omega), if_pos (by omega)]; omega
      · show _ ≤ lenI (Y + 1) 2
        unfold lenI; rw [if_pos rfl]
        by_cases h3 : l3 = 365
        · rw [hleap h3, if_pos rfl]; omega
        · split <;> omega
    · have := march_day (y := Y + 1) (m := M - 9) (d := l3 - (153 * M + 2) / 5 + 1) (by omega) (by omega)
      rw [if_pos (by omega), if_pos (by omega), show Y + 1 - 1 = Y by omega, show M - 9 + 12 - 3 = M by omega] at this
      omega
  · rw [c_leF h10, w64 (n := M + 3) (by omega) (by omega)]
    refine ⟨_, _, _, rfl, ⟨by omega, by omega, by omega, ?_⟩, ?_⟩
    · have : M = 0 ∨ M = 1 ∨ M = 2 ∨ M = 3 ∨ M = 4 ∨ M = 5 ∨ M = 6 ∨ M = 7 ∨ M = 8 ∨ M = 9 := by omega
      rcases this with rfl | rfl | rfl | rfl | rfl | rfl | rfl | rfl | rfl | rfl <;> (unfold lenI; rw [if_neg (by omega)]; split <;> first | omega | (rw [if_pos (by omega)]; omega))
    · have := march_day (y := Y) (m := M + 3) (d := l3 - (153 * M + 2) / 5 + 1) (by omega) (by omega)
      rw [if_neg (by omega), if_neg (by omega), show M + 3 - 3 = M by omega] at this
      omega

/-- Of a day: its parts, by years that begin in March. -/
theorem parts_s {n : Int} (h1 : -1000000000 ≤ n) (h2 : n ≤ 1000000000) : ∃ y m d, civil_parts n = some (.tuple [.int .i64 y, .int .i64 m, .int .i64 d]) ∧ okD y m d ∧ dayI y m d = n := by
  rw [civil_parts_eq, w64 (by omega) (by omega), civ_floor (by unfold In64; omega) (by omega) (by omega) (by omega)]
  simp only [Option.bind_some, tn0, tn1, toI_int]
  have he : n + 730425 = 146097 * ((n + 730425) / 146097) + (n + 730425) % 146097 := by omega
  have hl0 : 0 ≤ (n + 730425) % 146097 ∧ (n + 730425) % 146097 < 146097 := by omega
  have hq : -10000 ≤ (n + 730425) / 146097 ∧ (n + 730425) / 146097 ≤ 10000 := by omega
  generalize (n + 730425) / 146097 = e at he hq
  generalize (n + 730425) % 146097 = l0 at he hl0
  have c1 : minI (IntKind.i64.wrap (Int.tdiv l0 36524)) 3 = min (l0 / 36524) 3 := by rw [minI_i, tdiv_pos hl0.1, w64 (by omega) (by omega)]
  rw [c1]
  have hc : 0 ≤ min (l0 / 36524) 3 ∧ min (l0 / 36524) 3 ≤ 3 ∧ 0 ≤ l0 - min (l0 / 36524) 3 * 36524 ∧ l0 - min (l0 / 36524) 3 * 36524 ≤ 36524 ∧ (l0 - min (l0 / 36524) 3 * 36524 = 36524 → min (l0 / 36524) 3 = 3) := by omega
  generalize min (l0 / 36524) 3 = c at hc
  have c2 : IntKind.i64.wrap (l0 - IntKind.i64.wrap (c * 36524)) = l0 - c * 36524 := by rw [w64 (n := c * 36524) (by omega) (by omega), w64 (by omega) (by omega)]
  rw [c2]
  generalize hl1 : l0 - c * 36524 = l1 at hc
  have c3 : IntKind.i64.wrap (Int.tdiv l1 1461) = l1 / 1461 := by rw [tdiv_pos (by omega), w64 (by omega) (by omega)]
  rw [c3]
  have hf : 0 ≤ l1 / 1461 ∧ l1 / 1461 ≤ 24 ∧ 0 ≤ l1 - l1 / 1461 * 1461 ∧ l1 - l1 / 1461 * 1461 ≤ 1460 := by omega
  generalize l1 / 1461 = f at hf
  have c4 : IntKind.i64.wrap (l1 - IntKind.i64.wrap (f * 1461)) = l1 - f * 1461 := by rw [w64 (n := f * 1461) (by omega) (by omega), w64 (by omega) (by omega)]
  rw [c4]
  generalize hl2 : l1 - f * 1461 = l2 at hf
  have c5 : minI (IntKind.i64.wrap (Int.tdiv l2 365)) 3 = min (l2 / 365) 3 := by rw [minI_i, tdiv_pos (by omega), w64 (by omega) (by omega)]
  rw [c5]
  have hk : 0 ≤ min (l2 / 365) 3 ∧ min (l2 / 365) 3 ≤ 3 ∧ 0 ≤ l2 - min (l2 / 365) 3 * 365 ∧ l2 - min (l2 / 365) 3 * 365 ≤ 365 ∧ (l2 - min (l2 / 365) 3 * 365 = 365 → min (l2 / 365) 3 = 3 ∧ l2 = 1460) := by omega
  generalize min (l2 / 365) 3 = k at hk
  have c6 : IntKind.i64.wrap (l2 - IntKind.i64.wrap (k * 365)) = l2 - k * 365 := by rw [w64 (n := k * 365) (by omega) (by omega), w64 (by omega) (by omega)]
  rw [c6]
  generalize hl3 : l2 - k * 365 = l3 at hk
  have c7 : IntKind.i64.wrap (Int.tdiv (IntKind.i64.wrap (IntKind.i64.wrap (5 * l3) + 2)) 153) = (5 * l3 + 2) / 153 := by
    rw [w64 (n := 5 * l3) (by omega) (by omega), w64 (n := 5 * l3 + 2) (by omega) (by omega), tdiv_pos (by omega), w64 (by omega) (by omega)]
  rw [c7]
  have hm : 0 ≤ (5 * l3 + 2) / 153 ∧ (5 * l3 + 2) / 153 ≤ 11 ∧ (153 * ((5 * l3 + 2) / 153) + 2) / 5 ≤ l3 := by omega
  have hm2 : l3 < (153 * ((5 * l3 + 2) / 153 + 1) + 2) / 5 := by omega
  generalize (5 * l3 + 2) / 153 = M at hm hm2
  have c8 : IntKind.i64.wrap (Int.tdiv (IntKind.i64.wrap (IntKind.i64.wrap (153 * M) + 2)) 5) = (153 * M + 2) / 5 := by
    rw [w64 (n := 153 * M) (by omega) (by omega), w64 (n := 153 * M + 2) (by omega) (by omega), tdiv_pos (by omega), w64 (by omega) (by omega)]
  rw [c8]
  have c9 : IntKind.i64.wrap (IntKind.i64.wrap (l3 - (153 * M + 2) / 5) + 1) = l3 - (153 * M + 2) / 5 + 1 := by
    rw [w64 (n := l3 - (153 * M + 2) / 5) (by omega) (by omega), w64 (by omega) (by omega)]
  rw [c9]
  have c10 : IntKind.i64.wrap (IntKind.i64.wrap (IntKind.i64.wrap (IntKind.i64.wrap (e * 400) + IntKind.i64.wrap (c * 100)) + IntKind.i64.wrap (f * 4)) + k) = 400 * e + 100 * c + 4 * f + k := by
    rw [w64 (n := e * 400) (by omega) (by omega), w64 (n := c * 100) (by omega) (by omega), w64 (n := f * 4) (by omega) (by omega), w64 (n := e * 400 + c * 100) (by omega) (by omega), w64 (n := e * 400 + c * 100 + f * 4) (by omega) (by omega), w64 (by omega) (by omega)]
    omega
  rw [c10]
  clear c1 c2 c3 c4 c5 c6 c7 c8 c9 c10
  have hy : marchY (400 * e + 100 * c + 4 * f + k) + l3 = n + 730425 := by
    rw [march_sum ⟨hc.1, hc.2.1⟩ ⟨hf.1, hf.2.1⟩ ⟨hk.1, hk.2.1⟩]
    clear hm hm2 hq
    omega
  have hleap : l3 = 365 → leapI (400 * e + 100 * c + 4 * f + k + 1) = true := by
    intro h
    have h3 := hk.2.2.2.2 h
    have hc3 : f = 24 → c = 3 := fun hf24 => hc.2.2.2.2 (by clear hm hm2 hq hk; omega)
    rw [leapI_iff, h3.1]
    clear hm hm2 he hk hl3 hl2 hl1
    omega
  generalize hY : 400 * e + 100 * c + 4 * f + k = Y at hy hleap
  have hYb : -5000000 ≤ Y ∧ Y ≤ 5000000 := by omega
  exact parts_fin hm.1 hm.2.1 ⟨hk.2.2.1, hk.2.2.2.1⟩ hm.2.2 hm2 hYb hy hleap
end Dv

/- Dates of days: the document's way; dates and stamps that can be. -/
namespace Dv
open Go

theorem rdate_c12 (y : Int) : ∀ (k : Nat) (m l : Int), 1 ≤ m → m + k = 12 → 0 ≤ l → monthsI y m + l < 365 + (if leapI y then 1 else 0) →
    ∃ m' d, computusref02_Date_c12 y l m = some (.tuple [.int .i64 y, .int .i64 m', .int .i64 d, .int .i64 0]) ∧ okD y m' d ∧ monthsI y m' + d - 1 = monthsI y m + l
  | 0, m, l, h1, hm, h0, ht => by
    have hm12 : m = 12 := by omega
    subst hm12
    rw [months_12] at ht
    have hlen : lenI y 12 = 31 := by unfold lenI; rw [if_neg (by omega), if_neg (by omega), if_pos (by omega)]
    rw [computusref02_Date_c12_eq, ref_len (by omega) (by omega)]
    simp only [Option.bind_some, toI_int]
    rw [c_leF (by omega), w64 (by omega) (by omega)]
    exact ⟨_, _, rfl, ⟨by omega, by omega, by omega, by omega⟩, by omega⟩
  | k + 1, m, l, h1, hm, h0, ht => by
    have hr := lenI_range y m (by omega) (by omega)
    have hs := monthsI_succ (y := y) (m := m) (by omega) (by omega)
    have hb := monthsI_bounds (y := y) (m := m) (by omega) (by omega)
    have hl : (if leapI y = true then (1 : Int) else 0) = 0 ∨ (if leapI y = true then (1 : Int) else 0) = 1 := by cases leapI y <;> simp
    rw [computusref02_Date_c12_eq, ref_len (by omega) (by omega)]
    simp only [Option.bind_some, toI_int]
    by_cases h : lenI y m ≤ l
    · rw [c_leT h, w64 (n := l - lenI y m) (by omega) (by omega), w64 (n := m + 1) (by omega) (by omega)]
      obtain ⟨m', d, e1, e2, e3⟩ := rdate_c12 y k (m + 1) (l - lenI y m) (by omega) (by omega) (by omega) (by omega)
      exact ⟨m', d, e1, e2, by omega⟩
    · rw [c_leF h, w64 (by omega) (by omega)]
      exact ⟨_, _, rfl, ⟨by omega, by omega, by omega, by omega⟩, by omega⟩

theorem rdate_c5 : ∀ (k : Nat) (y l : Int), 0 ≤ l → l < k → -1000000 ≤ y → y + k ≤ 2000000 → -1000000000 ≤ jan1 y → jan1 y + l ≤ 1000000000 →
    ∃ y' m' d, computusref02_Date_c5 y l = some (.tuple [.int .i64 y', .int .i64 m', .int .i64 d, .int .i64 0]) ∧ okD y' m' d ∧ dayI y' m' d = jan1 y + l
  | 0, y, l, h0, hk, _, _, _, _ => by omega
  | k + 1, y, l, h0, hk, hy, hy2, hj, hj2 => by
    have hs := jan1_succ y
    have fin : ∀ long : Int, long = 365 + (if leapI y then 1 else 0) → ∃ y' m' d, computusref02_Date_c8 y l long = some (.tuple [.int .i64 y', .int .i64 m', .int .i64 d, .int .i64 0]) ∧ okD y' m' d ∧ dayI y' m' d = jan1 y + l := by
      intro long hlong
      have hl : (if leapI y = true then (1 : Int) else 0) = 0 ∨ (if leapI y = true then (1 : Int) else 0) = 1 := by cases leapI y <;> simp
      rw [computusref02_Date_c8_eq]
      by_cases h : l < long
      · rw [c_ltT h]
        have z : monthsI y 1 = 0 := rfl
        obtain ⟨m', d, e1, e2, e3⟩ := rdate_c12 y 11 1 l (by omega) (by omega) h0 (by omega)
        exact ⟨y, m', d, e1, e2, by unfold dayI; omega⟩
      · rw [c_ltF h, w64 (n := y + 1) (by omega) (by omega), w64 (n := l - long) (by omega) (by omega)]
        obtain ⟨y', m', d, e1, e2, e3⟩ := rdate_c5 k (y + 1) (l - long) (by omega) (by omega) (by omega) (by omega) (by omega) (by omega)
        exact ⟨y', m', d, e1, e2, by omega⟩
    rw [computusref02_Date_c5_eq, ref_leap]
    simp only [Option.bind_some, toB_bool]
    cases hl : leapI y with
    | true => exact fin 366 (by rw [hl]; rfl)
    | false => exact fin 365 (by rw [hl]; rfl)

/-- The days that can be. -/
def canB (n : Int) : Bool := decide (-2453698 ≤ n ∧ n ≤ 106754173)
theorem first_v : dayI (-4718) 1 1 = -2453698 := by decide
theorem last_v : dayI 294282 12 31 = 106754173 := by decide

theorem civ_can (n : Int) : civil_can n = some (.bool (canB n)) := by
  rw [civil_can_eq, civil_First_eq, civil_Last_eq, civ_day (by omega) (by omega) (by omega) (by omega), civ_day (by omega) (by omega) (by omega) (by omega)]
  simp only [Option.bind_some, toI_int]
  rw [first_v, last_v]
  unfold canB
  by_cases h : -2453698 ≤ n
  · rw [c_leT h]; unfold leB; congr 2; rw [decide_eq_decide]; omega
  · rw [c_leF h, decide_eq_false (by omega)]
theorem ref_can (n : Int) : computusref02_Can n = some (.bool (canB n)) := by
  rw [computusref02_Can_eq, computusref02_First_eq, computusref02_Last_eq, ref_day (by omega) (by omega) (by omega) (by omega), ref_day (by omega) (by omega) (by omega) (by omega)]
  simp only [Option.bind_some, toI_int]
  rw [first_v, last_v]
  unfold canB
  by_cases h : -2453698 ≤ n
  · rw [c_leT h]; unfold leB; congr 2; rw [decide_eq_decide]; omega
  · rw [c_leF h, decide_eq_false (by omega)]

/-- Of any day: both tell the same date. -/
theorem date_s (n : Int) : ∃ y m d e, civil_Date n = some (.tuple [.int .i64 y, .int .i64 m, .int .i64 d, .int .i64 e]) ∧
    computusref02_Date n = some (.tuple [.int .i64 y, .int .i64 m, .int .i64 d, .int .i64 e]) ∧
    (e = 0 → okD y m d ∧ dayI y m d = n ∧ -4718 ≤ y ∧ y ≤ 294282) ∧ (e ≠ 0 → e = 10 ∧ y = 0 ∧ m = 0 ∧ d = 0) := by
  rw [civil_Date_eq, computusref02_Date_eq, civ_can, ref_can]
  simp only [Option.bind_some, toB_bool]
  cases hc : canB n with
  | false => exact ⟨_, _, _, _, rfl, rfl, (by intro h; cases h), fun _ => ⟨rfl, rfl, rfl, rfl⟩⟩
  | true =>
    unfold canB at hc
    have hn := of_decide_eq_true hc
    simp only [Bool.not_true, cond_false]
    obtain ⟨y, m, d, e1, e2, e3⟩ := parts_s (n := n) (by omega) (by omega)
    rw [e1, ref_div (by unfold In64; omega) (by omega) (by omega), ref_mod (by omega) (by omega)]
    simp only [Option.bind_some, tn0, tn1, tn2, toI_int]
    have hq : -20 ≤ n / 146097 ∧ n / 146097 ≤ 1000 := by omega
    have hr : 0 ≤ n % 146097 ∧ n % 146097 < 146097 := by omega
    rw [w64 (n := n / 146097 * 400) (by omega) (by omega), w64 (n := 2000 + n / 146097 * 400) (by omega) (by omega)]
    have hj : jan1 (2000 + n / 146097 * 400) = n / 146097 * 146097 := by
      unfold jan1
      have a1 : (2000 + n / 146097 * 400 - 2000) / 400 = n / 146097 := by omega
      have a2 : (2000 + n / 146097 * 400 - 2000) % 400 = 0 := by omega
      rw [a1, a2, show yearsI 0 = 0 from rfl]; omega
    obtain ⟨y', m', d', f1, f2, f3⟩ := rdate_c5 146097 (2000 + n / 146097 * 400) (n % 146097) hr.1 hr.2 (by omega) (by omega) (by omega) (by omega)
    have hf : dayI y' m' d' = n := by rw [f3, hj]; omega
    obtain ⟨rfl, rfl, rfl⟩ := day_inj e2 f2 (e3.trans hf.symm)
    rw [f1]
    refine ⟨y, m, d, 0, rfl, rfl, fun _ => ⟨e2, e3, ?_, ?_⟩, by intro h; exact absurd rfl h⟩
    · rcases Int.lt_or_le y (-4718) with h | h
      · have hx := day_lt e2 (show okD (-4718) 1 1 by unfold okD; decide) h
        rw [first_v] at hx; omega
      · exact h
    · rcases Int.lt_or_le 294282 y with h | h
      · have hx := day_lt (show okD 294282 12 31 by unfold okD; decide) e2 h
        rw [last_v] at hx; omega
      · exact h

/-! ### dates, stamps -/
theorem inside_s (n : Int) : ∃ b, day_inside n = some (.bool b) ∧ computusref15_inside n = some (.bool b) ∧ (b = true → ∃ y m d, civil_Date n = some (.tuple [.int .i64 y, .int .i64 m, .int .i64 d, .int .i64 0]) ∧
    computusref02_Date n = some (.tuple [.int .i64 y, .int .i64 m, .int .i64 d, .int .i64 0]) ∧ okD y m d ∧ dayI y m d = n ∧ -4712 ≤ y ∧ y ≤ 294276) := by
  obtain ⟨y, m, d, e, h1, h2, h3, h4⟩ := date_s n
  rw [day_inside_eq, computusref15_inside_eq, h1, h2]
  simp only [Option.bind_some, tn0, tn3, toI_int]
  by_cases he : e = 0
  · rw [c_eqT he]
    subst he
    obtain ⟨g1, g2, g3, g4⟩ := h3 rfl
    by_cases hy : -4712 ≤ y
    · rw [c_leT hy]
      refine ⟨_, rfl, rfl, fun hb => ⟨y, m, d, rfl, rfl, g1, g2, hy, of_decide_eq_true hb⟩⟩
    · rw [c_leF hy]; exact ⟨_, rfl, rfl, by intro h; cases h⟩
  · rw [c_eqF he]; exact ⟨_, rfl, rfl, by intro h; cases h⟩

theorem dRight_s (i n : Int) : ∃ b, day_Right i n = some (.bool b) ∧ computusref15_Right i n = some (.bool b) ∧ (b = true → i = 0 → day_inside n = some (.bool true)) ∧ (b = true → i = -1 ∨ i = 0 ∨ i = 1) := by
  obtain ⟨c, h1, h2, h3⟩ := inside_s n
  rw [day_Right_eq, computusref15_Right_eq, h1, h2]
  simp only [Option.bind_some, toB_bool]
  unfold eqB
  by_cases a : i = 0
  · subst a
    refine ⟨c, rfl, rfl, fun hb _ => by rw [hb], fun _ => .inr (.inl rfl)⟩
  · by_cases b : i = -1
    · subst b
      by_cases z : n = 0
      · subst z; exact ⟨true, rfl, rfl, fun _ h => absurd h a, fun _ => .inl rfl⟩
      · refine ⟨false, by simp [z], by simp [z], (by intro h; cases h), by intro h; cases h⟩
    · by_cases b1 : i = 1
      · subst b1
        by_cases z : n = 0
        · subst z; exact ⟨true, rfl, rfl, fun _ h => absurd h a, fun _ => .inr (.inr rfl)⟩
        · refine ⟨false, by simp [z], by simp [z], (by intro h; cases h), by intro h; cases h⟩
      · exact ⟨false, by simp [a, b, b1], by simp [a, b, b1], (by intro h; cases h), by intro h; cases h⟩

theorem sRight_s (i : Int) {n : Int} (hn : In64 n) : ∃ b, day_RightStamp i n = some (.bool b) ∧ computusref15_RightStamp i n = some (.bool b) ∧ (b = true → i = 0 → day_inside (n / 86400000000) = some (.bool true)) ∧ (b = true → i = -1 ∨ i = 0 ∨ i = 1) := by
  obtain ⟨c, h1, h2, h3⟩ := inside_s (n / 86400000000)
  rw [day_RightStamp_eq, computusref15_RightStamp_eq, nsplit_s hn, rsplit_s hn]
  simp only [Option.bind_some, tn0, toI_int]
  rw [h1, h2]
  simp only [Option.bind_some, toB_bool]
  unfold eqB
  by_cases a : i = 0
  · subst a
    refine ⟨c, rfl, rfl, fun hb _ => by rw [hb], fun _ => .inr (.inl rfl)⟩
  · by_cases b : i = -1
    · subst b
      by_cases z : n = 0
      · subst z; exact ⟨true, rfl, rfl, fun _ h => absurd h a, fun _ => .inl rfl⟩
      · refine ⟨false, by simp [z], by simp [z], (by intro h; cases h), by intro h; cases h⟩
    · by_cases b1 : i = 1
      · subst b1
        by_cases z : n = 0
        · subst z; exact ⟨true, rfl, rfl, fun _ h => absurd h a, fun _ => .inr (.inr rfl)⟩
        · refine ⟨false, by simp [z], by simp [z], (by intro h; cases h), by intro h; cases h⟩
      · exact ⟨false, by simp [a, b, b1], by simp [a, b, b1], (by intro h; cases h), by intro h; cases h⟩

/-- A finite date that can be, in its parts. -/
theorem parts0_s {n : Int} (h : day_inside n = some (.bool true)) : ∃ y m d, day_Parts 0 n = some (.tuple [.int .i64 y, .int .i64 m, .int .i64 d, .int .i64 0]) ∧
    computusref15_Parts 0 n = some (.tuple [.int .i64 y, .int .i64 m, .int .i64 d, .int .i64 0]) ∧ okD y m d ∧ dayI y m d = n ∧ -4712 ≤ y ∧ y ≤ 294276 := by
  obtain ⟨c, h1, h2, h3⟩ := inside_s n
  rw [h] at h1
  cases h1
  obtain ⟨y, m, d, e1, e2, e3, e4, e5, e6⟩ := h3 rfl
  refine ⟨y, m, d, ?_, ?_, e3, e4, e5, e6⟩
  · rw [day_Parts_eq, day_Right_eq, h, e1]; rfl
  · rw [computusref15_Parts_eq, computusref15_Right_eq, h2, e2]; rfl

theorem of0_s {n : Int} (hn : In64 n) (h : day_inside (n / 86400000000) = some (.bool true)) :
    day_Of 0 n = some (.tuple [.agg [.int .i64 0, .int .i64 (n / 86400000000)], .int .i64 (n % 86400000000), .int .i64 0]) ∧
    computusref15_Of 0 n = some (.tuple [.agg [.int .i64 0, .int .i64 (n / 86400000000)], .int .i64 (n % 86400000000), .int .i64 0]) := by
  obtain ⟨c, h1, h2, h3⟩ := inside_s (n / 86400000000)
  rw [h] at h1
  cases h1
  constructor
  · rw [day_Of_eq, day_RightStamp_eq, nsplit_s hn]
    simp only [Option.bind_some, tn0, toI_int]
    rw [h]; rfl
  · rw [computusref15_Of_eq, computusref15_RightStamp_eq, rsplit_s hn]
    simp only [Option.bind_some, tn0, toI_int]
    rw [h2]; rfl
end Dv

/- Whole numbers as digits: the program's and the reference's. -/
namespace Dv
open Go

def dgN (n : Nat) : UInt8 := UInt8.ofNat (48 + n % 10)

/-- The digits of a number, so many at least, so many at most. -/
def digC : Nat → Nat → Nat → List UInt8
  | 0, _, _ => []
  | f + 1, n, m => if n = 0 ∧ m = 0 then [] else digC f (n / 10) (m - 1) ++ [dgN n]

def digN (n : Nat) : List UInt8 := digC 20 n 1

theorem dgN_val (n : Nat) : (PV.int .u8 (IntKind.u8.wrap (IntKind.u64.wrap (48 + Int.tmod (n : Int) 10)))) = byteV (dgN n) := by
  have h : Int.tmod (n : Int) 10 = ((n % 10 : Nat) : Int) := by rw [Int.tmod_eq_emod_of_nonneg (by omega)]; rfl
  rw [h, wu64 (by omega) (by omega), wu8 (by omega) (by omega)]
  unfold byteV dgN
  congr 1
  rw [UInt8.toNat_ofNat']
  omega

theorem digC_len : ∀ f n m, (digC f n m).length ≤ f
  | 0, _, _ => Nat.le_refl _
  | f + 1, n, m => by
    unfold digC
    split
    · simp
    · have := digC_len f (n / 10) (m - 1)
      simp; omega

theorem zeros_set (k : Nat) (t : List UInt8) (c : UInt8) : (List.replicate (k + 1) (0 : UInt8) ++ t).set k c = List.replicate k 0 ++ (c :: t) := by
  rw [List.replicate_succ', List.append_assoc, List.set_append_right _ _ (by simp)]
  simp

theorem digits_loop (least : Nat) (hl : least ≤ 20) : ∀ (k n : Nat) (t : List UInt8), n < 10 ^ k → k + t.length = 20 →
    clock_digits_c3 (n : Int) (least : Int) (k : Int) ((List.replicate k (0 : UInt8) ++ t).map byteV) 20 = some (.str (digC k n (least - (20 - k)) ++ t))
  | 0, n, t, hn, ht => by
    have h0 : n = 0 := by simpa using hn
    subst h0
    rw [clock_digits_c3_eq, c_ltF (by omega), w64 (by omega) (by omega), c_ltF (by omega), c_eqnT (by simp; omega), c_eqnT rfl, decide_eq_true (by omega), cond_true]
    have : List.take (20 - ((0 : Nat) : Int).toNat) (List.drop ((0 : Nat) : Int).toNat ((List.replicate 0 (0 : UInt8) ++ t).map byteV)) = t.map byteV := by
      simp
      apply List.take_of_length_le
      simp; omega
    rw [this, bytes_byteV]
    rfl
  | k + 1, n, t, hn, ht => by
    have hlen : ((List.replicate (k + 1) (0 : UInt8) ++ t).map byteV).length = 20 := by simp; omega
    have hk : k < 20 := by omega
    by_cases hc : n = 0 ∧ least - (20 - (k + 1)) = 0
    · obtain ⟨h0, h1⟩ := hc
      subst h0
      rw [clock_digits_c3_eq, c_ltF (by omega), w64 (by omega) (by omega), c_ltF (by omega), c_eqnT hlen, c_eqnT rfl, decide_eq_true (by omega), cond_true]
      have : List.take (20 - ((k + 1 : Nat) : Int).toNat) (List.drop ((k + 1 : Nat) : Int).toNat ((List.replicate (k + 1) (0 : UInt8) ++ t).map byteV)) = t.map byteV := by
        rw [Int.toNat_natCast, ← List.map_drop, List.drop_left' (by simp)]
        apply List.take_of_length_le
        simp; omega
      rw [this, bytes_byteV, h1]
      unfold digC
      rw [if_pos ⟨rfl, rfl⟩]
      rfl
    · have h5 : clock_digits_c3 (n : Int) (least : Int) ((k + 1 : Nat) : Int) ((List.replicate (k + 1) (0 : UInt8) ++ t).map byteV) 20 =
          clock_digits_c5 (n : Int) (least : Int) ((k + 1 : Nat) : Int) ((List.replicate (k + 1) (0 : UInt8) ++ t).map byteV) 20 := by
        rw [clock_digits_c3_eq, w64 (by omega) (by omega)]
        by_cases h : 0 < (n : Int)
        · rw [c_ltT h]
        · rw [c_ltF h, c_ltT (by omega)]
      have e1 : ((k + 1 : Nat) : Int) - 1 = (k : Int) := by omega
      rw [h5, clock_digits_c5_eq, e1, w64 (n := (k : Int)) (by omega) (by omega), c_inT (by omega), Int.toNat_natCast, dgN_val, stC_map (by simp; omega), zeros_set]
      simp only [Option.bind_some]
      have e2 : Int.tdiv (n : Int) 10 = ((n / 10 : Nat) : Int) := by rw [Int.tdiv_eq_ediv_of_nonneg (by omega)]; rfl
      have hp : 10 ^ k ≤ 10 ^ 19 := Nat.pow_le_pow_right (by omega) (by omega)
      have hpp : 10 ^ (k + 1) = 10 ^ k * 10 := Nat.pow_succ ..
      have hpv : (10 : Nat) ^ 19 = 10000000000000000000 := by decide
      have hn10 : n / 10 < 10 ^ k := by omega
      rw [e2, wu64 (by omega) (by omega), digits_loop least hl k (n / 10) (dgN n :: t) hn10 (by simp; omega)]
      have e3 : least - (20 - (k + 1)) - 1 = least - (20 - k) := by omega
      conv => rhs; rw [digC]
      rw [if_neg hc, e3]
      simp

theorem digits_s (n least : Nat) (hn : n < 18446744073709551616) (hl : least ≤ 20) : clock_digits (n : Int) (least : Int) = some (.str (digC 20 n least)) := by
  rw [clock_digits_eq]
  have := digits_loop least hl 20 n [] (Nat.lt_trans hn (by decide)) rfl
  rw [Nat.sub_self, Nat.sub_zero, List.append_nil, List.append_nil] at this
  exact this

/-! ### the reference's -/
def revD : Nat → Nat → List UInt8
  | 0, u => [dgN u]
  | f + 1, u => if u < 10 then [dgN u] else dgN u :: revD f (u / 10)

theorem revD_len : ∀ f u, (revD f u).length ≤ f + 1
  | 0, _ => by simp [revD]
  | f + 1, u => by
    unfold revD
    split
    · simp
    · have := revD_len f (u / 10)
      simp; omega

theorem digC_10 : ∀ f a, 1 ≤ a → digC f a 1 = digC f a 0
  | 0, _, _ => rfl
  | f + 1, a, h => by
    unfold digC
    rw [if_neg (by omega), if_neg (by omega)]

theorem revD_digC : ∀ f u, (revD f u).reverse = if u < 10 ^ (f + 1) then digC (f + 1) u 1 else (revD f u).reverse
  | 0, u => by
    split
    · unfold revD digC; rw [if_neg (by omega)]; rfl
    · rfl
  | f + 1, u => by
    split
    · rename_i h
      have hd : digC (f + 1 + 1) u 1 = digC (f + 1) (u / 10) 0 ++ [dgN u] := by
        conv => lhs; rw [digC]
        rw [if_neg (by omega)]
      rw [hd]
      unfold revD
      by_cases h10 : u < 10
      · rw [if_pos h10]
        have : u / 10 = 0 := by omega
        rw [this]
        unfold digC
        rw [if_pos ⟨rfl, rfl⟩]
        rfl
      · have h2 : 10 ^ (f + 1 + 1) = 10 ^ (f + 1) * 10 := Nat.pow_succ ..
        rw [if_neg h10, List.reverse_cons, revD_digC f (u / 10), if_pos (by omega), digC_10 _ _ (by omega)]
    · rfl

theorem rev_loop (l : List UInt8) (hl : l.length ≤ 1000000) : ∀ k, k ≤ l.length → computusref03_Digits_c13 ((k : Int) - 1) (l.map byteV) ((l.drop k).reverse.map byteV) = some (.str l.reverse)
  | 0, _ => by
    rw [computusref03_Digits_c13_eq, c_leF (by omega), bytes_byteV]
    rfl
  | k + 1, hk => by
    have e1 : ((k + 1 : Nat) : Int) - 1 = (k : Int) := by omega
    have hg : l[k]? = some l[k] := List.getElem?_eq_getElem (by omega)
    rw [e1, computusref03_Digits_c13_eq, c_leT (by omega), c_inT (by simp; omega), Int.toNat_natCast, rdT_byte hg]
    simp only [Option.bind_some]
    rw [appL_ok (by simp; omega)]
    simp only [Option.bind_some]
    rw [w64 (by omega) (by omega)]
    have e2 : (l.drop (k + 1)).reverse.map byteV ++ [PV.int .u8 (byteV l[k]).toI] = (l.drop k).reverse.map byteV := by
      rw [List.drop_eq_getElem_cons (show k < l.length by omega), List.reverse_cons, List.map_append]
      rfl
    rw [e2]
    exact rev_loop l hl k (by omega)

theorem rev_s (l : List UInt8) (hl : l.length ≤ 1000000) : computusref03_Digits_c11 (l.map byteV) = some (.str l.reverse) := by
  rw [computusref03_Digits_c11_eq, List.length_map, w64 (by omega) (by omega)]
  have := rev_loop l hl l.length (Nat.le_refl _)
  rw [List.drop_length] at this
  exact this

theorem rdig_loop (x0 : Int) : ∀ (f u : Nat) (b : List UInt8), u < 10 ^ (f + 1) → f ≤ 19 → b.length + f ≤ 100 → computusref03_Digits_c5 x0 (u : Int) (b.map byteV) =
    if x0 < 0 then computusref03_Digits_c11 ((b ++ revD f u ++ [45]).map byteV) else computusref03_Digits_c11 ((b ++ revD f u).map byteV) := by
  have fin : ∀ (u : Nat) (b : List UInt8), u < 10 → b.length ≤ 200 → computusref03_Digits_c5 x0 (u : Int) (b.map byteV) =
      if x0 < 0 then computusref03_Digits_c11 ((b ++ [dgN u] ++ [45]).map byteV) else computusref03_Digits_c11 ((b ++ [dgN u]).map byteV) := by
    intro u b hu hb
    have e : (48 : Int) + (u : Int) = 48 + Int.tmod (u : Int) 10 := by rw [Int.tmod_eq_emod_of_nonneg (by omega)]; omega
    rw [computusref03_Digits_c5_eq, c_leF (by omega), e, dgN_val, appL_ok (by simp; omega)]
    simp only [Option.bind_some]
    by_cases hx : x0 < 0
    · rw [c_ltT hx, if_pos hx, appL_ok (by simp; omega)]
      simp only [Option.bind_some, List.map_append]
      rfl
    · rw [c_ltF hx, if_neg hx]
      simp only [List.map_append]
      rfl
  intro f
  induction f with
  | zero => intro u b hu _ hb; exact fin u b (by simpa using hu) (by omega)
  | succ f ih =>
    intro u b hu hf hb
    unfold revD
    by_cases h : u < 10
    · rw [if_pos h]; exact fin u b h (by omega)
    · have e2 : Int.tdiv (u : Int) 10 = ((u / 10 : Nat) : Int) := by rw [Int.tdiv_eq_ediv_of_nonneg (by omega)]; rfl
      have hpp : 10 ^ (f + 1 + 1) = 10 ^ (f + 1) * 10 := Nat.pow_succ ..
      have hp : 10 ^ (f + 1) ≤ 10 ^ 19 := Nat.pow_le_pow_right (by omega) (by omega)
      have hpv : (10 : Nat) ^ 19 = 10000000000000000000 := by decide
      rw [if_neg h, computusref03_Digits_c5_eq, c_leT (by omega), dgN_val, appL_ok (by simp; omega)]
      simp only [Option.bind_some]
      rw [e2, wu64 (by omega) (by omega)]
      have e3 : b.map byteV ++ [byteV (dgN u)] = (b ++ [dgN u]).map byteV := by simp
      rw [e3, ih (u / 10) (b ++ [dgN u]) (by omega) (by omega) (by simp; omega)]
      simp

/-- A number as its digits, below nought with a sign. -/
def decI (a : Int) : List UInt8 := if a < 0 then 45 :: digN (-a).toNat else digN a.toNat

theorem digN_len (n : Nat) : (digN n).length ≤ 20 := digC_len 20 n 1
theorem decI_len (a : Int) : (decI a).length ≤ 21 := by
  unfold decI
  split
  · have := digN_len (-a).toNat; simp; omega
  · have := digN_len a.toNat; omega

theorem rdigits_s {a : Int} (h1 : -9223372036854775808 ≤ a) (h2 : a ≤ 9223372036854775807) : computusref03_Digits a = some (.str (decI a)) := by
  have go : ∀ u : Nat, u < 18446744073709551616 → computusref03_Digits_c4 a (u : Int) = some (.str (if a < 0 then 45 :: digN u else digN u)) := by
    intro u hu
    have hlt : u < 10 ^ (19 + 1) := Nat.lt_trans hu (by decide)
    have hl := revD_len 19 u
    rw [computusref03_Digits_c4_eq, show ([] : List PV) = ([] : List UInt8).map byteV from rfl, rdig_loop a 19 u [] hlt (by omega) (by simp)]
    have hr := revD_digC 19 u
    rw [if_pos hlt] at hr
    by_cases ha : a < 0
    · rw [if_pos ha, if_pos ha, rev_s _ (by simp; omega)]
      simp only [List.nil_append, List.reverse_append, hr]
      rfl
    · rw [if_neg ha, if_neg ha, rev_s _ (by simp; omega)]
      simp only [List.nil_append, hr]
      rfl
  rw [computusref03_Digits_eq]
  unfold decI
  by_cases ha : a < 0
  · have e : IntKind.u64.wrap (0 - IntKind.u64.wrap a) = (((-a).toNat : Nat) : Int) := by
      simp only [IntKind.wrap, IntKind.bits, IntKind.signed]
      simp
      omega
    rw [c_ltT ha, e, go _ (by omega), if_pos ha, if_pos ha]
  · have e : IntKind.u64.wrap a = ((a.toNat : Nat) : Int) := by rw [wu64 (by omega) (by omega)]; omega
    rw [c_ltF ha, e, go _ (by omega), if_neg ha, if_neg ha]

/-! ### two digits at least -/
def twoN (n : Nat) : List UInt8 := digC 20 n 2

theorem digN_lt {n : Nat} (h : n < 10) : digN n = [dgN n] := by
  unfold digN digC
  have : n / 10 = 0 := by omega
  rw [if_neg (by omega), this]
  unfold digC
  rw [if_pos ⟨rfl, rfl⟩]; rfl
theorem twoN_lt {n : Nat} (h : n < 10) : twoN n = [48, dgN n] := by
  unfold twoN digC
  have : n / 10 = 0 := by omega
  rw [if_neg (by omega), this]
  have : digC 19 0 (2 - 1) = [48] := by decide
  rw [this]; rfl
theorem twoN_ge {n : Nat} (h : 10 ≤ n) : twoN n = digN n := by
  unfold twoN digN digC
  rw [if_neg (by omega), if_neg (by omega)]
  have : 1 ≤ n / 10 := by omega
  rw [show 2 - 1 = 1 from rfl, show 1 - 1 = 0 from rfl, digC_10 19 _ this]

theorem twoN_len (n : Nat) : (twoN n).length ≤ 20 := digC_len 20 n 2

theorem two_s {a : Int} (h0 : 0 ≤ a) (h1 : a ≤ 9223372036854775807) : clock_Two a = some (.str (twoN a.toNat)) := by
  have e : IntKind.u64.wrap a = ((a.toNat : Nat) : Int) := by rw [wu64 h0 (by omega)]; omega
  rw [clock_Two_eq, c_leT h0, e]
  have := digits_s a.toNat 2 (by omega) (by omega)
  rw [show ((2 : Nat) : Int) = 2 from rfl] at this
  rw [this]; rfl

theorem rtwo_s {a : Int} (h0 : 0 ≤ a) (h1 : a ≤ 9223372036854775807) : computusref03_Two a = some (.str (twoN a.toNat)) := by
  have hd : decI a = digN a.toNat := if_neg (by omega)
  rw [computusref03_Two_eq, c_leT h0]
  by_cases h : a < 10
  · rw [c_ltT h, computusref03_Two_c2_eq, rdigits_s (by omega) h1]
    simp only [Option.bind_some, toS_str]
    rw [hd, digN_lt (by omega), catS_ok (by simp), twoN_lt (by omega)]; rfl
  · rw [c_ltF h, computusref03_Two_c3_eq, c_ltF (by omega), rdigits_s (by omega) h1]
    simp only [Option.bind_some, toS_str]
    rw [hd, twoN_ge (by omega)]

theorem sdigits_s {a : Int} (h0 : 0 ≤ a) (h1 : a ≤ 9223372036854775807) : show_digits a = some (.str (digN a.toNat)) := by
  rw [show_digits_eq, two_s h0 h1]
  by_cases h : a < 10
  · rw [c_ltT h, digN_lt (by omega), twoN_lt (by omega)]; rfl
  · rw [c_ltF h, twoN_ge (by omega)]; rfl
end Dv

/- Parts of texts: fractions, times, parts that are joined. -/
namespace Dv
open Go

theorem decR_low {s : List UInt8} {i : Nat} {c : UInt8} (h : s[i]? = some c) (hc : c.toNat < 128) : decR s i = (c.toNat, 1) := by
  have hi : i < s.length := (List.getElem?_eq_some_iff.1 h).1
  have hs : i < (⟨s.toArray⟩ : ByteArray).size := by simpa [ByteArray.size] using hi
  have hg : (⟨s.toArray⟩ : ByteArray)[i]'hs = c := (List.getElem?_eq_some_iff.1 h).2
  unfold decR
  rw [decode_ascii ⟨s.toArray⟩ i hs (by rw [hg]; exact hc), hg]
theorem drop_nil {α : Type} {s : List α} {i : Nat} (h : s.drop i = []) : s.length ≤ i := List.drop_eq_nil_iff.1 h
theorem drop_cons {α : Type} {s r : List α} {c : α} {i : Nat} (h : s.drop i = c :: r) : i < s.length ∧ s[i]? = some c ∧ s.drop (i + 1) = r := by
  have hi : i < s.length := by
    rcases Nat.lt_or_ge i s.length with h' | h'
    · exact h'
    · rw [List.drop_eq_nil_iff.2 h'] at h; cases h
  rw [List.drop_eq_getElem_cons hi] at h
  simp only [List.cons.injEq] at h
  exact ⟨hi, by rw [List.getElem?_eq_getElem hi, h.1], h.2⟩

/-! ### without noughts at the end -/
def stripZ : List UInt8 → List UInt8
  | [] => []
  | c :: r => if stripZ r = [] ∧ c = 48 then [] else c :: stripZ r

theorem strip_take : ∀ l, l.take (stripZ l).length = stripZ l
  | [] => rfl
  | c :: r => by
    unfold stripZ
    split
    · rfl
    · simp [strip_take r]
theorem strip_len (l : List UInt8) : (stripZ l).length ≤ l.length := by
  have := congrArg List.length (strip_take l)
  simp at this; omega

def endF : Nat → Nat → List UInt8 → Nat
  | e, _, [] => e
  | e, i, c :: r => endF (if c = 48 then e else i + 1) (i + 1) r

theorem endF_eq : ∀ (r : List UInt8) (e i : Nat), endF e i r = if stripZ r = [] then e else i + (stripZ r).length
  | [], e, i => rfl
  | c :: r, e, i => by
    unfold endF
    rw [endF_eq r]
    by_cases h : stripZ r = []
    · rw [if_pos h]
      by_cases hc : c = 48
      · have hs : stripZ (c :: r) = [] := if_pos ⟨h, hc⟩
        rw [if_pos hc, if_pos hs]
      · have hs : stripZ (c :: r) = c :: stripZ r := if_neg (fun x => hc x.2)
        rw [if_neg hc, hs, if_neg (by simp), h]; simp
    · have hs : stripZ (c :: r) = c :: stripZ r := if_neg (fun x => h x.1)
      rw [if_neg h, hs, if_neg (by simp)]; simp; omega

theorem strip_zero : ∀ r, stripZ (r ++ [48]) = stripZ r
  | [] => by decide
  | c :: r => by
    rw [List.cons_append, stripZ, stripZ, strip_zero r]
theorem strip_app {c : UInt8} (hc : c ≠ 48) : ∀ r, stripZ (r ++ [c]) = r ++ [c]
  | [] => by simp [stripZ, hc]
  | a :: r => by
    rw [List.cons_append, stripZ, strip_app hc r, if_neg (by simp)]

def digB0 (c : UInt8) : Prop := 48 ≤ c.toNat ∧ c.toNat ≤ 57

theorem dgN_dig (n : Nat) : digB0 (dgN n) := by
  unfold digB0 dgN
  rw [UInt8.toNat_ofNat']
  omega
theorem digC_dig : ∀ f n m, ∀ c ∈ digC f n m, digB0 c
  | 0, _, _, c, h => by cases h
  | f + 1, n, m, c, h => by
    unfold digC at h
    split at h
    · cases h
    · rw [List.mem_append] at h
      rcases h with h | h
      · exact digC_dig f _ _ c h
      · simp at h; subst h; exact dgN_dig n

theorem digC_zero : ∀ f n m, n < 10 ^ f → stripZ (digC f n m) = [] → n = 0
  | 0, n, m, hn, _ => by simpa using hn
  | f + 1, n, m, hn, h => by
    unfold digC at h
    split at h
    · rename_i h0; exact h0.1
    · by_cases hd : dgN n = 48
      · rw [hd, strip_zero] at h
        have hpp : 10 ^ (f + 1) = 10 ^ f * 10 := Nat.pow_succ ..
        have := digC_zero f (n / 10) (m - 1) (by omega) h
        have hm : n % 10 = 0 := by
          have := congrArg UInt8.toNat hd
          unfold dgN at this
          rw [UInt8.toNat_ofNat'] at this
          have h48 : (48 : UInt8).toNat = 48 := rfl
          omega
        omega
      · rw [strip_app hd] at h
        simp at h

theorem digC_len6 : ∀ k f u, u < 10 ^ k → k ≤ f → (digC f u k).length = k
  | 0, 0, u, _, _ => rfl
  | 0, f + 1, u, h, _ => by
    have : u = 0 := by simpa using h
    subst this
    rfl
  | k + 1, 0, u, _, h => by omega
  | k + 1, f + 1, u, h, hf => by
    have hpp : 10 ^ (k + 1) = 10 ^ k * 10 := Nat.pow_succ ..
    unfold digC
    rw [if_neg (by omega), Nat.add_sub_cancel, List.length_append, digC_len6 k f (u / 10) (by omega) (by omega)]
    rfl

theorem digC_one : ∀ k f u, u < 10 ^ k → k < f → digC f (10 ^ k + u) 1 = 49 :: digC f u k
  | 0, 0, _, _, h => by omega
  | 0, f + 1, u, hu, _ => by
    have : u = 0 := by simpa using hu
    subst this
    have h1 : digC f 0 0 = [] := by cases f <;> rfl
    unfold digC
    rw [if_neg (by omega), if_pos ⟨rfl, rfl⟩]
    have : (10 ^ 0 + 0) / 10 = 0 := by decide
    rw [this, show 1 - 1 = 0 from rfl, h1]
    rfl
  | k + 1, 0, _, _, h => by omega
  | k + 1, f + 1, u, hu, hf => by
    have hpp : 10 ^ (k + 1) = 10 ^ k * 10 := Nat.pow_succ ..
    have hp : 1 ≤ 10 ^ k := Nat.one_le_pow _ _ (by omega)
    have e1 : (10 ^ (k + 1) + u) / 10 = 10 ^ k + u / 10 := by omega
    have e2 : dgN (10 ^ (k + 1) + u) = dgN u := by
      unfold dgN
      have : (10 ^ (k + 1) + u) % 10 = u % 10 := by omega
      rw [this]
    have l : digC (f + 1) (10 ^ (k + 1) + u) 1 = digC f (10 ^ k + u / 10) 0 ++ [dgN u] := by
      conv => lhs; rw [digC]
      rw [if_neg (by omega), e1, e2]
    have r : digC (f + 1) u (k + 1) = digC f (u / 10) k ++ [dgN u] := by
      conv => lhs; rw [digC]
      rw [if_neg (by omega), Nat.add_sub_cancel]
    rw [l, r, ← digC_10 f _ (by omega), digC_one k f (u / 10) (by omega) (by omega)]
    rfl

/-- Microseconds behind a point. -/
def fracN (u : Nat) : List UInt8 := if u = 0 ∨ 999999 < u then [] else 46 :: stripZ (digC 20 u 6)

theorem fracN_len (u : Nat) : (fracN u).length ≤ 21 := by
  unfold fracN
  split
  · simp
  · have h1 := strip_len (digC 20 u 6)
    have h2 := digC_len 20 u 6
    simp; omega

theorem frac_loop (s : List UInt8) (hl : s.length ≤ 100) (hd : ∀ c ∈ s, digB0 c) : ∀ (r : List UInt8) (i e : Nat), s.drop i = r → i ≤ s.length → e ≤ i →
    clock_Fraction_c6 s (e : Int) s i = some (.str (46 :: s.take (endF e i r)))
  | [], i, e, hr, hi, he => by
    have := drop_nil hr
    rw [clock_Fraction_c6_eq, c_ltnF (by omega), takeS_n (by omega)]
    simp only [Option.bind_some]
    rw [catS_ok (by first | omega | (simp; omega))]
    rfl
  | c :: r, i, e, hr, hi, he => by
    obtain ⟨h1, h2, h3⟩ := drop_cons hr
    have hc : digB0 c := hd c (List.mem_of_getElem? h2)
    have hdc := decR_low h2 (by unfold digB0 at hc; omega)
    rw [clock_Fraction_c6_eq, c_ltnT h1, hdc]
    simp only
    unfold endF
    by_cases h48 : c = 48
    · have : (((c.toNat : Nat) : Int)) = 48 := by rw [h48]; rfl
      rw [c_not, c_eqT this, if_pos h48, frac_loop s hl hd r (i + 1) e h3 (by omega) (by omega)]
    · have : ¬ (((c.toNat : Nat) : Int)) = 48 := by
        intro h
        apply h48
        have h' : c.toNat = 48 := by omega
        exact UInt8.toNat_inj.1 h'
      have e1 : IntKind.i64.wrap (((i : Nat) : Int) + 1) = ((i + 1 : Nat) : Int) := by rw [w64 (by omega) (by omega)]; omega
      rw [c_not, c_eqF this, if_neg h48, e1, frac_loop s hl hd r (i + 1) (i + 1) h3 (by omega) (by omega)]

theorem frac_s {a : Int} (h0 : 0 ≤ a) (h1 : a ≤ 9223372036854775807) : clock_Fraction a = some (.str (fracN a.toNat)) := by
  rw [clock_Fraction_eq]
  unfold fracN
  by_cases ha : a ≤ 0
  · rw [c_leT ha, clock_Fraction_c2_eq, if_pos (by omega)]
  · rw [c_leF ha]
    by_cases hb : 999999 < a
    · rw [c_ltT hb, clock_Fraction_c2_eq, if_pos (by omega)]
    · have e : IntKind.u64.wrap a = ((a.toNat : Nat) : Int) := by rw [wu64 h0 (by omega)]; omega
      have hds := digits_s a.toNat 6 (by omega) (by omega)
      rw [show ((6 : Nat) : Int) = 6 from rfl] at hds
      rw [c_ltF hb, clock_Fraction_c3_eq, e, hds, if_neg (by omega)]
      simp only [Option.bind_some, toS_str]
      have hl := digC_len 20 a.toNat 6
      have := frac_loop (digC 20 a.toNat 6) (by omega) (digC_dig 20 _ _) (digC 20 a.toNat 6) 0 0 rfl (by omega) (by omega)
      rw [show ((0 : Nat) : Int) = 0 from rfl] at this
      rw [this, endF_eq]
      by_cases hz : stripZ (digC 20 a.toNat 6) = []
      · rw [if_pos hz, hz]; rfl
      · rw [if_neg hz, Nat.zero_add, strip_take]

theorem rstrip_loop : ∀ (n : Nat) (s : List UInt8), s.length = n → n ≤ 100 → stripZ s ≠ [] → computusref03_Fraction_c4 s = some (.str (46 :: stripZ s))
  | 0, s, hn, _, h => by
    have : s = [] := List.length_eq_zero_iff.1 hn
    subst this
    exact absurd rfl h
  | n + 1, s, hn, hle, h => by
    have hne : s ≠ [] := by rintro rfl; simp at hn
    obtain ⟨r, c, rfl⟩ : ∃ r c, s = r ++ [c] := ⟨s.dropLast, s.getLast hne, (List.dropLast_concat_getLast hne).symm⟩
    have hlen : (r ++ [c]).length = r.length + 1 := by simp
    have hrn : r.length = n := by omega
    have e1 : IntKind.i64.wrap ((((r ++ [c]).length : Nat) : Int) - 1) = (r.length : Int) := by rw [hlen, w64 (by omega) (by omega)]; omega
    have hg : (r ++ [c])[r.length]? = some c := by simp
    rw [computusref03_Fraction_c4_eq, e1, atS_ok hg]
    simp only [Option.bind_some]
    by_cases h48 : c = 48
    · have : (((c.toNat : Nat) : Int)) = 48 := by rw [h48]; rfl
      rw [c_eqT this, takeS_n (by simp)]
      simp only [Option.bind_some]
      rw [List.take_left, h48, strip_zero]
      rw [h48, strip_zero] at h
      exact rstrip_loop n r hrn (by omega) h
    · have : ¬ (((c.toNat : Nat) : Int)) = 48 := by
        intro h
        apply h48
        have h' : c.toNat = 48 := by omega
        exact UInt8.toNat_inj.1 h'
      rw [c_eqF this, catS_ok (by first | omega | (simp; omega)), strip_app h48]
      rfl

theorem rfrac_s {a : Int} (h0 : 0 ≤ a) (h1 : a ≤ 9223372036854775807) : computusref03_Fraction a = some (.str (fracN a.toNat)) := by
  rw [computusref03_Fraction_eq]
  unfold fracN
  by_cases ha : a < 1
  · rw [c_ltT ha, computusref03_Fraction_c2_eq, if_pos (by omega)]
  · rw [c_ltF ha]
    by_cases hb : 999999 < a
    · rw [c_ltT hb, computusref03_Fraction_c2_eq, if_pos (by omega)]
    · have hlt : a.toNat < 10 ^ 6 := by omega
      have hd : decI (1000000 + a) = 49 :: digC 20 a.toNat 6 := by
        unfold decI
        rw [if_neg (by omega)]
        have := digC_one 6 20 a.toNat hlt (by omega)
        unfold digN
        rw [← this]
        congr 1
        omega
      have hl := digC_len 20 a.toNat 6
      rw [c_ltF hb, computusref03_Fraction_c3_eq, w64 (by omega) (by omega), rdigits_s (by omega) (by omega), if_neg (by omega), hd]
      simp only [Option.bind_some, toS_str]
      have : dropS (49 :: digC 20 a.toNat 6) 1 = some (digC 20 a.toNat 6) := by rw [dropS_ok (by omega) (by simp; omega)]; rfl
      rw [this]
      simp only [Option.bind_some]
      refine rstrip_loop _ _ rfl (by omega) (fun h => ?_)
      have := digC_zero 20 a.toNat 6 (Nat.lt_trans hlt (by decide)) h
      omega

/-! ### times -/
def textN (t : Nat) : List UInt8 := twoN (t / 3600000000) ++ (58 :: (twoN (t / 60000000 % 60) ++ (58 :: (twoN (t / 1000000 % 60) ++ fracN (t % 1000000)))))
theorem textN_len (t : Nat) : (textN t).length ≤ 90 := by
  have h1 := twoN_len (t / 3600000000)
  have h2 := twoN_len (t / 60000000 % 60)
  have h3 := twoN_len (t / 1000000 % 60)
  have h4 := fracN_len (t % 1000000)
  unfold textN
  simp; omega

theorem tdivN (a b : Nat) : Int.tdiv (a : Int) (b : Int) = ((a / b : Nat) : Int) := by rw [Int.tdiv_eq_ediv_of_nonneg (by omega)]; rfl
theorem tmodN (a b : Nat) : Int.tmod (a : Int) (b : Int) = ((a % b : Nat) : Int) := by rw [Int.tmod_eq_emod_of_nonneg (by omega)]; rfl

theorem text_s (t : Nat) (h : t < 18446744073709551616) : clock_text (t : Int) = some (.str (textN t)) := by
  have h1 := twoN_len (t / 3600000000)
  have h2 := twoN_len (t / 60000000 % 60)
  have h3 := twoN_len (t / 1000000 % 60)
  have h4 := fracN_len (t % 1000000)
  have e1 : IntKind.i64.wrap (IntKind.u64.wrap (Int.tdiv (t : Int) 3600000000)) = ((t / 3600000000 : Nat) : Int) := by
    have := tdivN t 3600000000
    rw [show ((3600000000 : Nat) : Int) = 3600000000 from rfl] at this
    rw [this, wu64 (by omega) (by omega), w64 (by omega) (by omega)]
  have e2 : IntKind.i64.wrap (Int.tmod (IntKind.u64.wrap (Int.tdiv (t : Int) 60000000)) 60) = ((t / 60000000 % 60 : Nat) : Int) := by
    have := tdivN t 60000000
    rw [show ((60000000 : Nat) : Int) = 60000000 from rfl] at this
    rw [this, wu64 (by omega) (by omega)]
    have := tmodN (t / 60000000) 60
    rw [show ((60 : Nat) : Int) = 60 from rfl] at this
    rw [this, w64 (by omega) (by omega)]
  have e3 : IntKind.i64.wrap (Int.tmod (IntKind.u64.wrap (Int.tdiv (t : Int) 1000000)) 60) = ((t / 1000000 % 60 : Nat) : Int) := by
    have := tdivN t 1000000
    rw [show ((1000000 : Nat) : Int) = 1000000 from rfl] at this
    rw [this, wu64 (by omega) (by omega)]
    have := tmodN (t / 1000000) 60
    rw [show ((60 : Nat) : Int) = 60 from rfl] at this
    rw [this, w64 (by omega) (by omega)]
  have e4 : IntKind.i64.wrap (Int.tmod (t : Int) 1000000) = ((t % 1000000 : Nat) : Int) := by
    have := tmodN t 1000000
    rw [show ((1000000 : Nat) : Int) = 1000000 from rfl] at this
    rw [this, w64 (by omega) (by omega)]
  rw [clock_text_eq, clock_parts_eq, e1, e2, e3, e4]
  simp only [Option.bind_some, tn0, tn1, tn2, tn3, toI_int]
  rw [two_s (by omega) (by omega), two_s (by omega) (by omega), two_s (by omega) (by omega), frac_s (by omega) (by omega)]
  simp only [Option.bind_some, toS_str, Int.toNat_natCast]
  rw [catS_ok (by first | omega | (simp; omega))]
  simp only [Option.bind_some]
  rw [catS_ok (by first | omega | (simp; omega))]
  simp only [Option.bind_some]
  rw [catS_ok (by first | omega | (simp; omega))]
  simp only [Option.bind_some]
  rw [catS_ok (by first | omega | (simp; omega))]
  simp only [Option.bind_some]
  rw [catS_ok (by first | omega | (simp; omega))]
  simp only [Option.bind_some]
  unfold textN
  simp

def longI (a : Int) : List UInt8 := if a < 0 then 45 :: textN (-a).toNat else textN a.toNat
theorem longI_len (a : Int) : (longI a).length ≤ 91 := by
  unfold longI
  split
  · have := textN_len (-a).toNat; simp; omega
  · have := textN_len a.toNat; omega

theorem wneg64 {a : Int} (h1 : -9223372036854775808 ≤ a) (ha : a < 0) : IntKind.u64.wrap (0 - IntKind.u64.wrap a) = (((-a).toNat : Nat) : Int) := by
  simp only [IntKind.wrap, IntKind.bits, IntKind.signed]
  simp
  omega

theorem long_s {a : Int} (h1 : -9223372036854775808 ≤ a) (h2 : a ≤ 9223372036854775807) : clock_Long a = some (.str (longI a)) := by
  rw [clock_Long_eq]
  unfold longI
  by_cases ha : a < 0
  · have hl := textN_len (-a).toNat
    rw [c_ltT ha, if_pos ha, wneg64 h1 ha, text_s _ (by omega)]
    simp only [Option.bind_some, toS_str]
    rw [catS_ok (by first | omega | (simp; omega))]; rfl
  · have e : IntKind.u64.wrap a = ((a.toNat : Nat) : Int) := by rw [wu64 (by omega) (by omega)]; omega
    rw [c_ltF ha, if_neg ha, e, text_s _ (by omega)]; rfl

theorem rlong_c6 (t : Nat) (h : t < 18446744073709551616) (x : List UInt8) (hx : x.length ≤ 1) : computusref03_Long_c6 (t : Int) x = some (.str (x ++ textN t)) := by
  have h1 := twoN_len (t / 3600000000)
  have h2 := twoN_len (t / 60000000 % 60)
  have h3 := twoN_len (t / 1000000 % 60)
  have h4 := fracN_len (t % 1000000)
  have e0 : IntKind.i64.wrap (IntKind.u64.wrap (Int.tdiv (t : Int) 1000000)) = ((t / 1000000 : Nat) : Int) := by
    have := tdivN t 1000000
    rw [show ((1000000 : Nat) : Int) = 1000000 from rfl] at this
    rw [this, wu64 (by omega) (by omega), w64 (by omega) (by omega)]
  have e1 : IntKind.i64.wrap (Int.tdiv ((t / 1000000 : Nat) : Int) 3600) = ((t / 3600000000 : Nat) : Int) := by
    have := tdivN (t / 1000000) 3600
    rw [show ((3600 : Nat) : Int) = 3600 from rfl] at this
    rw [this, w64 (by omega) (by omega), Nat.div_div_eq_div_mul]
  have e2 : Int.tmod (IntKind.i64.wrap (Int.tdiv ((t / 1000000 : Nat) : Int) 60)) 60 = ((t / 60000000 % 60 : Nat) : Int) := by
    have := tdivN (t / 1000000) 60
    rw [show ((60 : Nat) : Int) = 60 from rfl] at this
    rw [this, w64 (by omega) (by omega), Nat.div_div_eq_div_mul]
    exact tmodN _ 60
  have e3 : Int.tmod ((t / 1000000 : Nat) : Int) 60 = ((t / 1000000 % 60 : Nat) : Int) := tmodN _ 60
  have e4 : IntKind.i64.wrap (Int.tmod (t : Int) 1000000) = ((t % 1000000 : Nat) : Int) := by
    have := tmodN t 1000000
    rw [show ((1000000 : Nat) : Int) = 1000000 from rfl] at this
    rw [this, w64 (by omega) (by omega)]
  rw [computusref03_Long_c6_eq, e0, e1, e2, e3, e4, rtwo_s (by omega) (by omega), rtwo_s (by omega) (by omega), rtwo_s (by omega) (by omega), rfrac_s (by omega) (by omega)]
  simp only [Option.bind_some, toS_str, Int.toNat_natCast]
  rw [catS_ok (by first | omega | (simp; omega))]
  simp only [Option.bind_some]
  rw [catS_ok (by first | omega | (simp; omega))]
  simp only [Option.bind_some]
  rw [catS_ok (by first | omega | (simp; omega))]
  simp only [Option.bind_some]
  rw [catS_ok (by first | omega | (simp; omega))]
  simp only [Option.bind_some]
  rw [catS_ok (by first | omega | (simp; omega))]
  simp only [Option.bind_some]
  rw [catS_ok (by first | omega | (simp; omega))]
  simp only [Option.bind_some]
  unfold textN
  simp

theorem rlong_s {a : Int} (h1 : -9223372036854775808 ≤ a) (h2 : a ≤ 9223372036854775807) : computusref03_Long a = some (.str (longI a)) := by
  rw [computusref03_Long_eq]
  unfold longI
  by_cases ha : a < 0
  · rw [c_ltT ha, if_pos ha, wneg64 h1 ha, rlong_c6 _ (by omega) _ (by simp)]; rfl
  · have e : IntKind.u64.wrap a = ((a.toNat : Nat) : Int) := by rw [wu64 (by omega) (by omega)]; omega
    rw [c_ltF ha, if_neg ha, e, rlong_c6 _ (by omega) _ (by simp)]; rfl
end Dv

/- Parts that are joined. -/
namespace Dv
open Go

def totL : List (List UInt8) → Nat
  | [] => 0
  | s :: l => s.length + totL l
theorem totL_flat : ∀ l, l.flatten.length = totL l
  | [] => rfl
  | s :: l => by simp [totL, totL_flat l]

theorem join_loop (l : List (List UInt8)) (hl : l.length ≤ 1000) : ∀ (r : List (List UInt8)) (i : Nat) (acc : List UInt8), l.drop i = r → i ≤ l.length → acc.length + totL r ≤ 1000000 →
    show_join_c3 (l.map PV.str) (l.length : Int) (i : Int) (acc.map byteV) = some (.str (acc ++ r.flatten))
  | [], i, acc, hr, hi, ht => by
    have := drop_nil hr
    rw [show_join_c3_eq, c_ltF (by omega), bytes_byteV]
    simp
  | s :: r, i, acc, hr, hi, ht => by
    obtain ⟨h1, h2, h3⟩ := drop_cons hr
    have e1 : IntKind.i64.wrap ((i : Int) + 1) = ((i + 1 : Nat) : Int) := by rw [w64 (by omega) (by omega)]; omega
    simp only [totL] at ht
    rw [show_join_c3_eq, c_ltT (by omega), rdI_n, rdT_str h2]
    simp only [Option.bind_some, toS_str]
    rw [decide_eq_true (by omega), cond_true, Int.toNat_natCast, List.take_length, appL_ok (by simp; omega)]
    simp only [Option.bind_some]
    rw [e1, ← List.map_append, join_loop l hl r (i + 1) (acc ++ s) h3 (by omega) (by simp; omega)]
    simp

theorem join_s (l : List (List UInt8)) (hl : l.length ≤ 1000) (ht : totL l ≤ 1000000) : show_join (l.map PV.str) = some (.str l.flatten) := by
  rw [show_join_eq, List.length_map]
  have := join_loop l hl l 0 [] rfl (by omega) (by simpa using ht)
  exact this

/-! ### strings.Join -/
def joinB (sep : List UInt8) : List (List UInt8) → List UInt8
  | [] => []
  | [a] => a
  | a :: b :: r => a ++ (sep ++ joinB sep (b :: r))

def tailB (sep : List UInt8) : List (List UInt8) → List UInt8
  | [] => []
  | a :: r => sep ++ (a ++ tailB sep r)
theorem joinB_tail (sep a : List UInt8) : ∀ r, joinB sep (a :: r) = a ++ tailB sep r
  | [] => by simp [joinB, tailB]
  | b :: r => by
    rw [joinB, tailB, joinB_tail sep b r]

theorem tailB_len (sep : List UInt8) : ∀ l, (tailB sep l).length = totL l + sep.length * l.length
  | [] => by simp [tailB, totL]
  | a :: r => by
    simp only [tailB, totL, List.length_append, tailB_len sep r, List.length_cons, Nat.mul_add, Nat.mul_one]
    omega

theorem join_c22 (sep : List UInt8) (hsep : 1 ≤ sep.length ∧ sep.length ≤ 100) (l : List (List UInt8)) (hl : l.length ≤ 1000) : ∀ (r : List (List UInt8)) (i : Nat) (acc : List UInt8), l.drop i = r → i ≤ l.length →
    acc.length + (tailB sep r).length ≤ 10000000 → acc ++ tailB sep r ≠ [] →
    strings_Join_c22 sep (l.map PV.str) (l.length : Int) (i : Int) (acc.map byteV) = some (.str (acc ++ tailB sep r))
  | [], i, acc, hr, hi, ht, hne => by
    have := drop_nil hr
    have hacc : acc ≠ [] := by simpa [tailB] using hne
    have hn : isNilL (acc.map byteV) = false := by cases acc with | nil => exact absurd rfl hacc | cons => rfl
    rw [strings_Join_c22_eq, c_ltF (by omega), hn]
    simp only [tailB, List.length_nil, Nat.add_zero, List.append_nil] at ht ⊢
    simp only [Bool.not_false, Bool.and_self, cond_true, cond_false]
    rw [decide_eq_true ⟨trivial, by rw [List.length_map]; omega⟩, cond_true, bytes_byteV]
    rfl
  | s :: r, i, acc, hr, hi, ht, hne => by
    obtain ⟨h1, h2, h3⟩ := drop_cons hr
    have e1 : IntKind.i64.wrap ((i : Int) + 1) = ((i + 1 : Nat) : Int) := by rw [w64 (by omega) (by omega)]; omega
    simp only [tailB, List.length_append] at ht
    rw [strings_Join_c22_eq, c_ltT (by omega), rdI_n, rdT_str h2]
    simp only [Option.bind_some, toS_str]
    rw [appL_ok (by simp; omega)]
    simp only [Option.bind_some]
    rw [appL_ok (by simp; omega)]
    simp only [Option.bind_some]
    rw [e1, ← List.map_append, ← List.map_append, join_c22 sep hsep l hl r (i + 1) (acc ++ sep ++ s) h3 (by omega) (by simp; omega) (by
      intro h
      have := congrArg List.length h
      simp only [List.length_append, List.length_nil] at this
      omega)]
    simp [tailB]

theorem join_c12 (sep : List UInt8) (l : List (List UInt8)) (hl : l.length ≤ 1000) (x0 : List PV) : ∀ (r : List (List UInt8)) (i n : Nat), l.drop i = r → i ≤ l.length → n + totL r ≤ 10000000 →
    strings_Join_c12 x0 sep (n : Int) (l.map PV.str) (l.length : Int) (i : Int) = if n + totL r = 0 then strings_Join_c20_1 x0 sep else strings_Join_c20 x0 sep []
  | [], i, n, hr, hi, ht => by
    have := drop_nil hr
    simp only [totL, Nat.add_zero] at ht
    have h0 : n + totL [] = n := rfl
    have e0 : IntKind.i64.wrap (0 - 0) = 0 := by decide
    have e1 : IntKind.i64.wrap (2 * 0) = 0 := by decide
    rw [strings_Join_c12_eq, c_ltF (by omega), c_ltF (by omega), e0, e1, w64 (n := 0 + (n : Int)) (by omega) (by omega)]
    by_cases hn : n = 0
    · rw [c_ltF (by omega), if_pos (h0.trans hn)]
    · rw [c_ltT (by omega), if_neg (by rw [h0]; exact hn), decide_eq_true (by omega), cond_true]
  | s :: r, i, n, hr, hi, ht => by
    obtain ⟨h1, h2, h3⟩ := drop_cons hr
    have e1 : IntKind.i64.wrap ((i : Int) + 1) = ((i + 1 : Nat) : Int) := by rw [w64 (by omega) (by omega)]; omega
    simp only [totL] at ht
    have h0 : n + totL (s :: r) = n + s.length + totL r := by simp only [totL]; omega
    have e2 : IntKind.i64.wrap ((n : Int) + ((s.length : Nat) : Int)) = ((n + s.length : Nat) : Int) := by rw [w64 (by omega) (by omega)]; omega
    rw [strings_Join_c12_eq, c_ltT (by omega), rdI_n, rdT_str h2]
    simp only [Option.bind_some, toS_str]
    rw [w64 (by omega) (by omega), c_ltF (by omega), strings_Join_c16_eq, e1, e2, join_c12 sep l hl x0 r (i + 1) (n + s.length) h3 (by omega) (by omega), h0]

theorem join_c21 (sep : List UInt8) (hsep : 1 ≤ sep.length ∧ sep.length ≤ 100) (a b : List UInt8) (r : List (List UInt8)) (hl : r.length ≤ 900) (ht : a.length + totL (b :: r) ≤ 1000000) :
    strings_Join_c21 ((a :: b :: r).map PV.str) sep (a.map byteV) = some (.str (joinB sep (a :: b :: r))) := by
  have e : dropS ((a :: b :: r).map PV.str) 1 = some ((b :: r).map PV.str) := by rw [dropS_ok (by omega) (by simp; omega)]; rfl
  rw [strings_Join_c21_eq, e]
  simp only [Option.bind_some]
  rw [List.length_map, joinB_tail]
  have htl := tailB_len sep (b :: r)
  have hm : sep.length * (b :: r).length ≤ 100 * 901 := Nat.mul_le_mul hsep.2 (by simp; omega)
  have := join_c22 sep hsep (b :: r) (by simp; omega) (b :: r) 0 a rfl (by omega) (by omega) (by
    intro h
    have := congrArg List.length h
    simp only [List.length_append, htl, List.length_cons, List.length_nil, Nat.mul_add] at this
    omega)
  exact this

/-- strings.Join, with a sign that is no empty text. -/
theorem sjoin_s (sep : List UInt8) (hsep : 1 ≤ sep.length ∧ sep.length ≤ 100) (l : List (List UInt8)) (hl : l.length ≤ 900) (ht : totL l ≤ 1000000) : strings_Join (l.map PV.str) sep = some (.str (joinB sep l)) := by
  match l, hl, ht with
  | [], _, _ => rw [strings_Join_eq]; rfl
  | [a], _, _ =>
    rw [strings_Join_eq]
    have e1 : ((([a].map PV.str).length : Nat) : Int) = 1 := rfl
    rw [e1, c_eqF (by omega), c_eqT rfl]
    rfl
  | a :: b :: r, hl, ht =>
    simp only [List.length_cons] at hl
    have hlen : (((a :: b :: r).map PV.str).length : Int) = ((r.length + 2 : Nat) : Int) := by simp only [List.length_map, List.length_cons]
    have e2 : IntKind.i64.wrap (((r.length + 2 : Nat) : Int) - 1) = ((r.length + 1 : Nat) : Int) := by rw [w64 (by omega) (by omega)]; omega
    have e3 : 1000000 ≤ IntKind.i64.wrap (Int.tdiv 9223372036854775807 ((r.length + 1 : Nat) : Int)) := by
      have := tdivN 9223372036854775807 (r.length + 1)
      rw [show ((9223372036854775807 : Nat) : Int) = 9223372036854775807 from rfl] at this
      have h1 : 9223372036854775807 / (r.length + 1) ≤ 9223372036854775807 := Nat.div_le_self _ _
      have h2 : 1000000 ≤ 9223372036854775807 / (r.length + 1) := by
        rw [Nat.le_div_iff_mul_le (by omega)]
        omega
      rw [this, w64 (by omega) (by omega)]
      omega
    have hm : sep.length * (r.length + 1) ≤ 100 * 901 := Nat.mul_le_mul hsep.2 (by omega)
    have hmi : ((sep.length : Nat) : Int) * ((r.length + 1 : Nat) : Int) = ((sep.length * (r.length + 1) : Nat) : Int) := by push_cast; rfl
    rw [strings_Join_eq, hlen, c_eqF (by omega), c_eqF (by omega), c_ltT (by omega), e2, c_eqF (by omega), c_leF (by omega), strings_Join_c10_eq, hlen, e2, hmi, w64 (n := ((sep.length * (r.length + 1) : Nat) : Int)) (by omega) (by omega),
      Int.zero_add, w64 (by omega) (by omega), strings_Join_c11_eq, hlen]
    have hll : ((r.length + 2 : Nat) : Int) = (((a :: b :: r).length : Nat) : Int) := by simp only [List.length_cons]
    rw [hll]
    have h12 := join_c12 sep (a :: b :: r) (by simp; omega) ((a :: b :: r).map PV.str) (a :: b :: r) 0 (sep.length * (r.length + 1)) rfl (by omega) (by omega)
    rw [show ((0 : Nat) : Int) = 0 from rfl] at h12
    have hpos : 1 * 1 ≤ sep.length * (r.length + 1) := Nat.mul_le_mul hsep.1 (by omega)
    rw [h12, if_neg (by omega), strings_Join_c20_eq]
    have hr0 : rdI tiStr ((a :: b :: r).map PV.str) 0 = some (.str a) := rfl
    rw [hr0]
    simp only [totL] at ht
    simp only [Option.bind_some, toS_str]
    rw [appL_ok (by simp; omega)]
    simp only [Option.bind_some, List.nil_append]
    exact join_c21 sep hsep a b r (by omega) (by simp only [totL]; omega)

/-! ### parts that are not empty -/
def fullL (l : List (List UInt8)) : List (List UInt8) := l.filter fun s => !eqS s []

theorem totL_app : ∀ a b, totL (a ++ b) = totL a + totL b
  | [], b => by simp [totL]
  | s :: a, b => by simp only [List.cons_append, totL, totL_app a b]; omega

theorem between_loop (sep : List UInt8) (hsep : 1 ≤ sep.length ∧ sep.length ≤ 100) (l : List (List UInt8)) (hl : l.length ≤ 400) : ∀ (r : List (List UInt8)) (i : Nat) (acc : List (List UInt8)), l.drop i = r → i ≤ l.length →
    totL acc + totL r ≤ 1000000 → acc.length + r.length ≤ 400 → show_between_c3 sep (l.map PV.str) (l.length : Int) (i : Int) (acc.map PV.str) = some (.str (joinB sep (acc ++ fullL r)))
  | [], i, acc, hr, hi, ht, hn => by
    have := drop_nil hr
    simp only [totL, List.length_nil] at ht hn
    rw [show_between_c3_eq, c_ltF (by omega), sjoin_s sep hsep acc (by omega) (by omega)]
    simp [fullL, PV.toS]
  | s :: r, i, acc, hr, hi, ht, hn => by
    obtain ⟨h1, h2, h3⟩ := drop_cons hr
    have e1 : IntKind.i64.wrap ((i : Int) + 1) = ((i + 1 : Nat) : Int) := by rw [w64 (by omega) (by omega)]; omega
    simp only [totL, List.length_cons] at ht hn
    rw [show_between_c3_eq, c_ltT (by omega), rdI_n, rdT_str h2]
    simp only [Option.bind_some, toS_str]
    by_cases hs : s = []
    · rw [c_not, c_eqsT hs, e1, between_loop sep hsep l hl r (i + 1) acc h3 (by omega) (by omega) (by omega)]
      have : fullL (s :: r) = fullL r := by unfold fullL; rw [List.filter_cons_of_neg]; simp [eqS, hs]
      rw [this]
    · rw [c_not, c_eqsF hs, appL_ok (by simp; omega)]
      simp only [Option.bind_some]
      have e2 : acc.map PV.str ++ [PV.str s] = (acc ++ [s]).map PV.str := by simp
      rw [e1, e2, between_loop sep hsep l hl r (i + 1) (acc ++ [s]) h3 (by omega) (by rw [totL_app]; simp only [totL]; omega) (by simp; omega)]
      have : fullL (s :: r) = s :: fullL r := by unfold fullL; rw [List.filter_cons_of_pos]; simp [eqS, hs]
      rw [this]
      simp

theorem between_s (sep : List UInt8) (hsep : 1 ≤ sep.length ∧ sep.length ≤ 100) (l : List (List UInt8)) (hl : l.length ≤ 400) (ht : totL l ≤ 1000000) : show_between sep (l.map PV.str) = some (.str (joinB sep (fullL l))) := by
  rw [show_between_eq, List.length_map]
  have := between_loop sep hsep l hl l 0 [] rfl (by omega) (by simpa [totL] using ht) (by simpa using hl)
  exact this
end Dv

/- Intervals as texts: the program's, the reference's. -/
namespace Dv
open Go

abbrev InS (n : Int) : Prop := -9223372036854775807 ≤ n ∧ n ≤ 9223372036854775807

/-! ### which can be -/
def spanR (i m d u : Int) : Bool :=
  if i = 0 then decide (-2147483647 ≤ m ∧ m ≤ 2147483647 ∧ -2147483647 ≤ d ∧ d ≤ 2147483647 ∧ -9223372036854775807 ≤ u ∧ u ≤ 9223372036854775807) else decide ((i = -1 ∨ i = 1) ∧ m = 0 ∧ d = 0 ∧ u = 0)
def styleR (a b c : Int) : Bool := decide (0 ≤ a ∧ a ≤ 1 ∧ 0 ≤ b ∧ b ≤ 2 ∧ 0 ≤ c ∧ c ≤ 2)

theorem style_s (a b c : Int) : show_Right a b c = some (.bool (styleR a b c)) := by
  rw [show_Right_eq]
  unfold styleR leB
  by_cases h1 : 0 ≤ a <;> by_cases h2 : a ≤ 1 <;> by_cases h3 : 0 ≤ b <;> by_cases h4 : b ≤ 2 <;> by_cases h5 : 0 ≤ c <;> by_cases h6 : c ≤ 2 <;> simp [h1, h2, h3, h4, h5, h6]
theorem rstyle_s (a b c : Int) : computusref19_Right a b c = some (.bool (styleR a b c)) := by
  rw [computusref19_Right_eq]
  unfold styleR leB
  by_cases h1 : 0 ≤ a <;> by_cases h2 : a ≤ 1 <;> by_cases h3 : 0 ≤ b <;> by_cases h4 : b ≤ 2 <;> by_cases h5 : 0 ≤ c <;> by_cases h6 : c ≤ 2 <;> simp [h1, h2, h3, h4, h5, h6]

theorem neg_ok {u : Int} (h1 : -9223372036854775808 ≤ u) (h2 : u ≤ 9223372036854775807) : ∃ n, num_Neg u = some (.tuple [.int .i64 n, .int .i64 (if u = -9223372036854775808 then 10 else 0)]) := by
  rw [num_Neg_eq, num_Sub_eq]
  by_cases h : u = -9223372036854775808
  · subst h
    refine ⟨0, ?_⟩
    kernel_rfl
  · have e : IntKind.i64.wrap (0 - u) = -u := by rw [w64 (by omega) (by omega)]; omega
    refine ⟨-u, ?_⟩
    rw [e]
    have hb : (ltB (-u) 0 == ltB 0 u) = true := by
      unfold ltB
      by_cases hu : 0 < u
      · rw [decide_eq_true hu, decide_eq_true (by omega)]; rfl
      · rw [decide_eq_false hu, decide_eq_false (by omega)]; rfl
    rw [hb, if_neg h]
    rfl

theorem within_s (n : Int) : span_within n = some (.bool (decide (-2147483647 ≤ n ∧ n ≤ 2147483647))) := by
  rw [span_within_eq]
  unfold leB
  by_cases h1 : -2147483647 ≤ n <;> by_cases h2 : n ≤ 2147483647 <;> simp [h1, h2]
theorem rwithin_s {n m : Int} (hm : 0 ≤ m ∧ m ≤ 9223372036854775807) : computusref16_within n m = some (.bool (decide (-m ≤ n ∧ n ≤ m))) := by
  have e : IntKind.i64.wrap (0 - m) = -m := by rw [w64 (by omega) (by omega)]; omega
  rw [computusref16_within_eq, e]
  unfold leB
  by_cases h1 : -m ≤ n <;> by_cases h2 : n ≤ m <;> simp [h1, h2]

theorem right_s {i m d u : Int} (h1 : -9223372036854775808 ≤ u) (h2 : u ≤ 9223372036854775807) : span_Right i m d u = some (.bool (spanR i m d u)) := by
  rw [span_Right_eq]
  unfold spanR
  by_cases hi : i = 0
  · obtain ⟨n, hn⟩ := neg_ok h1 h2
    rw [c_not, c_eqT hi, if_pos hi, hn, within_s, within_s]
    simp only [Option.bind_some, toB_bool, tn1, toI_int]
    by_cases hm : -2147483647 ≤ m ∧ m ≤ 2147483647
    · rw [decide_eq_true hm, cond_true]
      by_cases hd : -2147483647 ≤ d ∧ d ≤ 2147483647
      · rw [decide_eq_true hd, cond_true]
        unfold eqB
        by_cases hu : u = -9223372036854775808
        · simp [hu]
        · have : -9223372036854775807 ≤ u := by omega
          simp [hu, hm, hd, this, h2]
      · rw [decide_eq_false hd, cond_false, decide_eq_false (by omega)]
    · rw [decide_eq_false hm, cond_false, decide_eq_false (by omega)]
  · rw [c_not, c_eqF hi, if_neg hi]
    unfold eqB leB
    by_cases a1 : m = 0 <;> by_cases a2 : d = 0 <;> by_cases a3 : u = 0 <;> simp [a1, a2, a3]
    by_cases b1 : -1 ≤ i <;> by_cases b2 : i ≤ 1 <;> simp [b1, b2] <;> omega

theorem rright_s {i m d u : Int} : computusref16_Right i m d u = some (.bool (spanR i m d u)) := by
  rw [computusref16_Right_eq]
  unfold spanR
  by_cases hi : i = 0
  · rw [c_not, c_eqT hi, if_pos hi, rwithin_s (by omega), rwithin_s (by omega), rwithin_s (by omega)]
    simp only [Option.bind_some, toB_bool]
    by_cases hm : -2147483647 ≤ m ∧ m ≤ 2147483647
    · rw [decide_eq_true hm, cond_true]
      by_cases hd : -2147483647 ≤ d ∧ d ≤ 2147483647
      · rw [decide_eq_true hd, cond_true]
        congr 2
        simp [hm, hd]
      · rw [decide_eq_false hd, cond_false, decide_eq_false (by omega)]
    · rw [decide_eq_false hm, cond_false, decide_eq_false (by omega)]
  · rw [c_not, c_eqF hi, if_neg hi]
    unfold eqB
    by_cases b1 : i = -1 <;> by_cases b2 : i = 1 <;> by_cases a1 : m = 0 <;> by_cases a2 : d = 0 <;> by_cases a3 : u = 0 <;> simp [b1, b2, a1, a2, a3]

theorem spanR_fin {m d u : Int} (h : spanR 0 m d u = true) : -2147483647 ≤ m ∧ m ≤ 2147483647 ∧ -2147483647 ≤ d ∧ d ≤ 2147483647 ∧ -9223372036854775807 ≤ u ∧ u ≤ 9223372036854775807 := by
  unfold spanR at h
  rw [if_pos rfl] at h
  exact of_decide_eq_true h

theorem inf_s {i : Int} (h : i ≠ 0) : show_infinite i = computusref19_inf i := by
  rw [show_infinite_eq, computusref19_inf_eq]
  by_cases hi : i < 0
  · rw [c_ltT hi, c_ltT hi]
  · rw [c_ltF hi, c_ltF hi, c_ltT (by omega)]
theorem inf_str {i : Int} (h : i ≠ 0) : ∃ s, show_infinite i = some (.str s) := by
  rw [show_infinite_eq]
  by_cases hi : i < 0
  · rw [c_ltT hi]; exact ⟨_, rfl⟩
  · rw [c_ltF hi]; exact ⟨_, rfl⟩

/-! ### numbers and their signs -/
theorem number_s {a : Int} (h : InS a) : show_number a = some (.str (decI a)) := by
  rw [show_number_eq]
  unfold decI
  by_cases ha : a < 0
  · have e : IntKind.i64.wrap (0 - a) = -a := by rw [w64 (by omega) (by omega)]; omega
    have hl := digN_len (-a).toNat
    rw [c_ltT ha, if_pos ha, e, sdigits_s (by omega) (by omega)]
    simp only [Option.bind_some, toS_str]
    have := join_s [[45], digN (-a).toNat] (by simp) (by simp [totL]; omega)
    simp only [List.map_cons, List.map_nil] at this
    rw [this]
    simp
    rfl
  · rw [c_ltF ha, if_neg ha, sdigits_s (by omega) (by omega)]; rfl

def sgnB (a : Int) : List UInt8 := if a < 0 then [45] else [43]
def absI (a : Int) : Int := if a < 0 then -a else a
theorem signed_s {a : Int} (h : InS a) : show_signed a = some (.tuple [.str (sgnB a), .int .i64 (absI a)]) := by
  rw [show_signed_eq]
  unfold sgnB absI
  by_cases ha : a < 0
  · have e : IntKind.i64.wrap (0 - a) = -a := by rw [w64 (by omega) (by omega)]; omega
    rw [c_ltT ha, if_pos ha, if_pos ha, e]
  · rw [c_ltF ha, if_neg ha, if_neg ha]
theorem size_s {a : Int} (h : InS a) : computusref19_size a = some (.tuple [.int .i64 (absI a), .str (sgnB a)]) := by
  rw [computusref19_size_eq]
  unfold sgnB absI
  by_cases ha : a < 0
  · have e : IntKind.i64.wrap (0 - a) = -a := by rw [w64 (by omega) (by omega)]; omega
    rw [c_ltT ha, if_pos ha, if_pos ha, e]
  · rw [c_ltF ha, if_neg ha, if_neg ha]
theorem absI_rng {a : Int} (h : InS a) : 0 ≤ absI a ∧ absI a ≤ 9223372036854775807 := by unfold absI; split <;> omega
theorem sgnB_len (a : Int) : (sgnB a).length = 1 := by unfold sgnB; split <;> rfl
end Dv

/- Intervals as texts, in words. -/
namespace Dv
open Go

def unitB (n : Int) (name : List UInt8) (was : Int) : List UInt8 :=
  if n = 0 then [] else (if was < 0 ∧ 0 < n then [43] else []) ++ (decI n ++ (32 :: (name ++ (if n = 1 then [] else [115]))))
def nextW (n was : Int) : Int := if n = 0 then was else n
def timeB (u was : Int) : List UInt8 := if 0 < u ∧ was < 0 then 43 :: longI u else if u ≠ 0 ∨ was = 0 then longI u else []

theorem unitB_len (n : Int) (name : List UInt8) (was : Int) (h : name.length ≤ 10) : (unitB n name was).length ≤ 40 := by
  have := decI_len n
  unfold unitB
  split
  · simp
  · split <;> split <;> simp <;> omega
theorem timeB_len (u was : Int) : (timeB u was).length ≤ 92 := by
  have := longI_len u
  unfold timeB
  split
  · simp; omega
  · split
    · omega
    · simp

/-- What stands behind a text, with a blank between. -/
def addW (t s : List UInt8) : List UInt8 := if s = [] then t else if t = [] then s else t ++ (32 :: s)

theorem join_addW (a b c d : List UInt8) : joinB [32] (fullL [a, b, c, d]) = addW (addW (addW a b) c) d := by
  unfold addW fullL eqS
  by_cases h1 : a = [] <;> by_cases h2 : b = [] <;> by_cases h3 : c = [] <;> by_cases h4 : d = [] <;> simp [h1, h2, h3, h4, joinB]

theorem unit_join (p n x m : List UInt8) (hp : p.length ≤ 10) (hn : n.length ≤ 100) (hx : x.length ≤ 10) (hm : m.length ≤ 10) :
    show_join [.str p, .str n, .str [32], .str x, .str m] = some (.str (p ++ (n ++ (32 :: (x ++ m))))) := by
  have := join_s [p, n, [32], x, m] (by simp) (by simp [totL]; omega)
  simp only [List.map_cons, List.map_nil] at this
  rw [this]
  simp

theorem between4 (a b c d : List UInt8) (ha : a.length ≤ 100) (hb : b.length ≤ 100) (hc : c.length ≤ 100) (hd : d.length ≤ 100) :
    show_between [32] [.str a, .str b, .str c, .str d] = some (.str (addW (addW (addW a b) c) d)) := by
  have := between_s [32] (by simp) [a, b, c, d] (by simp) (by simp [totL]; omega)
  simp only [List.map_cons, List.map_nil] at this
  rw [this, join_addW]

def yearN : List UInt8 := [121, 101, 97, 114]
def monN : List UInt8 := [109, 111, 110]
def dayN : List UInt8 := [100, 97, 121]

theorem pg_c5 (a b c : List UInt8) (ha : a.length ≤ 100) (hb : b.length ≤ 100) (hc : c.length ≤ 100) (i m d : Int) {u : Int} (hu : InS u) (was : Int) :
    show_postgres_c5 a b c i m d u was = some (.str (addW (addW (addW a b) c) (timeB u was))) := by
  have hl := longI_len u
  have c8 : ¬ (0 < u ∧ was < 0) → show_postgres_c8 a b c [] i m d u was = some (.str (addW (addW (addW a b) c) (timeB u was))) := by
    intro hn
    rw [show_postgres_c8_eq, long_s (by omega) (by omega)]
    unfold timeB
    rw [if_neg hn]
    by_cases h0 : u = 0
    · rw [c_not, c_eqT h0]
      by_cases hw : was = 0
      · rw [c_eqT hw, if_pos (.inr hw)]
        simp only [Option.bind_some, toS_str]
        rw [between4 a b c (longI u) ha hb hc (by omega)]
        rfl
      · rw [c_eqF hw, if_neg (fun h => h.elim (fun h => h h0) hw), between4 a b c [] ha hb hc (by simp)]
        rfl
    · rw [c_not, c_eqF h0, if_pos (.inl h0)]
      simp only [Option.bind_some, toS_str]
      rw [between4 a b c (longI u) ha hb hc (by omega)]
      rfl
  rw [show_postgres_c5_eq]
  by_cases h1 : 0 < u
  · rw [c_ltT h1]
    by_cases h2 : was < 0
    · rw [c_ltT h2, show_postgres_c7_eq, long_s (by omega) (by omega)]
      simp only [Option.bind_some, toS_str]
      have hj := join_s [[43], longI u] (by simp) (by simp [totL]; omega)
      simp only [List.map_cons, List.map_nil] at hj
      have ht : timeB u was = 43 :: longI u := if_pos ⟨h1, h2⟩
      rw [hj, ht]
      simp only [Option.bind_some, toS_str]
      rw [between4 a b c _ ha hb hc (by simp; omega)]
      simp only [Option.bind_some, toS_str]
      simp
    · rw [c_ltF h2]; exact c8 (fun h => h2 h.2)
  · rw [c_ltF h1]; exact c8 (fun h => h1 h.1)

theorem pg_c4 (a b : List UInt8) (ha : a.length ≤ 100) (hb : b.length ≤ 100) (i m : Int) {d u : Int} (hd : InS d) (hu : InS u) (was : Int) :
    show_postgres_c4 a b i m d u was = some (.str (addW (addW (addW a b) (unitB d dayN was)) (timeB u (nextW d was)))) := by
  have hn := decI_len d
  have hl := unitB_len d dayN was (by decide)
  rw [show_postgres_c4_eq]
  by_cases h0 : d = 0
  · rw [c_eqT h0, pg_c5 a b [] ha hb (by simp) i m d hu was]
    unfold unitB nextW
    rw [if_pos h0, if_pos h0]
  · rw [c_eqF h0, number_s hd]
    have hw : nextW d was = d := if_neg h0
    rw [hw]
    have fin : ∀ p q : List UInt8, unitB d dayN was = p ++ (decI d ++ (32 :: (dayN ++ q))) → p.length ≤ 10 → q.length ≤ 10 →
        ((some (PV.str (decI d))).bind fun v => (show_join [.str p, .str v.toS, .str [32], .str [100, 97, 121], .str q]).bind fun w => show_postgres_c5 a b w.toS i m d u d) =
          some (.str (addW (addW (addW a b) (unitB d dayN was)) (timeB u d))) := by
      intro p q h hp hq
      simp only [Option.bind_some, toS_str]
      have := unit_join p (decI d) dayN q hp (by omega) (by decide) hq
      unfold dayN at this
      rw [this]
      simp only [Option.bind_some, toS_str]
      rw [h] at hl ⊢
      exact pg_c5 a b _ ha hb (by unfold dayN at hl; omega) i m d hu d
    have hu' : unitB d dayN was = (if was < 0 ∧ 0 < d then [43] else []) ++ (decI d ++ (32 :: (dayN ++ (if d = 1 then [] else [115])))) := if_neg h0
    by_cases h1 : was < 0
    · rw [c_ltT h1]
      by_cases h2 : 0 < d
      · rw [c_ltT h2]
        rw [if_pos ⟨h1, h2⟩] at hu'
        by_cases h3 : d = 1
        · rw [c_eqT h3]; rw [if_pos h3] at hu'; exact fin _ _ hu' (by simp) (by simp)
        · rw [c_eqF h3]; rw [if_neg h3] at hu'; exact fin _ _ hu' (by simp) (by simp)
      · rw [c_ltF h2]
        rw [if_neg (fun h => h2 h.2)] at hu'
        by_cases h3 : d = 1
        · rw [c_eqT h3]; rw [if_pos h3] at hu'; exact fin _ _ hu' (by simp) (by simp)
        · rw [c_eqF h3]; rw [if_neg h3] at hu'; exact fin _ _ hu' (by simp) (by simp)
    · rw [c_ltF h1]
      rw [if_neg (fun h => h1 h.1)] at hu'
      by_cases h3 : d = 1
      · rw [c_eqT h3]; rw [if_pos h3] at hu'; exact fin _ _ hu' (by simp) (by simp)
      · rw [c_eqF h3]; rw [if_neg h3] at hu'; exact fin _ _ hu' (by simp) (by simp)

theorem tmod12 (m : Int) : InS (m.tmod 12) := by
  have := Int.lt_tmod_of_pos m (show (0 : Int) < 12 by omega)
  have := Int.tmod_lt_of_pos m (show (0 : Int) < 12 by omega)
  exact ⟨by omega, by omega⟩

theorem pg_c3 (a : List UInt8) (ha : a.length ≤ 50) (i m : Int) {d u : Int} (hd : InS d) (hu : InS u) (was : Int) :
    show_postgres_c3 a i m d u was = some (.str (addW (addW (addW a (unitB (m.tmod 12) monN was)) (unitB d dayN (nextW (m.tmod 12) was))) (timeB u (nextW d (nextW (m.tmod 12) was))))) := by
  have hr := tmod12 m
  have hn := decI_len (m.tmod 12)
  have hl := unitB_len (m.tmod 12) monN was (by decide)
  rw [show_postgres_c3_eq]
  by_cases h0 : m.tmod 12 = 0
  · rw [c_eqT h0, pg_c4 a [] (by omega) (by simp) i m hd hu was]
    unfold unitB nextW
    rw [if_pos h0, if_pos h0]
  · rw [c_eqF h0, number_s hr]
    have hw : nextW (m.tmod 12) was = m.tmod 12 := if_neg h0
    rw [hw]
    have fin : ∀ p q : List UInt8, unitB (m.tmod 12) monN was = p ++ (decI (m.tmod 12) ++ (32 :: (monN ++ q))) → p.length ≤ 10 → q.length ≤ 10 →
        ((some (PV.str (decI (m.tmod 12)))).bind fun v => (show_join [.str p, .str v.toS, .str [32], .str [109, 111, 110], .str q]).bind fun w => show_postgres_c4 a w.toS i m d u (m.tmod 12)) =
          some (.str (addW (addW (addW a (unitB (m.tmod 12) monN was)) (unitB d dayN (m.tmod 12))) (timeB u (nextW d (m.tmod 12))))) := by
      intro p q h hp hq
      simp only [Option.bind_some, toS_str]
      have := unit_join p (decI (m.tmod 12)) monN q hp (by omega) (by decide) hq
      unfold monN at this
      rw [this]
      simp only [Option.bind_some, toS_str]
      rw [h] at hl ⊢
      exact pg_c4 a _ (by omega) (by unfold monN at hl; omega) i m hd hu (m.tmod 12)
    have hu' : unitB (m.tmod 12) monN was = (if was < 0 ∧ 0 < m.tmod 12 then [43] else []) ++ (decI (m.tmod 12) ++ (32 :: (monN ++ (if m.tmod 12 = 1 then [] else [115])))) := if_neg h0
    by_cases h1 : was < 0
    · rw [c_ltT h1]
      by_cases h2 : 0 < m.tmod 12
      · rw [c_ltT h2]
        rw [if_pos ⟨h1, h2⟩] at hu'
        by_cases h3 : m.tmod 12 = 1
        · rw [c_eqT h3]; rw [if_pos h3] at hu'; exact fin _ _ hu' (by simp) (by simp)
        · rw [c_eqF h3]; rw [if_neg h3] at hu'; exact fin _ _ hu' (by simp) (by simp)
      · rw [c_ltF h2]
        rw [if_neg (fun h => h2 h.2)] at hu'
        by_cases h3 : m.tmod 12 = 1
        · rw [c_eqT h3]; rw [if_pos h3] at hu'; exact fin _ _ hu' (by simp) (by simp)
        · rw [c_eqF h3]; rw [if_neg h3] at hu'; exact fin _ _ hu' (by simp) (by simp)
    · rw [c_ltF h1]
      rw [if_neg (fun h => h1 h.1)] at hu'
      by_cases h3 : m.tmod 12 = 1
      · rw [c_eqT h3]; rw [if_pos h3] at hu'; exact fin _ _ hu' (by simp) (by simp)
      · rw [c_eqF h3]; rw [if_neg h3] at hu'; exact fin _ _ hu' (by simp) (by simp)

theorem tdiv12 {m : Int} (h : -2147483647 ≤ m ∧ m ≤ 2147483647) : -2147483647 ≤ m.tdiv 12 ∧ m.tdiv 12 ≤ 2147483647 := by
  rcases Int.lt_or_le m 0 with h0 | h0
  · have : m.tdiv 12 = -((-m).tdiv 12) := by rw [Int.neg_tdiv]; omega
    rw [this, Int.tdiv_eq_ediv_of_nonneg (show 0 ≤ -m by omega)]
    omega
  · rw [Int.tdiv_eq_ediv_of_nonneg h0]; omega

def pgB (m d u : Int) : List UInt8 :=
  addW (addW (addW (unitB (m.tdiv 12) yearN 0) (unitB (m.tmod 12) monN (m.tdiv 12))) (unitB d dayN (nextW (m.tmod 12) (m.tdiv 12)))) (timeB u (nextW d (nextW (m.tmod 12) (m.tdiv 12))))

theorem postgres_s (i : Int) {m d u : Int} (hm : -2147483647 ≤ m ∧ m ≤ 2147483647) (hd : InS d) (hu : InS u) : show_postgres i m d u = some (.str (pgB m d u)) := by
  have hy := tdiv12 hm
  have hn := decI_len (m.tdiv 12)
  have hl := unitB_len (m.tdiv 12) yearN 0 (by decide)
  rw [show_postgres_eq, w64 (by omega) (by omega)]
  unfold pgB
  by_cases h0 : m.tdiv 12 = 0
  · rw [c_eqT h0, pg_c3 [] (by simp) i m hd hu 0, h0]
    unfold unitB
    rw [if_pos rfl]
  · rw [c_eqF h0, number_s (by exact ⟨by omega, by omega⟩)]
    have fin : ∀ q : List UInt8, unitB (m.tdiv 12) yearN 0 = [] ++ (decI (m.tdiv 12) ++ (32 :: (yearN ++ q))) → q.length ≤ 10 →
        ((some (PV.str (decI (m.tdiv 12)))).bind fun v => (show_join [.str [], .str v.toS, .str [32], .str [121, 101, 97, 114], .str q]).bind fun w => show_postgres_c3 w.toS i m d u (m.tdiv 12)) =
          some (.str (addW (addW (addW (unitB (m.tdiv 12) yearN 0) (unitB (m.tmod 12) monN (m.tdiv 12))) (unitB d dayN (nextW (m.tmod 12) (m.tdiv 12)))) (timeB u (nextW d (nextW (m.tmod 12) (m.tdiv 12)))))) := by
      intro q h hq
      simp only [Option.bind_some, toS_str]
      have := unit_join [] (decI (m.tdiv 12)) yearN q (by simp) (by omega) (by decide) hq
      unfold yearN at this
      rw [this]
      simp only [Option.bind_some, toS_str]
      rw [h] at hl ⊢
      exact pg_c3 _ (by unfold yearN at hl; omega) i m hd hu (m.tdiv 12)
    have hu' : unitB (m.tdiv 12) yearN 0 = (if (0 : Int) < 0 ∧ 0 < m.tdiv 12 then [43] else []) ++ (decI (m.tdiv 12) ++ (32 :: (yearN ++ (if m.tdiv 12 = 1 then [] else [115])))) := if_neg h0
    rw [if_neg (by omega)] at hu'
    by_cases h3 : m.tdiv 12 = 1
    · rw [c_eqT h3]; rw [if_pos h3] at hu'; exact fin _ hu' (by simp)
    · rw [c_eqF h3]; rw [if_neg h3] at hu'; exact fin _ hu' (by simp)

/-! ### the reference's -/
theorem runit_s {n : Int} (hn : InS n) (h0 : n ≠ 0) (name : List UInt8) (hname : name.length ≤ 10) (was : Int) : computusref19_unit n name was = some (.str (unitB n name was)) := by
  have hl := decI_len n
  rw [computusref19_unit_eq, rdigits_s (by omega) (by omega)]
  simp only [Option.bind_some, toS_str]
  rw [catS_ok (by simp; omega)]
  simp only [Option.bind_some]
  rw [catS_ok (by simp; omega)]
  simp only [Option.bind_some]
  have c4 : ∀ q : List UInt8, q.length ≤ 10 → (if n = 1 then [] else [115]) = q → computusref19_unit_c4 n was (decI n ++ [32] ++ name ++ q) = some (.str (unitB n name was)) := by
    intro q hq hqq
    have hu : unitB n name was = (if was < 0 ∧ 0 < n then [43] else []) ++ (decI n ++ (32 :: (name ++ q))) := by rw [← hqq]; exact if_neg h0
    rw [computusref19_unit_c4_eq, hu]
    by_cases h1 : was < 0
    · rw [c_ltT h1]
      by_cases h2 : 0 < n
      · rw [c_ltT h2, if_pos ⟨h1, h2⟩, catS_ok (by simp; omega)]; simp
      · rw [c_ltF h2, if_neg (fun h => h2 h.2)]; simp
    · rw [c_ltF h1, if_neg (fun h => h1 h.1)]; simp
  by_cases h3 : n = 1
  · rw [c_not, c_eqT h3]
    have := c4 [] (by simp) (if_pos h3)
    rw [List.append_nil] at this
    exact this
  · rw [c_not, c_eqF h3, catS_ok (by simp; omega)]
    simp only [Option.bind_some]
    exact c4 [115] (by simp) (if_neg h3)

theorem unitB_nil {n : Int} (name : List UInt8) (was : Int) : unitB n name was = [] ↔ n = 0 := by
  unfold unitB
  constructor
  · intro h
    by_cases h0 : n = 0
    · exact h0
    · rw [if_neg h0] at h
      have := congrArg List.length h
      simp at this
  · intro h; rw [if_pos h]
theorem addW_nilr (t : List UInt8) : addW t [] = t := by unfold addW; rw [if_pos rfl]
theorem addW_nil {a b : List UInt8} : addW a b = [] ↔ a = [] ∧ b = [] := by
  unfold addW
  by_cases h1 : b = [] <;> by_cases h2 : a = [] <;> simp [h1, h2]
theorem addW_len (a b : List UInt8) : (addW a b).length ≤ a.length + b.length + 1 := by
  unfold addW
  split
  · omega
  · split
    · omega
    · simp; omega
theorem timeB_nil {u was : Int} : timeB u was = [] ↔ u = 0 ∧ was ≠ 0 := by
  have hl : longI u ≠ [] := by
    have : ∀ t, textN t ≠ [] := by
      intro t h
      have := congrArg List.length h
      simp [textN] at this
    unfold longI
    split
    · simp
    · exact this _
  unfold timeB
  split
  · constructor
    · intro h; simp at h
    · intro h; omega
  · split
    · rename_i h
      constructor
      · intro h'; exact absurd h' hl
      · intro h'; omega
    · rename_i h
      constructor
      · intro _; omega
      · intro _; rfl

theorem rpg_c15 (x : List UInt8) (hx : x.length ≤ 500) (was a b c : Int) {u : Int} (hu : InS u) (h : timeB u was ≠ []) : computusref19_postgres_c15 x was a b c u = some (.str (addW x (timeB u was))) := by
  have hl := longI_len u
  have c17 : ∀ y : List UInt8, y.length ≤ 600 → computusref19_postgres_c17 y was a b c u = some (.str (y ++ timeB u was)) := by
    intro y hy
    have hnn : ¬ (u = 0 ∧ was ≠ 0) := fun h' => h (timeB_nil.2 h')
    rw [computusref19_postgres_c17_eq, rlong_s (by omega) (by omega)]
    unfold timeB
    by_cases h1 : was < 0
    · rw [c_ltT h1]
      by_cases h2 : 0 < u
      · rw [c_ltT h2, if_pos ⟨h2, h1⟩, catS_ok (by simp; omega)]
        simp only [Option.bind_some, toS_str]
        rw [catS_ok (by simp; omega)]
        simp
      · rw [c_ltF h2, if_neg (fun h => h2 h.1), if_pos (by omega)]
        simp only [Option.bind_some, toS_str]
        rw [catS_ok (by omega)]
        rfl
    · rw [c_ltF h1, if_neg (fun h => h1 h.2), if_pos (by omega)]
      simp only [Option.bind_some, toS_str]
      rw [catS_ok (by omega)]
      rfl
  rw [computusref19_postgres_c15_eq]
  unfold addW
  rw [if_neg h]
  by_cases hx0 : x = []
  · rw [c_not, c_eqsT hx0, c17 x (by omega), if_pos hx0, hx0]; rfl
  · rw [c_not, c_eqsF hx0, catS_ok (by simp; omega), if_neg hx0]
    simp only [Option.bind_some]
    rw [c17 _ (by simp; omega)]
    simp

theorem rpg_c6 (x : List UInt8) (hx : x.length ≤ 500) (was : Int) (k : Nat) (hk : k < 3) (a b c : Int) {u : Int} (ns : List Int) (hns : ns.length = 3) (names : List (List UInt8)) (hnames : names.length = 3) (hnl : ∀ s ∈ names, s.length ≤ 10)
    (hin : ∀ n ∈ ns, InS n) (n : Int) (name : List UInt8) (h1 : ns[k]? = some n) (h2 : names[k]? = some name) (y z : Nat) :
    computusref19_postgres_c6 x was (k : Int) a b c u (ns.map (PV.int .i64)) y (names.map PV.str) z =
      computusref19_postgres_c6 (addW x (unitB n name was)) (nextW n was) ((k + 1 : Nat) : Int) a b c u (ns.map (PV.int .i64)) y (names.map PV.str) z := by
  have hn : InS n := hin n (List.mem_of_getElem? h1)
  have hnm : name.length ≤ 10 := hnl name (List.mem_of_getElem? h2)
  have hul := unitB_len n name was hnm
  have e1 : IntKind.i64.wrap ((k : Int) + 1) = ((k + 1 : Nat) : Int) := by rw [w64 (by omega) (by omega)]; omega
  have r1 : rdT (tiInt .i64) (ns.map (PV.int .i64)) k 0 = some (.int .i64 n) := by unfold rdT; rw [List.getElem?_map, h1]; rfl
  rw [computusref19_postgres_c6_eq, c_ltT (by omega), c_inT (by simp; omega), Int.toNat_natCast, r1]
  simp only [Option.bind_some, toI_int]
  by_cases h0 : n = 0
  · rw [c_eqT h0, computusref19_postgres_c7_eq, e1]
    have hu : unitB n name was = [] := (unitB_nil name was).2 h0
    rw [hu]
    unfold addW nextW
    rw [if_pos rfl, if_pos h0]
  · have c11 : ∀ t : List UInt8, t.length ≤ 600 → computusref19_postgres_c11 t was (k : Int) a b c u (ns.map (PV.int .i64)) y (names.map PV.str) z =
        computusref19_postgres_c6 (t ++ unitB n name was) n ((k + 1 : Nat) : Int) a b c u (ns.map (PV.int .i64)) y (names.map PV.str) z := by
      intro t ht
      rw [computusref19_postgres_c11_eq, c_inT (by simp; omega), Int.toNat_natCast, r1]
      simp only [Option.bind_some, toI_int]
      rw [c_inT (by simp; omega), rdT_str h2]
      simp only [Option.bind_some, toS_str]
      rw [runit_s hn h0 name hnm was]
      simp only [Option.bind_some, toS_str]
      rw [catS_ok (by omega)]
      simp only [Option.bind_some]
      rw [c_inT (by simp; omega), computusref19_postgres_c7_eq, e1]
    have hu : unitB n name was ≠ [] := fun h => h0 ((unitB_nil name was).1 h)
    have hw : nextW n was = n := if_neg h0
    rw [c_eqF h0, hw]
    unfold addW
    rw [if_neg hu]
    by_cases hx0 : x = []
    · rw [c_not, c_eqsT hx0, c11 x (by omega), if_pos hx0, hx0]; rfl
    · rw [c_not, c_eqsF hx0, catS_ok (by simp; omega), if_neg hx0]
      simp only [Option.bind_some]
      rw [c11 _ (by simp; omega)]
      simp

theorem rpostgres_s (i : Int) {m d u : Int} (hm : -2147483647 ≤ m ∧ m ≤ 2147483647) (hd : InS d) (hu : InS u) : computusref19_postgres i m d u = some (.str (pgB m d u)) := by
  have hy := tdiv12 hm
  have hr := tmod12 m
  have l1 := unitB_len (m.tdiv 12) yearN 0 (by decide)
  have l2 := unitB_len (m.tmod 12) monN (m.tdiv 12) (by decide)
  have l3 := unitB_len d dayN (nextW (m.tmod 12) (m.tdiv 12)) (by decide)
  have a1 := addW_len [] (unitB (m.tdiv 12) yearN 0)
  have a2 := addW_len (unitB (m.tdiv 12) yearN 0) (unitB (m.tmod 12) monN (m.tdiv 12))
  have a3 := addW_len (addW (unitB (m.tdiv 12) yearN 0) (unitB (m.tmod 12) monN (m.tdiv 12))) (unitB d dayN (nextW (m.tmod 12) (m.tdiv 12)))
  have n0 : addW [] (unitB (m.tdiv 12) yearN 0) = unitB (m.tdiv 12) yearN 0 := by
    unfold addW
    split
    · rename_i h; exact h.symm
    · rw [if_pos rfl]
  have w0 : nextW (m.tdiv 12) 0 = m.tdiv 12 := by unfold nextW; split <;> omega
  rw [computusref19_postgres_eq, w64 (by omega) (by omega)]
  have hin : ∀ n ∈ [m.tdiv 12, m.tmod 12, d], InS n := by
    intro n hn
    simp at hn
    rcases hn with rfl | rfl | rfl
    · exact ⟨by omega, by omega⟩
    · exact hr
    · exact hd
  have hnl : ∀ s ∈ [yearN, monN, dayN], s.length ≤ 10 := by decide
  have s1 := rpg_c6 [] (by simp) 0 0 (by omega) i m d (u := u) [m.tdiv 12, m.tmod 12, d] rfl [yearN, monN, dayN] rfl hnl hin _ _ rfl rfl 3 3
  have s2 := rpg_c6 (unitB (m.tdiv 12) yearN 0) (by omega) (m.tdiv 12) 1 (by omega) i m d (u := u) [m.tdiv 12, m.tmod 12, d] rfl [yearN, monN, dayN] rfl hnl hin _ _ rfl rfl 3 3
  have s3 := rpg_c6 (addW (unitB (m.tdiv 12) yearN 0) (unitB (m.tmod 12) monN (m.tdiv 12))) (by omega) (nextW (m.tmod 12) (m.tdiv 12)) 2 (by omega) i m d (u := u) [m.tdiv 12, m.tmod 12, d] rfl [yearN, monN, dayN] rfl hnl hin _ _ rfl rfl 3 3
  rw [n0, w0] at s1
  simp only [List.map_cons, List.map_nil] at s1 s2 s3
  refine (s1.trans (s2.trans s3)).trans ?_
  rw [computusref19_postgres_c6_eq, c_ltF (by omega)]
  have ht := timeB_len u (nextW d (nextW (m.tmod 12) (m.tdiv 12)))
  have hz : addW (addW (unitB (m.tdiv 12) yearN 0) (unitB (m.tmod 12) monN (m.tdiv 12))) (unitB d dayN (nextW (m.tmod 12) (m.tdiv 12))) = [] ↔ nextW d (nextW (m.tmod 12) (m.tdiv 12)) = 0 := by
    rw [addW_nil, addW_nil, unitB_nil, unitB_nil, unitB_nil]
    unfold nextW
    by_cases h1 : d = 0 <;> by_cases h2 : m.tmod 12 = 0 <;> simp [h1, h2]
  unfold pgB
  by_cases hn : timeB u (nextW d (nextW (m.tmod 12) (m.tdiv 12))) = []
  · obtain ⟨hu0, hw⟩ := timeB_nil.1 hn
    have hne : ¬ addW (addW (unitB (m.tdiv 12) yearN 0) (unitB (m.tmod 12) monN (m.tdiv 12))) (unitB d dayN (nextW (m.tmod 12) (m.tdiv 12))) = [] := fun h => hw (hz.1 h)
    rw [c_eqT hu0, c_not, c_eqsF hne, computusref19_postgres_c14_eq, hn, addW_nilr]
  · have c15 := rpg_c15 _ (show (addW (addW (unitB (m.tdiv 12) yearN 0) (unitB (m.tmod 12) monN (m.tdiv 12))) (unitB d dayN (nextW (m.tmod 12) (m.tdiv 12)))).length ≤ 500 by omega) _ i m d hu hn
    by_cases hu0 : u = 0
    · have hw : nextW d (nextW (m.tmod 12) (m.tdiv 12)) = 0 := by
        by_cases h : nextW d (nextW (m.tmod 12) (m.tdiv 12)) = 0
        · exact h
        · exact absurd (timeB_nil.2 ⟨hu0, h⟩) hn
      rw [c_eqT hu0, c_not, c_eqsT (hz.2 hw)]
      exact c15
    · rw [c_eqF hu0]
      exact c15
end Dv

/- Intervals as texts: three words, letters; the law. -/
namespace Dv
open Go

/-! ### a number and its sign -/
theorem nat_or (u : Int) : ∃ n : Nat, (u = (n : Int) ∧ 0 ≤ u) ∨ (u = -(n : Int) ∧ u < 0) := by
  rcases Int.lt_or_le u 0 with h | h
  · exact ⟨(-u).toNat, .inr ⟨by omega, h⟩⟩
  · exact ⟨u.toNat, .inl ⟨by omega, h⟩⟩
theorem tdiv_neg (n k : Nat) : Int.tdiv (-(n : Int)) (k : Int) = -((n / k : Nat) : Int) := by rw [Int.neg_tdiv, tdivN]
theorem tmod_neg (n k : Nat) : Int.tmod (-(n : Int)) (k : Int) = -((n % k : Nat) : Int) := by rw [Int.neg_tmod, tmodN]

/-! ### strings.Cut at the first colon -/
theorem extIB : findExt fn_bytealg_IndexByteString EE.ext = some extIndexByte := by kernel_rfl
theorem sIndexByte_s (s : List UInt8) (c : UInt8) : stringslite_IndexByte s (c.toNat : Int) = some (.int .i64 (Lib.indexByte s c)) := by
  rw [stringslite_IndexByte_eq, callW_ext EE _ _ _ extIB]
  have e : extIndexByte [.str s, .int .u8 (c.toNat : Int)] = some (.int .i64 (Lib.indexByte s c)) := by
    unfold extIndexByte
    simp
  rw [e]; rfl
theorem cut_two (r : List UInt8) : strings_Cut (48 :: 48 :: 58 :: r) [58] = some (.tuple [.str [48, 48], .str r, .bool true]) := by
  have hi : Lib.indexByte (48 :: 48 :: 58 :: r) 58 = 2 := by simp [Lib.indexByte]
  have e1 : (((List.length [(58 : UInt8)] : Nat)) : Int) = 1 := rfl
  have e2 : IntKind.i64.wrap (2 + 1) = 3 := by decide
  have hc := sIndexByte_s (48 :: 48 :: 58 :: r) 58
  rw [show (((58 : UInt8).toNat : Nat) : Int) = 58 from rfl] at hc
  have hidx : stringslite_Index (48 :: 48 :: 58 :: r) [58] = some (.int .i64 2) := by
    rw [stringslite_Index_eq, e1, c_eqF (by omega), c_eqsF (by simp), stringslite_Index_c4_eq, c_eqT rfl, atS_z (c := 58) rfl]
    simp only [Option.bind_some]
    rw [show (((58 : UInt8).toNat : Nat) : Int) = 58 from rfl, hc, hi]
    rfl
  have ht : takeS (48 :: 48 :: 58 :: r) 2 = some [48, 48] := by rw [takeS_ok (by omega) (by simp; omega)]; rfl
  have hd : dropS (48 :: 48 :: 58 :: r) 3 = some r := by rw [dropS_ok (by omega) (by simp; omega)]; rfl
  rw [strings_Cut_eq, stringslite_Cut_eq, hidx]
  simp only [Option.bind_some, toI_int]
  rw [c_leT (by omega), ht, e1, e2]
  simp only [Option.bind_some]
  rw [hd]
  rfl

theorem trimP_minus : strings_TrimPrefix [45] [43] = some (.str [45]) := by
  have ht : takeS [(45 : UInt8)] 1 = some [45] := rfl
  have e1 : (((List.length [(43 : UInt8)] : Nat)) : Int) = 1 := rfl
  have e2 : (((List.length [(45 : UInt8)] : Nat)) : Int) = 1 := rfl
  rw [strings_TrimPrefix_eq, stringslite_TrimPrefix_eq, stringslite_HasPrefix_eq, e1, e2, c_leT (by omega), ht]
  rfl
theorem trimP_plus : strings_TrimPrefix [43] [43] = some (.str []) := by
  have ht : takeS [(43 : UInt8)] 1 = some [43] := rfl
  have e1 : (((List.length [(43 : UInt8)] : Nat)) : Int) = 1 := rfl
  have hd : dropS [(43 : UInt8)] 1 = some [] := rfl
  rw [strings_TrimPrefix_eq, stringslite_TrimPrefix_eq, stringslite_HasPrefix_eq, e1, c_leT (by omega), ht]
  simp only [Option.bind_some, toB_bool]
  have : eqS [(43 : UInt8)] [43] = true := rfl
  rw [this, cond_true, hd]
  rfl

/-! ### three words -/
def clockN (n : Nat) : List UInt8 := digN (n / 3600000000) ++ (58 :: (twoN (n / 60000000 % 60) ++ (58 :: (twoN (n / 1000000 % 60) ++ fracN (n % 1000000)))))
def wordsB (m d u : Int) : List UInt8 :=
  sgnB m ++ (digN ((absI m).toNat / 12) ++ (45 :: (digN ((absI m).toNat % 12) ++ (32 :: (sgnB d ++ (digN (absI d).toNat ++ (32 :: (sgnB u ++ clockN (absI u).toNat))))))))

theorem absI_nat {a : Int} (h : InS a) : absI a = (((absI a).toNat : Nat) : Int) := by have := absI_rng h; omega

theorem long_zero {t : Nat} (ht : t < 3600000000) : clock_Long (t : Int) = some (.str (48 :: 48 :: 58 :: (twoN (t / 60000000 % 60) ++ (58 :: (twoN (t / 1000000 % 60) ++ fracN (t % 1000000)))))) := by
  rw [long_s (by omega) (by omega)]
  unfold longI
  rw [if_neg (by omega), Int.toNat_natCast]
  unfold textN
  have : t / 3600000000 = 0 := by omega
  rw [this]
  rfl

theorem sql_s (i : Int) {m d u : Int} (hm : InS m) (hd : InS d) (hu : InS u) : show_sql i m d u = some (.str (wordsB m d u)) := by
  have rm := absI_rng hm
  have rd := absI_rng hd
  have ru := absI_rng hu
  have em := absI_nat hm
  have ed := absI_nat hd
  have eu := absI_nat hu
  have k1 := sgnB_len m
  have k2 := sgnB_len d
  have k3 := sgnB_len u
  have g1 := digN_len ((absI m).toNat / 12)
  have g2 := digN_len ((absI m).toNat % 12)
  have g3 := digN_len (absI d).toNat
  have g4 := digN_len ((absI u).toNat / 3600000000)
  have g5 := twoN_len ((absI u).toNat / 60000000 % 60)
  have g6 := twoN_len ((absI u).toNat / 1000000 % 60)
  have g7 := fracN_len ((absI u).toNat % 1000000)
  rw [show_sql_eq, signed_s hm, signed_s hd, signed_s hu]
  simp only [Option.bind_some, tn0, tn1, toI_int, toS_str]
  unfold wordsB clockN
  rw [em, ed, eu]
  generalize (absI m).toNat = a at *
  generalize (absI d).toNat = b at *
  generalize (absI u).toNat = n at *
  have q1 : Int.tmod (n : Int) 3600000000 = ((n % 3600000000 : Nat) : Int) := tmodN n 3600000000
  have q2 : IntKind.i64.wrap (Int.tdiv (a : Int) 12) = ((a / 12 : Nat) : Int) := by
    have := tdivN a 12
    rw [show ((12 : Nat) : Int) = 12 from rfl] at this
    rw [this, w64 (by omega) (by omega)]
  have q3 : Int.tmod (a : Int) 12 = ((a % 12 : Nat) : Int) := tmodN a 12
  have q4 : IntKind.i64.wrap (Int.tdiv (n : Int) 3600000000) = ((n / 3600000000 : Nat) : Int) := by
    have := tdivN n 3600000000
    rw [show ((3600000000 : Nat) : Int) = 3600000000 from rfl] at this
    rw [this, w64 (by omega) (by omega)]
  have p1 : n % 3600000000 / 60000000 % 60 = n / 60000000 % 60 := by omega
  have p2 : n % 3600000000 / 1000000 % 60 = n / 1000000 % 60 := by omega
  have p3 : n % 3600000000 % 1000000 = n % 1000000 := by omega
  rw [q1, q2, q3, q4, long_zero (by omega), p1, p2, p3]
  simp only [Option.bind_some, toS_str]
  rw [cut_two, sdigits_s (by omega) (by omega), sdigits_s (by omega) (by omega), sdigits_s (by omega) (by omega), sdigits_s (by omega) (by omega)]
  simp only [Option.bind_some, toS_str, tn1, Int.toNat_natCast]
  have j1 := join_s [sgnB m, digN (a / 12), [45], digN (a % 12)] (by simp) (by simp [totL]; omega)
  have j2 := join_s [sgnB d, digN b] (by simp) (by simp [totL]; omega)
  have j3 := join_s [sgnB u, digN (n / 3600000000), [58], twoN (n / 60000000 % 60) ++ (58 :: (twoN (n / 1000000 % 60) ++ fracN (n % 1000000)))] (by simp) (by simp [totL]; omega)
  simp only [List.map_cons, List.map_nil] at j1 j2 j3
  rw [j1, j2, j3]
  simp only [Option.bind_some, toS_str]
  have ne : ∀ (x : Int) (r : List UInt8), eqS (sgnB x ++ r) [] = false := by
    intro x r
    unfold sgnB
    split <;> rfl
  have bt := between_s [32] (by simp) [[sgnB m, digN (a / 12), [45], digN (a % 12)].flatten, [sgnB d, digN b].flatten, [sgnB u, digN (n / 3600000000), [58], twoN (n / 60000000 % 60) ++ (58 :: (twoN (n / 1000000 % 60) ++ fracN (n % 1000000)))].flatten] (by simp) (by simp [totL]; omega)
  simp only [List.map_cons, List.map_nil] at bt
  rw [bt]
  have hf : fullL [[sgnB m, digN (a / 12), [45], digN (a % 12)].flatten, [sgnB d, digN b].flatten, [sgnB u, digN (n / 3600000000), [58], twoN (n / 60000000 % 60) ++ (58 :: (twoN (n / 1000000 % 60) ++ fracN (n % 1000000)))].flatten] =
      [[sgnB m, digN (a / 12), [45], digN (a % 12)].flatten, [sgnB d, digN b].flatten, [sgnB u, digN (n / 3600000000), [58], twoN (n / 60000000 % 60) ++ (58 :: (twoN (n / 1000000 % 60) ++ fracN (n % 1000000)))].flatten] := by
    unfold fullL
    rw [List.filter_eq_self]
    intro x hx
    simp only [List.mem_cons, List.not_mem_nil, or_false] at hx
    rcases hx with rfl | rfl | rfl <;> rw [List.flatten_cons, ne] <;> rfl
  rw [hf]
  simp [joinB, PV.toS]

theorem rsql_s (i : Int) {m d u : Int} (hm : InS m) (hd : InS d) (hu : InS u) : computusref19_sql i m d u = some (.str (wordsB m d u)) := by
  have rm := absI_rng hm
  have rd := absI_rng hd
  have ru := absI_rng hu
  have em := absI_nat hm
  have ed := absI_nat hd
  have eu := absI_nat hu
  have k1 := sgnB_len m
  have k2 := sgnB_len d
  have k3 := sgnB_len u
  have g1 := digN_len ((absI m).toNat / 12)
  have g2 := digN_len ((absI m).toNat % 12)
  have g3 := digN_len (absI d).toNat
  have g4 := digN_len ((absI u).toNat / 3600000000)
  have g5 := twoN_len ((absI u).toNat / 60000000 % 60)
  have g6 := twoN_len ((absI u).toNat / 1000000 % 60)
  have g7 := fracN_len ((absI u).toNat % 1000000)
  rw [computusref19_sql_eq, size_s hm, size_s hd, size_s hu]
  simp only [Option.bind_some, tn0, tn1, toI_int, toS_str]
  unfold wordsB clockN
  rw [em, ed, eu]
  generalize (absI m).toNat = a at *
  generalize (absI d).toNat = b at *
  generalize (absI u).toNat = n at *
  have q2 : IntKind.i64.wrap (Int.tdiv (a : Int) 12) = ((a / 12 : Nat) : Int) := by
    have := tdivN a 12
    rw [show ((12 : Nat) : Int) = 12 from rfl] at this
    rw [this, w64 (by omega) (by omega)]
  have q3 : Int.tmod (a : Int) 12 = ((a % 12 : Nat) : Int) := tmodN a 12
  have q5 : IntKind.i64.wrap (Int.tdiv (n : Int) 1000000) = ((n / 1000000 : Nat) : Int) := by
    have := tdivN n 1000000
    rw [show ((1000000 : Nat) : Int) = 1000000 from rfl] at this
    rw [this, w64 (by omega) (by omega)]
  have q6 : IntKind.i64.wrap (Int.tdiv ((n / 1000000 : Nat) : Int) 3600) = ((n / 3600000000 : Nat) : Int) := by
    have := tdivN (n / 1000000) 3600
    rw [show ((3600 : Nat) : Int) = 3600 from rfl] at this
    rw [this, w64 (by omega) (by omega), Nat.div_div_eq_div_mul]
  have q7 : Int.tmod (IntKind.i64.wrap (Int.tdiv ((n / 1000000 : Nat) : Int) 60)) 60 = ((n / 60000000 % 60 : Nat) : Int) := by
    have := tdivN (n / 1000000) 60
    rw [show ((60 : Nat) : Int) = 60 from rfl] at this
    rw [this, w64 (by omega) (by omega), Nat.div_div_eq_div_mul]
    exact tmodN _ 60
  have q8 : Int.tmod ((n / 1000000 : Nat) : Int) 60 = ((n / 1000000 % 60 : Nat) : Int) := tmodN _ 60
  have q9 : Int.tmod (n : Int) 1000000 = ((n % 1000000 : Nat) : Int) := tmodN _ 1000000
  have dn : ∀ k : Nat, decI (k : Int) = digN k := fun k => by unfold decI; rw [if_neg (by omega), Int.toNat_natCast]
  rw [q2, q3, q5, q6, q7, q8, q9, rdigits_s (by omega) (by omega), rdigits_s (by omega) (by omega), rdigits_s (by omega) (by omega), rdigits_s (by omega) (by omega), rtwo_s (by omega) (by omega), rtwo_s (by omega) (by omega), rfrac_s (by omega) (by omega)]
  simp only [Option.bind_some, toS_str, Int.toNat_natCast, dn]
  rw [catS_ok (by first | omega | (simp; omega))]
  simp only [Option.bind_some]
  rw [catS_ok (by first | omega | (simp; omega))]
  simp only [Option.bind_some]
  rw [catS_ok (by first | omega | (simp; omega))]
  simp only [Option.bind_some]
  rw [catS_ok (by first | omega | (simp; omega))]
  simp only [Option.bind_some]
  rw [catS_ok (by first | omega | (simp; omega))]
  simp only [Option.bind_some]
  rw [catS_ok (by first | omega | (simp; omega))]
  simp only [Option.bind_some]
  rw [catS_ok (by first | omega | (simp; omega))]
  simp only [Option.bind_some]
  rw [catS_ok (by first | omega | (simp; omega))]
  simp only [Option.bind_some]
  rw [catS_ok (by first | omega | (simp; omega))]
  simp only [Option.bind_some]
  rw [catS_ok (by first | omega | (simp; omega))]
  simp only [Option.bind_some]
  rw [catS_ok (by first | omega | (simp; omega))]
  simp only [Option.bind_some]
  rw [catS_ok (by first | omega | (simp; omega))]
  simp only [Option.bind_some]
  rw [catS_ok (by first | omega | (simp; omega))]
  simp only [Option.bind_some]
  rw [catS_ok (by first | omega | (simp; omega))]
  simp only [Option.bind_some]
  simp
end Dv

/- Intervals as texts: letters; fixed calls; the law. -/
namespace Dv
open Go

def partB (n : Int) (c : UInt8) : List UInt8 := if n = 0 then [] else decI n ++ [c]
def secB (u : Int) : List UInt8 := if u = 0 then [] else (if u < 0 then [45] else []) ++ (digN ((absI u).toNat / 1000000) ++ (fracN ((absI u).toNat % 1000000) ++ [83]))
def hourI (u : Int) : Int := u.tdiv 3600000000
def minI' (u : Int) : Int := (u.tmod 3600000000).tdiv 60000000
def isoH (m d : Int) : List UInt8 := 80 :: (partB (m.tdiv 12) 89 ++ (partB (m.tmod 12) 77 ++ partB d 68))
def isoT (m d u : Int) : List UInt8 := if u = 0 then isoH m d else isoH m d ++ (84 :: (partB (hourI u) 72 ++ (partB (minI' u) 77 ++ secB (u.tmod 60000000))))
def isoB (m d u : Int) : List UInt8 := if isoT m d u = [80] then [80, 84, 48, 83] else isoT m d u

theorem partB_len (n : Int) (c : UInt8) : (partB n c).length ≤ 22 := by
  have := decI_len n
  unfold partB
  split
  · simp
  · simp; omega
theorem secB_len (u : Int) : (secB u).length ≤ 43 := by
  have h1 := digN_len ((absI u).toNat / 1000000)
  have h2 := fracN_len ((absI u).toNat % 1000000)
  unfold secB
  split
  · simp
  · split <;> simp <;> omega

theorem letter_s {n : Int} (hn : InS n) (c : UInt8) : show_letter n [c] = some (.str (partB n c)) := by
  have hl := decI_len n
  rw [show_letter_eq]
  unfold partB
  by_cases h : n = 0
  · rw [c_eqT h, if_pos h]
  · rw [c_eqF h, if_neg h, number_s hn]
    simp only [Option.bind_some, toS_str]
    have := join_s [decI n, [c]] (by simp) (by simp [totL]; omega)
    simp only [List.map_cons, List.map_nil] at this
    rw [this]
    simp [PV.toS]
theorem rpart_s {n : Int} (hn : InS n) (c : UInt8) : computusref19_part n [c] = some (.str (partB n c)) := by
  have hl := decI_len n
  rw [computusref19_part_eq]
  unfold partB
  by_cases h : n = 0
  · rw [c_eqT h, if_pos h]
  · rw [c_eqF h, if_neg h, rdigits_s (by omega) (by omega)]
    simp only [Option.bind_some, toS_str]
    rw [catS_ok (by simp; omega)]
    rfl

theorem tmod_rngN {u : Int} {k : Nat} (hk : 0 < k) : -(k : Int) < u.tmod k ∧ u.tmod k < k := by
  exact ⟨Int.lt_tmod_of_pos u (by omega), Int.tmod_lt_of_pos u (by omega)⟩

theorem seconds_s {u : Int} (hu : InS u) : show_seconds u = some (.str (secB u)) := by
  have ru := absI_rng hu
  have eu := absI_nat hu
  have h1 := digN_len ((absI u).toNat / 1000000)
  have h2 := fracN_len ((absI u).toNat % 1000000)
  rw [show_seconds_eq]
  unfold secB
  by_cases h : u = 0
  · rw [c_eqT h, if_pos h]
  · have ht : strings_TrimPrefix (sgnB u) [43] = some (.str (if u < 0 then [45] else [])) := by
      unfold sgnB
      by_cases hs : u < 0
      · rw [if_pos hs, if_pos hs, trimP_minus]
      · rw [if_neg hs, if_neg hs, trimP_plus]
    rw [c_eqF h, if_neg h, signed_s hu]
    simp only [Option.bind_some, tn0, tn1, toS_str, toI_int]
    rw [ht, eu]
    generalize (absI u).toNat = n at *
    have q1 : IntKind.i64.wrap (Int.tdiv (n : Int) 1000000) = ((n / 1000000 : Nat) : Int) := by
      have := tdivN n 1000000
      rw [show ((1000000 : Nat) : Int) = 1000000 from rfl] at this
      rw [this, w64 (by omega) (by omega)]
    have q2 : Int.tmod (n : Int) 1000000 = ((n % 1000000 : Nat) : Int) := tmodN _ 1000000
    rw [q1, q2, sdigits_s (by omega) (by omega), frac_s (by omega) (by omega)]
    simp only [Option.bind_some, toS_str, Int.toNat_natCast]
    have hp : (if u < 0 then [(45 : UInt8)] else []).length ≤ 1 := by split <;> simp
    generalize (if u < 0 then [(45 : UInt8)] else []) = p at hp ⊢
    have := join_s [p, digN (n / 1000000), fracN (n % 1000000), [83]] (by simp) (by simp [totL]; omega)
    simp only [List.map_cons, List.map_nil] at this
    rw [this]
    simp [PV.toS]

theorem iso_parts {u : Int} (hu : InS u) : IntKind.i64.wrap (u.tdiv 3600000000) = hourI u ∧ IntKind.i64.wrap (Int.tdiv (u.tmod 3600000000) 60000000) = minI' u ∧ InS (hourI u) ∧ InS (minI' u) ∧ InS (u.tmod 60000000) ∧
    IntKind.i64.wrap (Int.tdiv (IntKind.i64.wrap (Int.tdiv u 1000000)) 3600) = hourI u ∧ Int.tmod (IntKind.i64.wrap (Int.tdiv (IntKind.i64.wrap (Int.tdiv u 1000000)) 60)) 60 = minI' u := by
  have hs : InS (u.tmod 60000000) := by
    have := tmod_rngN (u := u) (k := 60000000) (by omega)
    rw [show ((60000000 : Nat) : Int) = 60000000 from rfl] at this
    exact ⟨by omega, by omega⟩
  unfold hourI minI'
  obtain ⟨n, ⟨hn, h0⟩ | ⟨hn, h0⟩⟩ := nat_or u
  · subst hn
    have a1 : Int.tdiv (n : Int) 3600000000 = ((n / 3600000000 : Nat) : Int) := tdivN n 3600000000
    have a2 : Int.tmod (n : Int) 3600000000 = ((n % 3600000000 : Nat) : Int) := tmodN n 3600000000
    have a3 : Int.tdiv ((n % 3600000000 : Nat) : Int) 60000000 = ((n % 3600000000 / 60000000 : Nat) : Int) := tdivN _ 60000000
    have a4 : Int.tdiv (n : Int) 1000000 = ((n / 1000000 : Nat) : Int) := tdivN n 1000000
    have a5 : Int.tdiv ((n / 1000000 : Nat) : Int) 3600 = ((n / 1000000 / 3600 : Nat) : Int) := tdivN _ 3600
    have a6 : Int.tdiv ((n / 1000000 : Nat) : Int) 60 = ((n / 1000000 / 60 : Nat) : Int) := tdivN _ 60
    have a7 : Int.tmod ((n / 1000000 / 60 : Nat) : Int) 60 = ((n / 1000000 / 60 % 60 : Nat) : Int) := tmodN _ 60
    rw [a1, a2, a3, a4, w64 (n := ((n / 1000000 : Nat) : Int)) (by omega) (by omega), a5, a6, w64 (n := ((n / 1000000 / 60 : Nat) : Int)) (by omega) (by omega), a7, w64 (by omega) (by omega), w64 (by omega) (by omega), w64 (by omega) (by omega)]
    exact ⟨rfl, rfl, ⟨by omega, by omega⟩, ⟨by omega, by omega⟩, hs, by omega, by omega⟩
  · subst hn
    have a1 : Int.tdiv (-(n : Int)) 3600000000 = -((n / 3600000000 : Nat) : Int) := tdiv_neg n 3600000000
    have a2 : Int.tmod (-(n : Int)) 3600000000 = -((n % 3600000000 : Nat) : Int) := tmod_neg n 3600000000
    have a3 : Int.tdiv (-((n % 3600000000 : Nat) : Int)) 60000000 = -((n % 3600000000 / 60000000 : Nat) : Int) := tdiv_neg _ 60000000
    have a4 : Int.tdiv (-(n : Int)) 1000000 = -((n / 1000000 : Nat) : Int) := tdiv_neg n 1000000
    have a5 : Int.tdiv (-((n / 1000000 : Nat) : Int)) 3600 = -((n / 1000000 / 3600 : Nat) : Int) := tdiv_neg _ 3600
    have a6 : Int.tdiv (-((n / 1000000 : Nat) : Int)) 60 = -((n / 1000000 / 60 : Nat) : Int) := tdiv_neg _ 60
    have a7 : Int.tmod (-((n / 1000000 / 60 : Nat) : Int)) 60 = -((n / 1000000 / 60 % 60 : Nat) : Int) := tmod_neg _ 60
    rw [a1, a2, a3, a4, w64 (n := -((n / 1000000 : Nat) : Int)) (by omega) (by omega), a5, a6, w64 (n := -((n / 1000000 / 60 : Nat) : Int)) (by omega) (by omega), a7, w64 (by omega) (by omega), w64 (by omega) (by omega), w64 (by omega) (by omega)]
    exact ⟨rfl, rfl, ⟨by omega, by omega⟩, ⟨by omega, by omega⟩, hs, by omega, by omega⟩

theorem iso_s (i : Int) {m d u : Int} (hm : -2147483647 ≤ m ∧ m ≤ 2147483647) (hd : InS d) (hu : InS u) : show_iso i m d u = some (.str (isoB m d u)) := by
  have hy := tdiv12 hm
  have hr := tmod12 m
  obtain ⟨p1, p2, p3, p4, p5, _, _⟩ := iso_parts hu
  have l1 := partB_len (m.tdiv 12) 89
  have l2 := partB_len (m.tmod 12) 77
  have l3 := partB_len d 68
  have l4 := partB_len (hourI u) 72
  have l5 := partB_len (minI' u) 77
  have l6 := secB_len (u.tmod 60000000)
  rw [show_iso_eq, w64 (n := m.tdiv 12) (by omega) (by omega), letter_s (n := m.tdiv 12) (by exact ⟨by omega, by omega⟩), letter_s hr, letter_s hd, p1, p2, letter_s p3, letter_s p4, seconds_s p5]
  simp only [Option.bind_some, toS_str]
  have j1 := join_s [[80], partB (m.tdiv 12) 89, partB (m.tmod 12) 77, partB d 68] (by simp) (by simp [totL]; omega)
  simp only [List.map_cons, List.map_nil] at j1
  have e1 : [[80], partB (m.tdiv 12) 89, partB (m.tmod 12) 77, partB d 68].flatten = isoH m d := by simp [isoH]
  have hlen : (isoH m d).length ≤ 70 := by unfold isoH; simp; omega
  rw [j1, e1]
  simp only [Option.bind_some, toS_str]
  unfold isoB isoT
  by_cases h : u = 0
  · rw [c_not, c_eqT h, if_pos h]
    by_cases hq : isoH m d = [80]
    · rw [c_eqsT hq, if_pos hq]
    · rw [c_eqsF hq, if_neg hq]
  · have j2 := join_s [isoH m d, [84], partB (hourI u) 72, partB (minI' u) 77, secB (u.tmod 60000000)] (by simp) (by simp [totL]; omega)
    simp only [List.map_cons, List.map_nil] at j2
    have e2 : [isoH m d, [84], partB (hourI u) 72, partB (minI' u) 77, secB (u.tmod 60000000)].flatten = isoH m d ++ (84 :: (partB (hourI u) 72 ++ (partB (minI' u) 77 ++ secB (u.tmod 60000000)))) := by simp
    rw [c_not, c_eqF h, if_neg h, j2, e2]
    simp only [Option.bind_some, toS_str]
    by_cases hq : isoH m d ++ (84 :: (partB (hourI u) 72 ++ (partB (minI' u) 77 ++ secB (u.tmod 60000000)))) = [80]
    · rw [c_eqsT hq, if_pos hq]
    · rw [c_eqsF hq, if_neg hq]

theorem riso_s (i : Int) {m d u : Int} (hm : -2147483647 ≤ m ∧ m ≤ 2147483647) (hd : InS d) (hu : InS u) : computusref19_iso i m d u = some (.str (isoB m d u)) := by
  have hy := tdiv12 hm
  have hr := tmod12 m
  obtain ⟨_, _, p3, p4, p5, p6, p7⟩ := iso_parts hu
  have l1 := partB_len (m.tdiv 12) 89
  have l2 := partB_len (m.tmod 12) 77
  have l3 := partB_len d 68
  have l4 := partB_len (hourI u) 72
  have l5 := partB_len (minI' u) 77
  have l6 := secB_len (u.tmod 60000000)
  have hlen : (isoH m d).length ≤ 70 := by unfold isoH; simp; omega
  have fin : ∀ x : List UInt8, (bif eqS x [80] then some (PV.str [80, 84, 48, 83]) else some (PV.str x)) = some (.str (if x = [80] then [80, 84, 48, 83] else x)) := by
    intro x
    by_cases hq : x = [80]
    · rw [c_eqsT hq, if_pos hq]
    · rw [c_eqsF hq, if_neg hq]
  rw [computusref19_iso_eq, w64 (n := m.tdiv 12) (by omega) (by omega), rpart_s (n := m.tdiv 12) (by exact ⟨by omega, by omega⟩), rpart_s hr, rpart_s hd, p6, p7, rpart_s p3, rpart_s p4, size_s p5]
  simp only [Option.bind_some, toS_str]
  rw [catS_ok (by first | omega | (simp; omega))]
  simp only [Option.bind_some]
  rw [catS_ok (by first | omega | (simp; omega))]
  simp only [Option.bind_some]
  rw [catS_ok (by first | omega | (simp; omega))]
  simp only [Option.bind_some]
  have e1 : [80] ++ partB (m.tdiv 12) 89 ++ partB (m.tmod 12) 77 ++ partB d 68 = isoH m d := by simp [isoH]
  rw [e1]
  unfold isoB isoT
  by_cases h : u = 0
  · rw [c_not, c_eqT h, if_pos h]
    exact fin _
  · rw [c_not, c_eqF h, if_neg h, catS_ok (by first | omega | (simp; omega))]
    simp only [Option.bind_some]
    rw [catS_ok (by first | omega | (simp; omega))]
    simp only [Option.bind_some]
    rw [catS_ok (by first | omega | (simp; omega))]
    simp only [Option.bind_some, tn0, tn1, toI_int, toS_str]
    have e2 : isoH m d ++ (84 :: (partB (hourI u) 72 ++ (partB (minI' u) 77 ++ secB (u.tmod 60000000)))) = isoH m d ++ [84] ++ partB (hourI u) 72 ++ partB (minI' u) 77 ++ secB (u.tmod 60000000) := by simp
    rw [e2]
    have hxl : (isoH m d ++ [84] ++ partB (hourI u) 72 ++ partB (minI' u) 77).length ≤ 200 := by simp; omega
    generalize isoH m d ++ [84] ++ partB (hourI u) 72 ++ partB (minI' u) 77 = x at hxl ⊢
    generalize u.tmod 60000000 = s at p5 l6 ⊢
    have rs := absI_rng p5
    have es := absI_nat p5
    have hz : absI s = 0 ↔ s = 0 := by unfold absI; split <;> omega
    have g1 := digN_len ((absI s).toNat / 1000000)
    have g2 := fracN_len ((absI s).toNat % 1000000)
    by_cases h0 : s = 0
    · have : secB s = [] := if_pos h0
      rw [c_not, c_eqT (hz.2 h0), this, List.append_nil]
      exact fin x
    · have c8 : ∀ p : List UInt8, p.length ≤ 300 → computusref19_iso_c8 p (absI s) = some (.str (if p ++ (digN ((absI s).toNat / 1000000) ++ (fracN ((absI s).toNat % 1000000) ++ [83])) = [80] then [80, 84, 48, 83] else p ++ (digN ((absI s).toNat / 1000000) ++ (fracN ((absI s).toNat % 1000000) ++ [83])))) := by
        intro p hp
        rw [computusref19_iso_c8_eq]
        conv => lhs; rw [es]
        generalize (absI s).toNat = n at *
        have q1 : IntKind.i64.wrap (Int.tdiv (n : Int) 1000000) = ((n / 1000000 : Nat) : Int) := by
          have := tdivN n 1000000
          rw [show ((1000000 : Nat) : Int) = 1000000 from rfl] at this
          rw [this, w64 (by omega) (by omega)]
        have q2 : Int.tmod (n : Int) 1000000 = ((n % 1000000 : Nat) : Int) := tmodN _ 1000000
        have dn : ∀ k : Nat, decI (k : Int) = digN k := fun k => by unfold decI; rw [if_neg (by omega), Int.toNat_natCast]
        rw [q1, q2, rdigits_s (by omega) (by omega), rfrac_s (by omega) (by omega)]
        simp only [Option.bind_some, toS_str, Int.toNat_natCast, dn]
        rw [catS_ok (by first | omega | (simp; omega))]
        simp only [Option.bind_some]
        rw [catS_ok (by first | omega | (simp; omega))]
        simp only [Option.bind_some]
        rw [catS_ok (by first | omega | (simp; omega))]
        simp only [Option.bind_some]
        have e3 : p ++ digN (n / 1000000) ++ fracN (n % 1000000) ++ [83] = p ++ (digN (n / 1000000) ++ (fracN (n % 1000000) ++ [83])) := by simp
        rw [e3]
        exact fin _
      rw [c_not, c_eqF (fun h => h0 (hz.1 h))]
      unfold secB sgnB
      rw [if_neg h0]
      by_cases hs : s < 0
      · rw [if_pos hs, if_pos hs, c_eqsT rfl, catS_ok (by first | omega | (simp; omega))]
        simp only [Option.bind_some]
        rw [c8 _ (by simp; omega)]
        simp
      · rw [if_neg hs, if_neg hs, c_eqsF (by simp), c8 _ (by omega)]
        simp
end Dv

/- Intervals as texts: fixed calls; the law. -/
namespace Dv
open Go

theorem k_parts : civil_parts 8826 = some (.tuple [.int .i64 2024, .int .i64 3, .int .i64 1]) := by rw [civil_parts_eq, civil_floor_eq]; kernel_rfl
theorem k_first : civil_First = some (.int .i64 (-2453698)) := by
  rw [civil_First_eq, civil_day_eq, c_leT (by decide), civil_day_c3_eq, civil_floor_eq]; kernel_rfl
theorem k_last : civil_Last = some (.int .i64 106754173) := by
  rw [civil_Last_eq, civil_day_eq, c_leF (by decide), civil_day_c3_eq, civil_floor_eq]; kernel_rfl
theorem k_can : civil_can 8826 = some (.bool true) := by
  rw [civil_can_eq, k_first, k_last]; kernel_rfl
theorem k_date : civil_Date 8826 = some (.tuple [.int .i64 2024, .int .i64 3, .int .i64 1, .int .i64 0]) := by
  rw [civil_Date_eq, k_can, k_parts]; kernel_rfl
theorem k_inside : day_inside 8826 = some (.bool true) := by
  rw [day_inside_eq, k_date]; kernel_rfl
theorem k_right : day_Right 0 8826 = some (.bool true) := by
  rw [day_Right_eq, k_inside]; kernel_rfl
theorem k_dparts : day_Parts 0 8826 = some (.tuple [.int .i64 2024, .int .i64 3, .int .i64 1, .int .i64 0]) := by
  rw [day_Parts_eq, k_right, k_date]; kernel_rfl

theorem k_show : show_Date 0 8826 1 1 0 = some (.tuple [.str [48, 49, 47, 48, 51, 47, 50, 48, 50, 52], .int .i64 0]) := by
  have d1 : digN 2024 = [50, 48, 50, 52] := by kernel_rfl
  have t1 : twoN 3 = [48, 51] := by kernel_rfl
  have t2 : twoN 1 = [48, 49] := by kernel_rfl
  have r0 : strings_Repeat [48] 0 = some (.str []) := by rw [strings_Repeat_eq, c_eqT rfl]
  have j1 := join_s [[], [50, 48, 50, 52]] (by simp) (by simp [totL])
  have j2 := join_s [[48, 49, 47, 48, 51, 47, 50, 48, 50, 52], []] (by simp) (by simp [totL])
  have b1 := between_s [47] (by simp) [[48, 49], [48, 51], [50, 48, 50, 52]] (by simp) (by simp [totL])
  simp only [List.map_cons, List.map_nil] at j1 j2 b1
  have hd : show_date 0 8826 1 1 0 = some (.tuple [.str [48, 49, 47, 48, 51, 47, 50, 48, 50, 52], .str []]) := by
    rw [show_date_eq, k_dparts]
    simp only [Option.bind_some, tn0, tn1, tn2, toI_int]
    rw [c_ltF (by decide), show_date_c5_eq, sdigits_s (by decide) (by decide)]
    simp only [Option.bind_some, toS_str]
    have e : (2024 : Int).toNat = 2024 := rfl
    rw [e, d1]
    have m0 : maxI 0 (IntKind.i64.wrap (4 - ((([50, 48, 50, 52] : List UInt8).length : Nat) : Int))) = 0 := by kernel_rfl
    rw [m0, r0]
    simp only [Option.bind_some, toS_str]
    rw [j1, two_s (by decide) (by decide), two_s (by decide) (by decide)]
    simp only [Option.bind_some, toS_str]
    have e3 : (3 : Int).toNat = 3 := rfl
    have e1 : (1 : Int).toNat = 1 := rfl
    rw [e3, e1, t1, t2, c_eqF (by decide), c_eqF (by decide), c_eqT rfl]
    have f1 : ([[], [50, 48, 50, 52]] : List (List UInt8)).flatten = [50, 48, 50, 52] := rfl
    rw [f1, b1]
    rfl
  rw [show_Date_eq, k_right]
  simp only [Option.bind_some, toB_bool]
  rw [c_not, c_true, style_s]
  have hs : styleR 1 1 0 = true := rfl
  rw [hs]
  simp only [Option.bind_some, toB_bool]
  rw [c_not, c_true, show_Date_c3_eq, c_not, c_eqT rfl, hd]
  simp only [Option.bind_some, tn0, tn1, toS_str]
  rw [j2]
  rfl

/-! ### the law -/
def spanV (i m d u a b c : Int) : PV :=
  if spanR i m d u = true ∧ styleR a b c = true then
    if i ≠ 0 then .tuple [.str (if i < 0 then [45, 105, 110, 102, 105, 110, 105, 116, 121] else [105, 110, 102, 105, 110, 105, 116, 121]), .int .i64 0]
    else .tuple [.str (if c = 1 then wordsB m d u else if c = 2 then isoB m d u else pgB m d u), .int .i64 0]
  else .tuple [.str [], .int .i64 1]

theorem infS {i : Int} (h : i ≠ 0) : show_infinite i = some (.str (if i < 0 then [45, 105, 110, 102, 105, 110, 105, 116, 121] else [105, 110, 102, 105, 110, 105, 116, 121])) := by
  rw [show_infinite_eq]
  by_cases hi : i < 0
  · rw [c_ltT hi, if_pos hi]
  · rw [c_ltF hi, if_neg hi]

theorem span_s {i m d u : Int} (h1 : -9223372036854775808 ≤ u) (h2 : u ≤ 9223372036854775807) (a b c : Int) : show_Span i m d u a b c = some (spanV i m d u a b c) := by
  rw [show_Span_eq, right_s h1 h2]
  unfold spanV
  simp only [Option.bind_some, toB_bool]
  cases hr : spanR i m d u with
  | false => rw [c_not, c_false, if_neg (by simp)]
  | true =>
  rw [c_not, c_true, style_s]
  simp only [Option.bind_some, toB_bool]
  cases hs : styleR a b c with
  | false => rw [c_not, c_false, if_neg (by simp)]
  | true =>
  rw [c_not, c_true, show_Span_c3_eq, if_pos (by simp)]
  by_cases hi : i = 0
  · subst hi
    obtain ⟨m1, m2, d1, d2, u1, u2⟩ := spanR_fin hr
    rw [c_not, c_eqT rfl, if_neg (by simp)]
    by_cases c1 : c = 1
    · rw [c_eqT c1, if_pos c1, sql_s 0 ⟨by omega, by omega⟩ ⟨by omega, by omega⟩ ⟨u1, u2⟩]; rfl
    · rw [c_eqF c1, if_neg c1]
      by_cases c2 : c = 2
      · rw [c_eqT c2, if_pos c2, iso_s 0 ⟨m1, m2⟩ ⟨by omega, by omega⟩ ⟨u1, u2⟩]; rfl
      · rw [c_eqF c2, if_neg c2, postgres_s 0 ⟨m1, m2⟩ ⟨by omega, by omega⟩ ⟨u1, u2⟩]; rfl
  · rw [c_not, c_eqF hi, if_pos hi, infS hi]; rfl

theorem rspan_s {i m d u : Int} (a b c : Int) : computusref19_Span i m d u a b c = some (spanV i m d u a b c) := by
  rw [computusref19_Span_eq, rright_s]
  unfold spanV
  simp only [Option.bind_some, toB_bool]
  cases hr : spanR i m d u with
  | false => rw [c_not, c_false, computusref19_Span_c2_eq, if_neg (by simp)]
  | true =>
  rw [c_not, c_true, rstyle_s]
  simp only [Option.bind_some, toB_bool]
  cases hs : styleR a b c with
  | false => rw [c_not, c_false, computusref19_Span_c2_eq, if_neg (by simp)]
  | true =>
  rw [c_not, c_true, computusref19_Span_c3_eq, if_pos (by simp)]
  by_cases hi : i = 0
  · subst hi
    obtain ⟨m1, m2, d1, d2, u1, u2⟩ := spanR_fin hr
    rw [c_not, c_eqT rfl, if_neg (by simp)]
    by_cases c1 : c = 1
    · rw [c_eqT c1, if_pos c1, rsql_s 0 ⟨by omega, by omega⟩ ⟨by omega, by omega⟩ ⟨u1, u2⟩]; rfl
    · rw [c_eqF c1, if_neg c1]
      by_cases c2 : c = 2
      · rw [c_eqT c2, if_pos c2, riso_s 0 ⟨m1, m2⟩ ⟨by omega, by omega⟩ ⟨u1, u2⟩]; rfl
      · rw [c_eqF c2, if_neg c2, rpostgres_s 0 ⟨m1, m2⟩ ⟨by omega, by omega⟩ ⟨u1, u2⟩]; rfl
  · rw [c_not, c_eqF hi, if_pos hi, ← inf_s hi, infS hi]; rfl

theorem known19_s : computuslaw19_known = some (.bool true) := by
  rw [computuslaw19_known_eq, span_s (by decide) (by decide), span_s (by decide) (by decide), span_s (by decide) (by decide), span_s (by decide) (by decide), k_show]
  kernel_rfl

end Dv

/- Dates and stamps as texts, in any style. -/
set_option maxRecDepth 20000
namespace Dv
open Go

theorem rep_s (k : Nat) (hk : k ≤ 3) : strings_Repeat [48] (k : Int) = some (.str (List.replicate k 48)) := by
  match k, hk with
  | 0, _ => rw [strings_Repeat_eq]; rfl
  | 1, _ => rw [strings_Repeat_eq]; rfl
  | 2, _ => exact rep_2 2 (by omega) (by omega) rfl rfl
  | 3, _ => exact rep_2 3 (by omega) (by omega) rfl rfl
where
  rep_2 (k : Nat) (h2 : 2 ≤ k) (h3 : k ≤ 3) (ht : takeS [(48 : UInt8), 48, 48, 48, 48, 48, 48, 48, 48, 48, 48, 48, 48, 48, 48, 48, 48, 48, 48, 48, 48, 48, 48, 48, 48, 48, 48, 48, 48, 48, 48, 48, 48, 48, 48, 48, 48, 48, 48, 48, 48, 48, 48, 48, 48, 48, 48, 48, 48, 48, 48, 48, 48, 48, 48, 48, 48, 48, 48, 48, 48, 48, 48, 48] (k : Int) = some (List.replicate k 48)) (_ : (0 : Int) = 0) :
      strings_Repeat [48] (k : Int) = some (.str (List.replicate k 48)) := by
    have w1 : IntKind.u64.wrap ((([48] : List UInt8).length : Nat) : Int) = 1 := rfl
    rw [strings_Repeat_eq, c_eqF (by omega), c_eqF (by omega), c_ltF (by omega), strings_Repeat_c8_eq, bits_Mul_eq, w1, wu64 (by omega) (by omega), mul64_s (by omega) (by omega)]
    simp only [Option.bind_some, tn0, tn1, toI_int]
    rw [c_ltF (by omega), c_ltF (by omega), strings_Repeat_c11_eq, c_eqF (by decide)]
    have a0 : atS ([48] : List UInt8) 0 = some 48 := rfl
    rw [a0]
    simp only [Option.bind_some]
    rw [c_eqF (by omega), c_eqF (by omega), c_eqT rfl, show (1 : Int) * (k : Int) % 18446744073709551616 = (k : Int) by omega, w64 (by omega) (by omega)]
    rw [strings_Repeat_c20_eq, c_leT (by omega), strings_HasPrefix_eq, stringslite_HasPrefix_eq]
    refine Eq.trans (b := strings_Repeat_c22 [48] (k : Int)) rfl ?_
    rw [strings_Repeat_c22_eq, c_leT (by omega), strings_HasPrefix_eq, stringslite_HasPrefix_eq]
    refine Eq.trans (b := strings_Repeat_c24 [48] (k : Int)) rfl ?_
    rw [strings_Repeat_c24_eq, c_leT (by omega), strings_HasPrefix_eq, stringslite_HasPrefix_eq]
    refine Eq.trans (b := strings_Repeat_c25 (k : Int)) rfl ?_
    rw [strings_Repeat_c25_eq, ht]
    rfl

/-- A year's digits, four at least. -/
def padN (s : List UInt8) : List UInt8 := List.replicate (4 - s.length) 48 ++ s

theorem padN_len (s : List UInt8) : 4 ≤ (padN s).length ∧ (padN s).length ≤ s.length + 4 := by
  unfold padN; rw [List.length_append, List.length_replicate]; omega

theorem digN_pos (n : Nat) : 1 ≤ (digN n).length := by
  unfold digN
  rw [digC, if_neg (by omega), List.length_append]
  simp
theorem twoN_pos (n : Nat) : 1 ≤ (twoN n).length := by
  unfold twoN
  rw [digC, if_neg (by omega), List.length_append]
  simp

theorem rpad_loop (m d : Int) (bc : List UInt8) (a b c : Int) : ∀ (k : Nat) (s : List UInt8), 4 - s.length = k → s.length ≤ 1000 → computusref19_date_c7 m d bc s a b c = computusref19_date_c7 m d bc (padN s) a b c
  | 0, s, h, _ => by unfold padN; rw [h]; rfl
  | k + 1, s, h, hs => by
    rw [computusref19_date_c7_eq, c_ltT (by omega), catS_ok (by simp; omega)]
    simp only [Option.bind_some]
    rw [rpad_loop m d bc a b c k ([48] ++ s) (by simp; omega) (by simp; omega)]
    congr 1
    unfold padN
    have e1 : 4 - ([48] ++ s : List UInt8).length = k := by simp; omega
    rw [e1, h, List.replicate_succ', List.append_assoc]

/-- A date's text. -/
def dateN (y m d : Int) (a b : Int) : List UInt8 :=
  if a = 0 then padN (digN y.toNat) ++ ([45] ++ (twoN m.toNat ++ ([45] ++ twoN d.toNat)))
  else if b = 2 then twoN m.toNat ++ ([47] ++ (twoN d.toNat ++ ([47] ++ padN (digN y.toNat))))
  else if b = 1 then twoN d.toNat ++ ([47] ++ (twoN m.toNat ++ ([47] ++ padN (digN y.toNat))))
  else padN (digN y.toNat) ++ ([47] ++ (twoN m.toNat ++ ([47] ++ twoN d.toNat)))

theorem three_full {x y z : List UInt8} (hx : 1 ≤ x.length) (hy : 1 ≤ y.length) (hz : 1 ≤ z.length) (sep : List UInt8) : joinB sep (fullL [x, y, z]) = x ++ (sep ++ (y ++ (sep ++ z))) := by
  have e : ∀ s : List UInt8, 1 ≤ s.length → (!eqS s []) = true := by
    intro s hs
    unfold eqS
    rw [decide_eq_false (by intro h; subst h; simp at hs)]; rfl
  unfold fullL
  simp only [List.filter, e x hx, e y hy, e z hz]
  rfl

theorem between3 {x y z : List UInt8} (hx : 1 ≤ x.length) (hy : 1 ≤ y.length) (hz : 1 ≤ z.length) (hb : x.length + y.length + z.length ≤ 1000) (c : UInt8) : show_between [c] [.str x, .str y, .str z] = some (.str (x ++ ([c] ++ (y ++ ([c] ++ z))))) := by
  have := between_s [c] (by simp) [x, y, z] (by simp) (by simp only [totL]; omega)
  rw [three_full hx hy hz] at this
  exact this

theorem sdate_c5 {y m d : Int} (hy : 1 ≤ y ∧ y ≤ 999999) (hm : 0 ≤ m ∧ m ≤ 99) (hd : 0 ≤ d ∧ d ≤ 99) (bc : List UInt8) (a b c : Int) :
    show_date_c5 y m d bc a b c = some (.tuple [.str (dateN y m d a b), .str bc]) := by
  rw [show_date_c5_eq, sdigits_s (by omega) (by omega)]
  simp only [Option.bind_some, toS_str]
  have l1 := digN_pos y.toNat
  have l2 := digN_len y.toNat
  have hrep : maxI 0 (IntKind.i64.wrap (4 - (((digN y.toNat).length : Nat) : Int))) = ((4 - (digN y.toNat).length : Nat) : Int) := by
    rw [w64 (by omega) (by omega)]
    unfold maxI
    by_cases h : 4 - (((digN y.toNat).length : Nat) : Int) > 0
    · rw [decide_eq_true h]; simp only [cond_true]; omega
    · rw [decide_eq_false h]; simp only [cond_false]; omega
  rw [hrep, rep_s _ (by omega)]
  simp only [Option.bind_some, toS_str]
  have hj : show_join [.str (List.replicate (4 - (digN y.toNat).length) 48), .str (digN y.toNat)] = some (.str (padN (digN y.toNat))) := by
    have := join_s [List.replicate (4 - (digN y.toNat).length) 48, digN y.toNat] (by simp) (by simp only [totL, List.length_replicate]; omega)
    rw [show ([List.replicate (4 - (digN y.toNat).length) 48, digN y.toNat] : List (List UInt8)).flatten = padN (digN y.toNat) by unfold padN; simp] at this
    exact this
  rw [hj, two_s hm.1 (by omega), two_s hd.1 (by omega)]
  simp only [Option.bind_some, toS_str]
  have p1 := padN_len (digN y.toNat)
  have t1 := twoN_pos m.toNat
  have t2 := twoN_len m.toNat
  have t3 := twoN_pos d.toNat
  have t4 := twoN_len d.toNat
  unfold dateN
  by_cases ha : a = 0
  · rw [c_eqT ha, if_pos ha, between3 (by omega) t1 t3 (by omega)]; rfl
  · rw [c_eqF ha, if_neg ha]
    by_cases h2 : b = 2
    · rw [c_eqT h2, if_pos h2, between3 t1 t3 (by omega) (by omega)]; rfl
    · rw [c_eqF h2, if_neg h2]
      by_cases h1 : b = 1
      · rw [c_eqT h1, if_pos h1, between3 t3 t1 (by omega) (by omega)]; rfl
      · rw [c_eqF h1, if_neg h1, between3 (by omega) t1 t3 (by omega)]; rfl

theorem decI_pos {y : Int} (h : 0 ≤ y) : decI y = digN y.toNat := by unfold decI; rw [if_neg (by omega)]

theorem rdate_c6 {y m d : Int} (hy : 1 ≤ y ∧ y ≤ 999999) (hm : 0 ≤ m ∧ m ≤ 99) (hd : 0 ≤ d ∧ d ≤ 99) (bc : List UInt8) (a b c : Int) :
    computusref19_date_c6 y m d bc a b c = some (.tuple [.str (dateN y m d a b), .str bc]) := by
  rw [computusref19_date_c6_eq, rdigits_s (by omega) (by omega), decI_pos (by omega)]
  simp only [Option.bind_some, toS_str]
  have l2 := digN_len y.toNat
  rw [rpad_loop m d bc a b c _ _ rfl (by omega)]
  have p1 := padN_len (digN y.toNat)
  have t2 := twoN_len m.toNat
  have t4 := twoN_len d.toNat
  generalize hP : padN (digN y.toNat) = P at p1
  rw [computusref19_date_c7_eq, c_ltF (by omega), rtwo_s hm.1 (by omega), rtwo_s hd.1 (by omega)]
  simp only [Option.bind_some, toS_str]
  unfold dateN
  rw [hP]
  generalize twoN m.toNat = M at t2
  generalize twoN d.toNat = D at t4
  by_cases ha : a = 0
  · rw [c_eqT ha, if_pos ha, catS_ok (by simp; omega)]
    simp only [Option.bind_some]; rw [catS_ok (by simp; omega)]
    simp only [Option.bind_some]; rw [catS_ok (by simp; omega)]
    simp only [Option.bind_some]; rw [catS_ok (by simp; omega)]
    simp
  · rw [c_eqF ha, if_neg ha]
    by_cases h2 : b = 2
    · rw [c_eqT h2, if_pos h2, catS_ok (by simp; omega)]
      simp only [Option.bind_some]; rw [catS_ok (by simp; omega)]
      simp only [Option.bind_some]; rw [catS_ok (by simp; omega)]
      simp only [Option.bind_some]; rw [catS_ok (by simp; omega)]
      simp
    · rw [c_eqF h2, if_neg h2]
      by_cases h1 : b = 1
      · rw [c_eqT h1, if_pos h1, catS_ok (by simp; omega)]
        simp only [Option.bind_some]; rw [catS_ok (by simp; omega)]
        simp only [Option.bind_some]; rw [catS_ok (by simp; omega)]
        simp only [Option.bind_some]; rw [catS_ok (by simp; omega)]
        simp
      · rw [c_eqF h1, if_neg h1, catS_ok (by simp; omega)]
        simp only [Option.bind_some]; rw [catS_ok (by simp; omega)]
        simp only [Option.bind_some]; rw [catS_ok (by simp; omega)]
        simp only [Option.bind_some]; rw [catS_ok (by simp; omega)]
        simp

theorem dateN_len (y m d a b : Int) : 1 ≤ (dateN y m d a b).length ∧ (dateN y m d a b).length ≤ 80 := by
  have p1 := padN_len (digN y.toNat)
  have l2 := digN_len y.toNat
  have t2 := twoN_len m.toNat
  have t4 := twoN_len d.toNat
  unfold dateN
  split
  · simp; omega
  · split
    · simp; omega
    · split <;> (simp; omega)

/-- A finite date, both ways: a text, and what stands behind it. -/
theorem both_date {n : Int} (h : day_inside n = some (.bool true)) (a b c : Int) : ∃ s bc, show_date 0 n a b c = some (.tuple [.str s, .str bc]) ∧ computusref19_date 0 n a b c = some (.tuple [.str s, .str bc]) ∧ 1 ≤ s.length ∧ s.length ≤ 80 ∧ bc.length ≤ 3 := by
  obtain ⟨y, m, d, e1, e2, e3, e4, e5, e6⟩ := parts0_s h
  obtain ⟨m1, m2, d1, d2⟩ := e3
  have hl := lenI_range y m m1 m2
  rw [show_date_eq, computusref19_date_eq, e1, e2]
  simp only [Option.bind_some, tn0, tn1, tn2, toI_int]
  by_cases hy : y < 1
  · rw [c_ltT hy, c_ltT hy, w64 (by omega) (by omega)]
    refine ⟨_, _, sdate_c5 (by omega) (by omega) (by omega) _ a b c, rdate_c6 (by omega) (by omega) (by omega) _ a b c, (dateN_len _ _ _ _ _).1, (dateN_len _ _ _ _ _).2, by decide⟩
  · rw [c_ltF hy, c_ltF hy]
    refine ⟨_, _, sdate_c5 (by omega) (by omega) (by omega) _ a b c, rdate_c6 (by omega) (by omega) (by omega) _ a b c, (dateN_len _ _ _ _ _).1, (dateN_len _ _ _ _ _).2, by decide⟩

theorem join2 {x y : List UInt8} (h : x.length + y.length ≤ 1000) : show_join [.str x, .str y] = some (.str (x ++ y)) := by
  have := join_s [x, y] (by simp) (by simp only [totL]; omega)
  rw [show ([x, y] : List (List UInt8)).flatten = x ++ y by simp] at this
  exact this

theorem Date_s (i n a b c : Int) : ∃ s e, show_Date i n a b c = some (.tuple [.str s, .int .i64 e]) ∧ computusref19_Date i n a b c = some (.tuple [.str s, .int .i64 e]) := by
  obtain ⟨r, h1, h2, h3, h4⟩ := dRight_s i n
  rw [show_Date_eq, computusref19_Date_eq, h1, h2, style_s, rstyle_s]
  simp only [Option.bind_some, toB_bool]
  cases hr : r with
  | false => simp only [Bool.not_false, cond_true]; rw [show_Date_c2_eq, computusref19_Date_c2_eq]; exact ⟨_, _, rfl, rfl⟩
  | true =>
  simp only [Bool.not_true, cond_false]
  cases hs : styleR a b c with
  | false => simp only [Bool.not_false, cond_true]; rw [show_Date_c2_eq, computusref19_Date_c2_eq]; exact ⟨_, _, rfl, rfl⟩
  | true =>
  simp only [Bool.not_true, cond_false]
  rw [show_Date_c3_eq, computusref19_Date_c3_eq]
  by_cases hi : i = 0
  · subst hi
    obtain ⟨s, bc, e1, e2, e3, e4, e5⟩ := both_date (h3 hr rfl) a b c
    rw [c_not, c_eqT rfl, c_not, c_eqT rfl, e1, e2]
    simp only [Option.bind_some, tn0, tn1, toS_str]
    rw [join2 (by omega), catS_ok (by omega)]
    exact ⟨_, _, rfl, rfl⟩
  · rw [c_not, c_eqF hi, c_not, c_eqF hi, ← inf_s hi]
    obtain ⟨s, e⟩ := inf_str hi
    rw [e]
    exact ⟨_, _, rfl, rfl⟩

/-! ### stamps -/
theorem ctext_s {t : Int} (h0 : 0 ≤ t) (h1 : t < 86400000000) : clock_Text t = some (.tuple [.str (textN t.toNat), .int .i64 0]) := by
  rw [clock_Text_eq, clock_within_eq, c_leT h0]
  simp only [Option.bind_some, toB_bool]
  rw [show leB t 86400000000 = true from decide_eq_true (by omega), wu64 (by omega) (by omega)]
  obtain ⟨k, rfl⟩ := Int.eq_ofNat_of_zero_le h0
  rw [text_s k (by omega)]
  rfl

theorem rtext_s {t : Int} (h0 : 0 ≤ t) (h1 : t < 86400000000) : computusref03_Text t = some (.tuple [.str (textN t.toNat), .int .i64 0]) := by
  obtain ⟨k, rfl⟩ := Int.eq_ofNat_of_zero_le h0
  have q1 : Int.tdiv ((k : Nat) : Int) 1000000 = ((k / 1000000 : Nat) : Int) := tdivN k 1000000
  have q2 : Int.tdiv ((k / 1000000 : Nat) : Int) 3600 = ((k / 1000000 / 3600 : Nat) : Int) := tdivN _ 3600
  have q3 : Int.tdiv ((k / 1000000 : Nat) : Int) 60 = ((k / 1000000 / 60 : Nat) : Int) := tdivN _ 60
  have q4 : Int.tmod ((k / 1000000 / 60 : Nat) : Int) 60 = ((k / 1000000 / 60 % 60 : Nat) : Int) := tmodN _ 60
  have q5 : Int.tmod ((k / 1000000 : Nat) : Int) 60 = ((k / 1000000 % 60 : Nat) : Int) := tmodN _ 60
  have q6 : Int.tmod ((k : Nat) : Int) 1000000 = ((k % 1000000 : Nat) : Int) := tmodN k 1000000
  rw [computusref03_Text_eq, computusref03_Parts_eq, c_ltF (by omega), c_ltF (by omega), computusref03_Parts_c3_eq, q1, w64 (n := ((k / 1000000 : Nat) : Int)) (by omega) (by omega), q2, w64 (n := ((k / 1000000 / 3600 : Nat) : Int)) (by omega) (by omega), q3, w64 (n := ((k / 1000000 / 60 : Nat) : Int)) (by omega) (by omega), q4, q5, q6]
  have e : ∀ {k : IntKind} {n : Int} {v0 v1 v2 v3 : PV}, (PV.tuple [v0, v1, v2, v3, .int k n]).tnth 4 = .int k n := rfl
  simp only [Option.bind_some, tn0, tn1, tn2, tn3, e, toI_int]
  rw [c_not, c_eqT rfl, rtwo_s (by omega) (by omega), rtwo_s (by omega) (by omega), rtwo_s (by omega) (by omega), rfrac_s (by omega) (by omega)]
  simp only [Option.bind_some, toS_str, Int.toNat_natCast]
  have l1 := twoN_len (k / 1000000 / 3600)
  have l2 := twoN_len (k / 1000000 / 60 % 60)
  have l3 := twoN_len (k / 1000000 % 60)
  have l4 := fracN_len (k % 1000000)
  unfold textN
  rw [show k / 3600000000 = k / 1000000 / 3600 by omega, show k / 60000000 % 60 = k / 1000000 / 60 % 60 by omega]
  generalize twoN (k / 1000000 / 3600) = A at l1
  generalize twoN (k / 1000000 / 60 % 60) = B at l2
  generalize twoN (k / 1000000 % 60) = C at l3
  generalize fracN (k % 1000000) = D at l4
  rw [catS_ok (by simp; omega)]
  simp only [Option.bind_some]; rw [catS_ok (by simp; omega)]
  simp only [Option.bind_some]; rw [catS_ok (by simp; omega)]
  simp only [Option.bind_some]; rw [catS_ok (by simp; omega)]
  simp only [Option.bind_some]; rw [catS_ok (by simp; omega)]
  simp

theorem two_full {x y : List UInt8} (hx : 1 ≤ x.length) (hy : 1 ≤ y.length) (sep : List UInt8) : joinB sep (fullL [x, y]) = x ++ (sep ++ y) := by
  have e : ∀ s : List UInt8, 1 ≤ s.length → (!eqS s []) = true := by
    intro s hs
    unfold eqS
    rw [decide_eq_false (by intro h; subst h; simp at hs)]; rfl
  unfold fullL
  simp only [List.filter, e x hx, e y hy]
  rfl

theorem between2 {x y : List UInt8} (hx : 1 ≤ x.length) (hy : 1 ≤ y.length) (hb : x.length + y.length ≤ 1000) (c : UInt8) : show_between [c] [.str x, .str y] = some (.str (x ++ ([c] ++ y))) := by
  have := between_s [c] (by simp) [x, y] (by simp) (by simp only [totL]; omega)
  rw [two_full hx hy] at this
  exact this

theorem textN_pos (t : Nat) : 1 ≤ (textN t).length := by
  unfold textN; rw [List.length_append]; have := twoN_pos (t / 3600000000); omega

theorem both_moment {n : Int} (hn : In64 n) (h : day_inside (n / 86400000000) = some (.bool true)) (a b c : Int) : ∃ s bc, show_moment 0 n a b c = some (.tuple [.str s, .str bc]) ∧ computusref19_moment 0 n a b c = some (.tuple [.str s, .str bc]) ∧ 1 ≤ s.length ∧ s.length ≤ 200 ∧ bc.length ≤ 3 := by
  obtain ⟨o1, o2⟩ := of0_s hn h
  obtain ⟨s, bc, e1, e2, e3, e4, e5⟩ := both_date h a b c
  have ht := emod_rng n (show (0 : Int) < 86400000000 by omega)
  have l1 := textN_len (n % 86400000000).toNat
  have l2 := textN_pos (n % 86400000000).toNat
  rw [show_moment_eq, computusref19_moment_eq, o1, o2]
  simp only [Option.bind_some, tn0, tn1, ag0, ag1, toI_int]
  rw [e1, e2, ctext_s ht.1 ht.2, rtext_s ht.1 ht.2]
  simp only [Option.bind_some, tn0, tn1, toS_str]
  rw [between2 e3 l2 (by omega), catS_ok (by simp; omega)]
  simp only [Option.bind_some]
  rw [catS_ok (by simp; omega)]
  refine ⟨s ++ ([32] ++ textN (n % 86400000000).toNat), bc, rfl, by rw [List.append_assoc]; rfl, by simp; omega, by simp; omega, e5⟩

theorem Stamp_s (i : Int) {n : Int} (hn : In64 n) (a b c : Int) : ∃ s e, show_Stamp i n a b c = some (.tuple [.str s, .int .i64 e]) ∧ computusref19_Stamp i n a b c = some (.tuple [.str s, .int .i64 e]) := by
  obtain ⟨r, h1, h2, h3, h4⟩ := sRight_s i hn
  rw [show_Stamp_eq, computusref19_Stamp_eq, h1, h2, style_s, rstyle_s]
  simp only [Option.bind_some, toB_bool]
  cases hr : r with
  | false => simp only [Bool.not_false, cond_true]; rw [show_Stamp_c2_eq, computusref19_Stamp_c2_eq]; exact ⟨_, _, rfl, rfl⟩
  | true =>
  simp only [Bool.not_true, cond_false]
  cases hs : styleR a b c with
  | false => simp only [Bool.not_false, cond_true]; rw [show_Stamp_c2_eq, computusref19_Stamp_c2_eq]; exact ⟨_, _, rfl, rfl⟩
  | true =>
  simp only [Bool.not_true, cond_false]
  rw [show_Stamp_c3_eq, computusref19_Stamp_c3_eq]
  by_cases hi : i = 0
  · subst hi
    obtain ⟨s, bc, e1, e2, e3, e4, e5⟩ := both_moment hn (h3 hr rfl) a b c
    rw [c_not, c_eqT rfl, c_not, c_eqT rfl, e1, e2]
    simp only [Option.bind_some, tn0, tn1, toS_str]
    rw [join2 (by omega), catS_ok (by omega)]
    exact ⟨_, _, rfl, rfl⟩
  · rw [c_not, c_eqF hi, c_not, c_eqF hi, ← inf_s hi]
    obtain ⟨s, e⟩ := inf_str hi
    rw [e]
    exact ⟨_, _, rfl, rfl⟩

theorem showDates_s (i n j : Int) {u : Int} (hu : In64 u) (a b c : Int) : computuslaw19_ShowDates i n j u a b c = some (.bool true) := by
  obtain ⟨s, e, h1, h2⟩ := Date_s i n a b c
  obtain ⟨t, f, h3, h4⟩ := Stamp_s j hu a b c
  rw [computuslaw19_ShowDates_eq, h1, h2, h3, h4, style_s, rstyle_s, known19_s]
  simp only [Option.bind_some, tn0, tn1, toI_int, toS_str, toB_bool]
  rw [c_eqsT rfl, c_eqT rfl, c_eqsT rfl, c_eqT rfl, beq_self_eq_true]
  rfl
end Dv
