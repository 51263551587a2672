/- The seat's proofs. -/
import Derived.Test.YtkmaclnhmkncfaaDoorQ1
import Derived.Test.YtkmaclnhmkncfaaDoorL3
import Derived.Laws.Bits64
import Derived.Laws.RangeAny
import Derived.Lib.IndexLaws
import Derived.Lib.TrimUEq
import Derived.Test.YtkmaclnhmkncfaaDoorL1
set_option linter.unusedVariables false
set_option linter.unusedSimpArgs false
/- The seat's environment, checked; what its functions without bodies answer. -/
namespace Dv
open Go

theorem chkNames : namesChk EE.P.funcs.toList = true := by kernel_rfl
theorem chkTypes : tisChk EE.P 0 EE.tt = true := by kernel_rfl
theorem chkEqs : eqsChk EE = true := by kernel_rfl
theorem chkMt : allB (mtChk EE.P) EE.mt = true := by kernel_rfl
theorem chkOrders : EE.P.follows .mixedOrders = true := by kernel_rfl
theorem envOk : EnvOk EE := envChk_ok (by unfold envChk; rw [chkNames, chkTypes, chkEqs, chkMt, chkOrders]; rfl)
theorem inlOk : EE.inl = [] := rfl
theorem extOk : ExtOk EE := by
  intro g m h args r hr
  right
  have he : EE.ext = [(fn_bytealg_IndexByteString, extIndexByte), (fn_bytealg_CountString, extCount)] := rfl
  rw [he] at h
  simp only [findExt] at h
  cases h1 : (g == fn_bytealg_IndexByteString) with
  | true =>
    rw [h1] at h
    simp only [cond_true, Option.some.injEq] at h
    have := eq_of_beq h1
    subst this; subst h
    exact ext_indexByte ⟨⟨(EE.P.funcs[fn_bytealg_IndexByteString]?).getD default, by kernel_rfl, by kernel_rfl, by kernel_rfl, by kernel_rfl, by kernel_rfl⟩⟩ args r hr
  | false =>
    rw [h1] at h
    simp only [cond_false] at h
    cases h2 : (g == fn_bytealg_CountString) with
    | true =>
      rw [h2] at h
      simp only [cond_true, Option.some.injEq] at h
      have := eq_of_beq h2
      subst this; subst h
      exact ext_count ⟨⟨(EE.P.funcs[fn_bytealg_CountString]?).getD default, by kernel_rfl, by kernel_rfl, by kernel_rfl, by kernel_rfl, by kernel_rfl⟩⟩ args r hr
    | false => rw [h2] at h; cases h
end Dv

/- Days of the calendar, as the program and the reference compute them. -/
namespace Dv
open Go

theorem i64min : IntKind.i64.min = -9223372036854775808 := rfl
theorem i64max : IntKind.i64.max = 9223372036854775807 := rfl
abbrev In64 (n : Int) : Prop := -9223372036854775808 ≤ n ∧ n ≤ 9223372036854775807

theorem emod_rng (a : Int) {b : Int} (hb : 0 < b) : 0 ≤ a % b ∧ a % b < b := ⟨Int.emod_nonneg a (by omega), Int.emod_lt_of_pos a hb⟩
theorem tmod_rng (a : Int) {b : Int} (hb : 0 < b) : -b < a.tmod b ∧ a.tmod b < b := by
  have h2 := emod_rng a hb
  rcases Int.lt_or_le a 0 with h | h
  · have h4 : a.tmod b = -((-a).tmod b) := by rw [Int.neg_tmod]; omega
    have h6 : (-a).tmod b = (-a) % b := tmod_pos (by omega)
    have := emod_rng (-a) hb
    omega
  · rw [tmod_pos h]; omega

theorem ref_mod {a b : Int} (hb : 0 < b) (hb2 : b ≤ 9223372036854775807) : computusref02_mod a b = some (.int .i64 (a % b)) := by
  rw [computusref02_mod_eq, ← tmod_floor hb]
  have := tmod_rng a hb
  rw [c_eqF (by omega)]
  by_cases h : a.tmod b < 0
  · rw [c_ltT h, if_pos h, w64 (by omega) (by omega)]
  · rw [c_ltF h, if_neg h]

theorem tdiv_rng {a b : Int} (ha : In64 a) (hb : 0 < b) : -9223372036854775808 ≤ a.tdiv b ∧ a.tdiv b ≤ 9223372036854775807 := by
  have h1 := Int.tmod_add_mul_tdiv a b
  have h2 := tmod_rng a hb
  rcases Int.lt_or_le a 0 with h | h
  · have h3 : a.tdiv b = -((-a) / b) := by rw [← tdiv_pos (by omega), Int.neg_tdiv]; omega
    have h4 : (-a) / b ≤ -a := Int.ediv_le_self b (by omega)
    have h5 : 0 ≤ (-a) / b := Int.ediv_nonneg (by omega) (by omega)
    omega
  · rw [tdiv_pos h]
    have h4 : a / b ≤ a := Int.ediv_le_self b h
    have h5 : 0 ≤ a / b := Int.ediv_nonneg h (by omega)
    omega

theorem ref_div {a b : Int} (ha : In64 a) (ha2 : -9223372036854775808 < a) (hb : 1 < b) : computusref02_div a b = some (.int .i64 (a / b)) := by
  rw [computusref02_div_eq, ← tdiv_floor (by omega : 0 < b)]
  have h1 := tdiv_rng ha (by omega : 0 < b)
  rw [c_eqF (by omega), c_eqF (by omega)]
  by_cases h : a.tmod b < 0
  · rw [c_ltT h, if_pos h, w64 h1.1 h1.2]
    have h3 : (if a.tmod b < 0 then a.tdiv b - 1 else a.tdiv b) = a / b := tdiv_floor (by omega)
    rw [if_pos h] at h3
    have h4 : a ≤ a / b * b + (b - 1) := by
      have := Int.emod_add_mul_ediv a b
      have := emod_rng a (by omega : 0 < b)
      rw [Int.mul_comm]; omega
    have h5 : -9223372036854775808 ≤ a.tdiv b - 1 := by
      have ha0 : a < 0 := by
        rcases Int.lt_or_le a 0 with h' | h'
        · exact h'
        · rw [tmod_pos h'] at h; have := emod_rng a (by omega : 0 < b); omega
      have : a.tdiv b = -((-a) / b) := by rw [← tdiv_pos (by omega), Int.neg_tdiv]; omega
      have h6 : (-a) / b ≤ -a := Int.ediv_le_self b (by omega)
      omega
    rw [w64 h5 (by omega)]
  · rw [c_ltF h, if_neg h, w64 h1.1 h1.2]

theorem civ_floor {a b : Int} (ha : In64 a) (ha2 : -9223372036854775808 < a) (hb : 1 < b) (hb2 : b ≤ 9223372036854775807) : civil_floor a b = some (.tuple [.int .i64 (a / b), .int .i64 (a % b)]) := by
  have hd := ref_div ha ha2 hb
  have hm := ref_mod (a := a) (by omega : 0 < b) hb2
  rw [computusref02_div_eq] at hd
  rw [computusref02_mod_eq] at hm
  rw [civil_floor_eq]
  rw [c_eqF (by omega)] at hm hd ⊢
  rw [c_eqF (by omega)] at hd ⊢
  cases h : ltB (a.tmod b) 0 <;> rw [h] at hm hd <;> simp only [cond_true, cond_false, Option.some.injEq, PV.int.injEq, true_and] at hm hd ⊢ <;> rw [hm, hd]

theorem ref_leap (y : Int) : computusref02_Leap y = some (.bool (leapI y)) := by
  rw [computusref02_Leap_eq, ref_mod (by omega) (by omega), ref_mod (by omega) (by omega), ref_mod (by omega) (by omega)]
  simp only [Option.bind_some, PV.toI, leapI]
  by_cases a4 : y % 4 = 0 <;> by_cases a1 : y % 100 = 0 <;> by_cases a0 : y % 400 = 0 <;> simp [a4, a1, a0, PV.toI, eqB]

theorem tmod_zero (a : Int) {b : Int} (hb : 0 < b) : a.tmod b = 0 ↔ a % b = 0 := by
  have h1 := tmod_floor (a := a) hb
  have h2 := tmod_rng a hb
  split at h1 <;> omega

theorem civ_leap (y : Int) : civil_Leap y = some (.bool (leapI y)) := by
  have h4 := tmod_zero y (by omega : (0 : Int) < 4)
  have h1 := tmod_zero y (by omega : (0 : Int) < 100)
  have h0 := tmod_zero y (by omega : (0 : Int) < 400)
  rw [civil_Leap_eq]
  by_cases a4 : y % 4 = 0 <;> by_cases a1 : y % 100 = 0 <;> by_cases a0 : y % 400 = 0 <;> simp [leapI, h4, h1, h0, a4, a1, a0, eqB]

theorem mcases {m : Int} (h1 : 1 ≤ m) (h2 : m ≤ 12) : m = 1 ∨ m = 2 ∨ m = 3 ∨ m = 4 ∨ m = 5 ∨ m = 6 ∨ m = 7 ∨ m = 8 ∨ m = 9 ∨ m = 10 ∨ m = 11 ∨ m = 12 := by omega

theorem ref_len {y m : Int} (h1 : 1 ≤ m) (h2 : m ≤ 12) : computusref02_Len y m = some (.int .i64 (lenI y m)) := by
  rw [computusref02_Len_eq]
  rcases mcases h1 h2 with rfl | rfl | rfl | rfl | rfl | rfl | rfl | rfl | rfl | rfl | rfl | rfl
  case inr.inl =>
    simp only [computusref02_Len_c10_eq, computusref02_Len_c15_eq, ref_leap, Option.bind_some, PV.toB]
    unfold lenI
    cases leapI y <;> rfl
  all_goals first | rfl | (simp only [computusref02_Len_c10_eq]; rfl)

theorem civ_len {y m : Int} (h1 : 1 ≤ m) (h2 : m ≤ 12) : civil_Len y m = some (.int .i64 (lenI y m)) := by
  rw [civil_Len_eq, c_ltF (by omega), c_ltF (by omega), civil_Len_c4_eq]
  rcases mcases h1 h2 with rfl | rfl | rfl | rfl | rfl | rfl | rfl | rfl | rfl | rfl | rfl | rfl
  case inr.inl =>
    simp only [civ_leap, Option.bind_some, PV.toB]
    unfold lenI
    cases leapI y <;> rfl
  all_goals rfl
/-! ### the day of a date -/
theorem ref_start_loop {y x : Int} (hy : -4800 ≤ y ∧ y ≤ 294500) : ∀ (j : Nat) (k : Int), 0 ≤ k → k + j = (y - 2000) % 400 → -3000000 ≤ x → x ≤ 108000000 →
    computusref02_start_c3 y (x + yearsI k) k = some (.int .i64 (x + yearsI ((y - 2000) % 400)))
  | 0, k, h0, hk, hx1, hx2 => by
    rw [computusref02_start_c3_eq, w64 (by omega) (by omega), ref_mod (by omega) (by omega)]
    simp only [Option.bind_some, PV.toI]
    rw [c_ltF (by omega)]
    congr 3
    rw [show k = (y - 2000) % 400 by omega]
  | j + 1, k, h0, hk, hx1, hx2 => by
    have hr := emod_rng (y - 2000) (by omega : (0 : Int) < 400)
    have hs := yearsI_succ h0 (by omega)
    have hy0 : 0 ≤ yearsI k ∧ yearsI k ≤ 146097 := by unfold yearsI; omega
    have ih := ref_start_loop (x := x) hy j (k + 1) (by omega) (by omega) hx1 hx2
    rw [computusref02_start_c3_eq, w64 (by omega) (by omega), ref_mod (by omega) (by omega)]
    simp only [Option.bind_some, PV.toI]
    rw [c_ltT (by omega), w64 (n := 2000 + k) (by omega) (by omega), ref_leap]
    simp only [Option.bind_some, PV.toB]
    rw [w64 (n := x + yearsI k + 365) (by omega) (by omega), w64 (n := k + 1) (by omega) (by omega)]
    cases hl : leapI (2000 + k) with
    | true =>
      rw [hl] at hs
      simp only [if_true] at hs
      rw [cond_true, w64 (by omega) (by omega), ← ih, hs]
      congr 1; omega
    | false =>
      rw [hl] at hs
      simp only [Bool.false_eq_true, if_false] at hs
      rw [cond_false, ← ih, hs]
      congr 1; omega

theorem ref_start {y : Int} (hy : -4800 ≤ y ∧ y ≤ 294500) : computusref02_start y = some (.int .i64 (jan1 y)) := by
  have hr := emod_rng (y - 2000) (by omega : (0 : Int) < 400)
  have hq : -17 ≤ (y - 2000) / 400 ∧ (y - 2000) / 400 ≤ 732 := by omega
  rw [computusref02_start_eq, w64 (by omega) (by omega), ref_div (by unfold In64; omega) (by omega) (by omega)]
  simp only [Option.bind_some, PV.toI]
  rw [w64 (by omega) (by omega)]
  have := ref_start_loop (y := y) (x := (y - 2000) / 400 * 146097) hy ((y - 2000) % 400).toNat 0 (by omega) (by omega) (by omega) (by omega)
  rw [yearsI_0, Int.add_zero] at this
  exact this

theorem ref_day_loop {y m x : Int} (h2 : m ≤ 12) : ∀ (j : Nat) (k : Int), 1 ≤ k → k + j = m → -4000000 ≤ x → x ≤ 109000000 →
    computusref02_day_c3 y m (x + monthsI y k) k = some (.int .i64 (x + monthsI y m))
  | 0, k, h0, hk, hx1, hx2 => by
    rw [computusref02_day_c3_eq, c_ltF (by omega), show k = m by omega]
  | j + 1, k, h0, hk, hx1, hx2 => by
    have hs := monthsI_succ (y := y) h0 (by omega : k ≤ 12)
    have hb := monthsI_bounds (y := y) h0 (by omega : k ≤ 12)
    have hl := lenI_range y k h0 (by omega)
    have ih := ref_day_loop (y := y) (x := x) h2 j (k + 1) (by omega) (by omega) hx1 hx2
    rw [computusref02_day_c3_eq, c_ltT (by omega), ref_len h0 (by omega)]
    simp only [Option.bind_some, PV.toI]
    rw [w64 (by omega) (by omega), w64 (by omega) (by omega), ← ih, hs]
    congr 1; omega

theorem ref_day {y m d : Int} (hy : -4800 ≤ y ∧ y ≤ 294500) (h1 : 1 ≤ m) (h2 : m ≤ 12) (hd : -1000 ≤ d ∧ d ≤ 1000) : computusref02_day y m d = some (.int .i64 (dayI y m d)) := by
  have hj := jan1_bounds hy.1 hy.2
  rw [computusref02_day_eq, ref_start hy]
  simp only [Option.bind_some, PV.toI]
  rw [w64 (n := jan1 y + d) (by omega) (by omega), w64 (by omega) (by omega)]
  have := ref_day_loop (y := y) (m := m) (x := jan1 y + d - 1) h2 (m - 1).toNat 1 (by omega) (by omega) (by omega) (by omega)
  rw [months_1, Int.add_zero] at this
  rw [this]
  unfold dayI
  congr 2; omega

theorem marchY_rng {y : Int} (hy : -4801 ≤ y ∧ y ≤ 294500) : -3000000 ≤ y / 400 * 146097 ∧ y / 400 * 146097 ≤ 108000000 ∧ 0 ≤ y % 400 ∧ y % 400 ≤ 399 ∧ 0 ≤ y % 400 / 4 ∧ y % 400 / 4 ≤ 99 ∧ 0 ≤ y % 400 / 100 ∧ y % 400 / 100 ≤ 3 := by
  refine ⟨?_, ?_, ?_, ?_, ?_, ?_, ?_, ?_⟩ <;> omega

theorem civ_day_c3 {y m d : Int} (hy : -4801 ≤ y ∧ y ≤ 294500) (hm : 3 ≤ m ∧ m ≤ 14) (hd : -1000 ≤ d ∧ d ≤ 1000) : civil_day_c3 y m d = some (.int .i64 (marchY y + (153 * (m - 3) + 2) / 5 + d - 1 - 730425)) := by
  have hr := marchY_rng hy
  have h5 : 0 ≤ (153 * (m - 3) + 2) / 5 ∧ (153 * (m - 3) + 2) / 5 ≤ 400 := by omega
  rw [civil_day_c3_eq, civ_floor (by unfold In64; omega) (by omega) (by omega) (by omega)]
  simp only [Option.bind_some, PV.tnth, nthD, PV.toI]
  rw [tdiv_pos (a := y % 400) (by omega), tdiv_pos (a := y % 400) (by omega), w64 (n := m - 3) (by omega) (by omega), w64 (n := 153 * (m - 3)) (by omega) (by omega), w64 (n := 153 * (m - 3) + 2) (by omega) (by omega), tdiv_pos (a := 153 * (m - 3) + 2) (by omega)]
  unfold marchY
  generalize y / 400 * 146097 = a at *
  generalize y % 400 = b at *
  generalize b / 4 = c at *
  generalize b / 100 = e at *
  generalize (153 * (m - 3) + 2) / 5 = f at *
  rw [w64 (n := a) (by omega) (by omega), w64 (n := b * 365) (by omega) (by omega), w64 (n := c) (by omega) (by omega), w64 (n := e) (by omega) (by omega), w64 (n := f) (by omega) (by omega),
    w64 (n := a + b * 365) (by omega) (by omega), w64 (n := a + b * 365 + c) (by omega) (by omega), w64 (n := a + b * 365 + c - e) (by omega) (by omega), w64 (n := a + b * 365 + c - e + f) (by omega) (by omega),
    w64 (n := a + b * 365 + c - e + f + d) (by omega) (by omega), w64 (n := a + b * 365 + c - e + f + d - 1) (by omega) (by omega), w64 (by omega) (by omega)]

theorem civ_day {y m d : Int} (hy : -4800 ≤ y ∧ y ≤ 294500) (h1 : 1 ≤ m) (h2 : m ≤ 12) (hd : -1000 ≤ d ∧ d ≤ 1000) : civil_day y m d = some (.int .i64 (dayI y m d)) := by
  have hm := march_day (y := y) (d := d) h1 h2
  rw [civil_day_eq]
  by_cases h : m ≤ 2
  · rw [c_leT h, w64 (by omega) (by omega), w64 (by omega) (by omega), civ_day_c3 (by omega) (by omega) hd]
    rw [if_pos h, if_pos h] at hm
    rw [hm]
  · rw [c_leF h, civ_day_c3 (by omega) (by omega) hd]
    rw [if_neg h, if_neg h] at hm
    rw [hm]

/-- Can a date be? -/
def rightI (y m d : Int) : Bool := decide (-4718 ≤ y ∧ y ≤ 294282 ∧ 1 ≤ m ∧ m ≤ 12 ∧ 1 ≤ d ∧ d ≤ lenI y m)

theorem ref_right (y m d : Int) : computusref02_Right y m d = some (.bool (rightI y m d)) := by
  rw [computusref02_Right_eq]
  unfold rightI
  by_cases a : -4718 ≤ y <;> by_cases b : y ≤ 294282 <;> by_cases c : 1 ≤ m <;> by_cases e : m ≤ 12 <;> by_cases f : 1 ≤ d <;> simp [a, b, c, e, f, leB]
  rw [ref_len c e]; rfl

theorem civ_right (y m d : Int) : civil_Right y m d = some (.bool (rightI y m d)) := by
  rw [civil_Right_eq]
  unfold rightI
  by_cases a : -4718 ≤ y <;> by_cases b : y ≤ 294282 <;> by_cases f : 1 ≤ d <;> simp [a, b, f, leB]
  by_cases c : 1 ≤ m <;> by_cases e : m ≤ 12
  · rw [civ_len c e]; simp [c, e]; rfl
  all_goals
    have hz : civil_Len y m = some (.int .i64 0) := by
      rw [civil_Len_eq]
      by_cases hm : m < 1
      · rw [c_ltT hm, civil_Len_c3_eq]
      · rw [c_ltF hm, c_ltT (by omega), civil_Len_c3_eq]
    rw [hz]
    simp [c, e, PV.toI]
    try exact decide_eq_false (by omega)

def daysV (y m d : Int) : PV := bif rightI y m d then .tuple [.int .i64 (dayI y m d), .int .i64 0] else .tuple [.int .i64 0, .int .i64 10]

theorem ref_days (y m d : Int) : computusref02_Days y m d = some (daysV y m d) := by
  rw [computusref02_Days_eq, ref_right]
  unfold daysV
  simp only [Option.bind_some, PV.toB]
  cases h : rightI y m d with
  | false => rfl
  | true =>
    have := of_decide_eq_true h
    have hl := lenI_range y m this.2.2.1 this.2.2.2.1
    rw [ref_day (by omega) (by omega) (by omega) (by omega)]; rfl

theorem civ_days (y m d : Int) : civil_Days y m d = some (daysV y m d) := by
  rw [civil_Days_eq, civ_right]
  unfold daysV
  simp only [Option.bind_some, PV.toB]
  cases h : rightI y m d with
  | false => rfl
  | true =>
    have := of_decide_eq_true h
    have hl := lenI_range y m this.2.2.1 this.2.2.2.1
    rw [civ_day (by omega) (by omega) (by omega) (by omega)]; rfl

theorem ref_weekday (n : Int) : computusref02_Weekday n = some (.int .i64 (wkI n)) := by
  have := emod_rng n (by omega : (0 : Int) < 7)
  rw [computusref02_Weekday_eq, ref_mod (by omega) (by omega)]
  simp only [Option.bind_some, PV.toI]
  rw [w64 (by omega) (by omega), ref_mod (by omega) (by omega)]
  rfl

theorem civ_weekday {n : Int} (h : In64 n) (h2 : -9223372036854775808 < n) : civil_Weekday n = some (.int .i64 (wkI n)) := by
  have := emod_rng n (by omega : (0 : Int) < 7)
  rw [civil_Weekday_eq, civ_floor h h2 (by omega) (by omega)]
  simp only [Option.bind_some, PV.tnth, nthD, PV.toI]
  rw [w64 (by omega) (by omega), tmod_pos (by omega)]
  rfl
end Dv

/- Days as rules say them: the program and the reference. -/
namespace Dv
open Go

theorem b_le {a b : Int} : leB a b = decide (a ≤ b) := rfl
theorem b_lt {a b : Int} : ltB a b = decide (a < b) := rfl
theorem b_eq {a b : Int} : eqB a b = decide (a = b) := rfl

def wdOk (wd : Int) : Bool := leB 0 wd && leB wd 6
def dayOk (n : Int) : Bool := leB 1 n && leB n 31
theorem wdOk_iff (wd : Int) : wdOk wd = true ↔ 0 ≤ wd ∧ wd ≤ 6 := by simp [wdOk, leB]
theorem dayOk_iff (n : Int) : dayOk n = true ↔ 1 ≤ n ∧ n ≤ 31 := by simp [dayOk, leB]

theorem when_weekday_s (n : Int) : when_weekday n = some (.bool (wdOk n)) := by
  rw [when_weekday_eq]; unfold wdOk
  cases leB 0 n <;> rfl
theorem when_day_s (n : Int) : when_day n = some (.bool (dayOk n)) := by
  rw [when_day_eq]; unfold dayOk
  cases leB 1 n <;> rfl

/-- What a day's form is. -/
def formV (k wd n : Int) : PV :=
  bif eqB k 0 && eqB wd 0 then (bif dayOk n then .iface ty_when_fixed (.int .i64 n) else .nili) else
  bif eqB k 1 && eqB n 0 then (bif wdOk wd then .iface ty_when_final (.int .i64 wd) else .nili) else
  bif eqB k 2 then (bif wdOk wd && dayOk n then .iface ty_when_near (.agg [.int .i64 wd, .int .i64 n, .int .i64 1]) else .nili) else
  bif eqB k 3 then (bif wdOk wd && dayOk n then .iface ty_when_near (.agg [.int .i64 wd, .int .i64 n, .int .i64 (-1)]) else .nili) else .nili

def rightV (k wd n : Int) : Bool :=
  bif eqB k 0 then dayOk n && eqB wd 0 else bif eqB k 1 then wdOk wd && eqB n 0 else bif eqB k 2 then wdOk wd && dayOk n else bif eqB k 3 then wdOk wd && dayOk n else false

theorem form_s (k wd n : Int) : when_On_form k wd n = some (formV k wd n) := by
  have near : ∀ st, when_near_right wd n st = some (.bool (wdOk wd && dayOk n)) := by
    intro st
    rw [when_near_right_eq, when_weekday_s, when_day_s]
    cases wdOk wd <;> rfl
  rw [when_On_form_eq, when_On_form_c4_eq, when_On_form_c5_eq, when_On_form_c6_eq, when_On_form_c7_eq, near, near, when_fixed_right_eq, when_final_right_eq, when_day_s, when_weekday_s]
  unfold formV
  cases eqB k 0 <;> cases eqB wd 0 <;> cases eqB k 1 <;> cases eqB n 0 <;> cases eqB k 2 <;> cases eqB k 3 <;> cases hw : wdOk wd <;> cases hd : dayOk n <;> rfl

theorem right_s (k wd n : Int) : computusref07_RightOn k wd n = some (.bool (rightV k wd n)) := by
  rw [computusref07_RightOn_eq, computusref07_RightOn_c2_eq, computusref07_RightOn_c2_eq]
  simp only [computusref07_RightOn_c3_eq]
  unfold rightV wdOk dayOk
  cases leB 0 wd <;> cases leB 1 n <;> cases leB wd 6 <;> cases leB n 31 <;> cases eqB k 0 <;> cases eqB wd 0 <;> cases eqB k 1 <;> cases eqB n 0 <;> cases eqB k 2 <;> cases eqB k 3 <;> rfl

/-! ### the next weekday -/
theorem wkI_succ (n : Int) : wkI (n + 1) = if wkI n = 6 then 0 else wkI n + 1 := by unfold wkI; split <;> omega
theorem wkI_pred (n : Int) : wkI (n - 1) = if wkI n = 0 then 6 else wkI n - 1 := by unfold wkI; split <;> omega

/-- So many days on, or back. -/
def onI (n wd : Int) : Int := n + (wd - wkI n) % 7
def backI (n wd : Int) : Int := n - (wkI n - wd) % 7

theorem to_on {wd : Int} (h0 : 0 ≤ wd) (h6 : wd ≤ 6) : ∀ (j : Nat) (n : Int), -1000000000 ≤ n → n + j ≤ 1000000000 → (wd - wkI n) % 7 = j → when_to_c1 n wd 1 = some (.int .i64 (onI n wd))
  | 0, n, hn, hn2, hj => by
    have hw := wkI_range n
    rw [when_to_c1_eq, civ_weekday (by unfold In64; omega) (by omega)]
    simp only [Option.bind_some, PV.toI]
    rw [c_not, c_eqT (by omega)]
    unfold onI; rw [hj]; simp
  | j + 1, n, hn, hn2, hj => by
    have hw := wkI_range n
    rw [when_to_c1_eq, civ_weekday (by unfold In64; omega) (by omega)]
    simp only [Option.bind_some, PV.toI]
    rw [c_not, c_eqF (by intro h; rw [h] at hj; simp at hj; omega), w64 (by omega) (by omega)]
    have hs := wkI_succ n
    have hj0 : ((j + 1 : Nat) : Int) ≤ 6 := by rw [← hj]; omega
    have hx : (wd - wkI (n + 1)) % 7 = j := by
      rw [hs]; split <;> omega
    rw [to_on h0 h6 j (n + 1) (by omega) (by omega) hx]
    unfold onI
    congr 2
    omega

theorem to_back {wd : Int} (h0 : 0 ≤ wd) (h6 : wd ≤ 6) : ∀ (j : Nat) (n : Int), -1000000000 ≤ n - j → n ≤ 1000000000 → (wkI n - wd) % 7 = j → when_to_c1 n wd (-1) = some (.int .i64 (backI n wd))
  | 0, n, hn, hn2, hj => by
    have hw := wkI_range n
    rw [when_to_c1_eq, civ_weekday (by unfold In64; omega) (by omega)]
    simp only [Option.bind_some, PV.toI]
    rw [c_not, c_eqT (by omega)]
    unfold backI; rw [hj]; simp
  | j + 1, n, hn, hn2, hj => by
    have hw := wkI_range n
    rw [when_to_c1_eq, civ_weekday (by unfold In64; omega) (by omega)]
    simp only [Option.bind_some, PV.toI]
    rw [c_not, c_eqF (by intro h; rw [h] at hj; simp at hj; omega), w64 (by omega) (by omega)]
    have hs := wkI_pred n
    have hj0 : ((j + 1 : Nat) : Int) ≤ 6 := by rw [← hj]; omega
    have hx : (wkI (n - 1) - wd) % 7 = j := by
      rw [hs]; split <;> omega
    rw [show n + -1 = n - 1 by omega, to_back h0 h6 j (n - 1) (by omega) (by omega) hx]
    unfold backI
    congr 2
    omega

theorem to_s1 {n wd : Int} (h0 : 0 ≤ wd) (h6 : wd ≤ 6) (hn : -100000000 ≤ n) (hn2 : n ≤ 200000000) : when_to n wd 1 = some (.int .i64 (onI n wd)) := by
  rw [when_to_eq]
  exact to_on h0 h6 ((wd - wkI n) % 7).toNat n (by omega) (by omega) (by omega)
theorem to_s2 {n wd : Int} (h0 : 0 ≤ wd) (h6 : wd ≤ 6) (hn : -100000000 ≤ n) (hn2 : n ≤ 200000000) : when_to n wd (-1) = some (.int .i64 (backI n wd)) := by
  rw [when_to_eq]
  exact to_back h0 h6 ((wkI n - wd) % 7).toNat n (by omega) (by omega) (by omega)

/-! ### the day -/
/-- Which day it is, where it can be. -/
def dayK (y m k wd n : Int) : Int :=
  if k = 0 then dayI y m 1 + n - 1 else if k = 1 then backI (dayI y m 1 + lenI y m - 1) wd else if k = 2 then onI (dayI y m 1 + n - 1) wd else backI (dayI y m 1 + n - 1) wd

def canB (y m k wd n : Int) : Bool := rightV k wd n && (leB 1 m && leB m 12)
def yearB (y : Int) : Bool := ltB (-4718) y && ltB y 294282

def dayV (y m k wd n : Int) : PV :=
  bif !canB y m k wd n then .tuple [.int .i64 0, .int .i64 1] else bif !yearB y then .tuple [.int .i64 0, .int .i64 10] else .tuple [.int .i64 (dayK y m k wd n), .int .i64 0]

theorem dayI_first {y m : Int} (hy : -4718 < y ∧ y < 294282) (h1 : 1 ≤ m) (h2 : m ≤ 12) : -4000000 ≤ dayI y m 1 ∧ dayI y m 1 ≤ 109000000 := by
  have := jan1_bounds (y := y) (by omega) (by omega)
  have := monthsI_bounds (y := y) h1 h2
  unfold dayI; omega

theorem right_first {y m : Int} (hy : -4718 < y ∧ y < 294282) (h1 : 1 ≤ m) (h2 : m ≤ 12) : rightI y m 1 = true := by
  have := lenI_range y m h1 h2
  unfold rightI
  exact decide_eq_true ⟨by omega, by omega, h1, h2, by omega, by omega⟩

theorem yearB_iff (y : Int) : yearB y = true ↔ -4718 < y ∧ y < 294282 := by simp [yearB, ltB]

/-- The form's kinds. -/
theorem right_cases {k wd n : Int} (h : rightV k wd n = true) :
    (k = 0 ∧ wd = 0 ∧ 1 ≤ n ∧ n ≤ 31) ∨ (k = 1 ∧ n = 0 ∧ 0 ≤ wd ∧ wd ≤ 6) ∨ ((k = 2 ∨ k = 3) ∧ 0 ≤ wd ∧ wd ≤ 6 ∧ 1 ≤ n ∧ n ≤ 31) := by
  unfold rightV at h
  by_cases k0 : k = 0
  · rw [c_eqT k0] at h
    simp [dayOk_iff, eqB] at h
    left; omega
  · rw [c_eqF k0] at h
    by_cases k1 : k = 1
    · rw [c_eqT k1] at h
      simp [wdOk_iff, eqB] at h
      right; left; omega
    · rw [c_eqF k1] at h
      by_cases k2 : k = 2
      · rw [c_eqT k2] at h
        simp [wdOk_iff, dayOk_iff] at h
        right; right; omega
      · rw [c_eqF k2] at h
        by_cases k3 : k = 3
        · rw [c_eqT k3] at h
          simp [wdOk_iff, dayOk_iff] at h
          right; right; omega
        · rw [c_eqF k3] at h; cases h

theorem form_nil (k wd n : Int) : ((formV k wd n).opq 0).nilOf (.iface true) = some (!rightV k wd n) := by
  unfold formV rightV
  by_cases k0 : k = 0
  · subst k0
    cases hw : eqB wd 0 <;> cases hd : dayOk n <;> simp [eqB, PV.nilOf, PV.nilR]
  · simp only [eqB, decide_eq_false k0, Bool.false_and, cond_false]
    by_cases k1 : k = 1
    · subst k1
      cases hw : decide (n = 0) <;> cases hd : wdOk wd <;> simp [PV.nilOf, PV.nilR]
    · simp only [decide_eq_false k1, Bool.false_and, cond_false]
      cases hd : wdOk wd <;> cases hd : dayOk n <;> by_cases k2 : k = 2 <;> by_cases k3 : k = 3 <;> simp [k2, k3, PV.nilOf, PV.nilR]

theorem c6_fixed (y m n : Int) : when_Day_c6 y m (.iface ty_when_fixed (.int .i64 n)) = (civil_Days y m 1).bind fun v => some (.tuple [.int .i64 (IntKind.i64.wrap (IntKind.i64.wrap ((v.tnth 0).toI + n) - 1)), .int .i64 0]) := by
  rw [when_Day_c6_eq]; rfl
theorem c6_final (y m wd : Int) : when_Day_c6 y m (.iface ty_when_final (.int .i64 wd)) = (civil_Days y m 1).bind fun v => (civil_Len y m).bind fun u =>
    (when_to (IntKind.i64.wrap (IntKind.i64.wrap ((v.tnth 0).toI + u.toI) - 1)) wd (-1)).bind fun z => some (.tuple [.int .i64 z.toI, .int .i64 0]) := by
  rw [when_Day_c6_eq]; rfl
theorem c6_near (y m wd n st : Int) : when_Day_c6 y m (.iface ty_when_near (.agg [.int .i64 wd, .int .i64 n, .int .i64 st])) = (civil_Days y m 1).bind fun v =>
    (when_to (IntKind.i64.wrap (IntKind.i64.wrap ((v.tnth 0).toI + n) - 1)) wd st).bind fun z => some (.tuple [.int .i64 z.toI, .int .i64 0]) := by
  rw [when_Day_c6_eq]; rfl

theorem form_fixed {n : Int} (h : dayOk n = true) : formV 0 0 n = .iface ty_when_fixed (.int .i64 n) := by unfold formV; rw [h]; rfl
theorem form_final {wd : Int} (h : wdOk wd = true) : formV 1 wd 0 = .iface ty_when_final (.int .i64 wd) := by unfold formV; rw [h]; rfl
theorem form_on {wd n : Int} (h : wdOk wd = true) (h2 : dayOk n = true) : formV 2 wd n = .iface ty_when_near (.agg [.int .i64 wd, .int .i64 n, .int .i64 1]) := by unfold formV; rw [h, h2]; rfl
theorem form_back {wd n : Int} (h : wdOk wd = true) (h2 : dayOk n = true) : formV 3 wd n = .iface ty_when_near (.agg [.int .i64 wd, .int .i64 n, .int .i64 (-1)]) := by unfold formV; rw [h, h2]; rfl

theorem day_s (y m k wd n : Int) : when_Day y m k wd n = some (dayV y m k wd n) := by
  rw [when_Day_eq, form_s]
  simp only [Option.bind_some, form_nil]
  rw [when_Day_c3_eq]
  unfold dayV canB
  cases hr : rightV k wd n with
  | false => rfl
  | true =>
  simp only [Bool.not_true, cond_false, Bool.true_and]
  by_cases hm1 : m < 1
  · rw [c_ltT hm1]
    have : leB 1 m = false := decide_eq_false (by omega)
    rw [this]; rfl
  by_cases hm2 : 12 < m
  · rw [c_ltF hm1, c_ltT hm2]
    have : leB m 12 = false := decide_eq_false (by omega)
    rw [this]; simp
  rw [c_ltF hm1, c_ltF hm2]
  have e1 : leB 1 m = true := decide_eq_true (by omega)
  have e2 : leB m 12 = true := decide_eq_true (by omega)
  rw [e1, e2, when_Day_c4_eq, when_Day_c5_eq]
  by_cases hy1 : y ≤ -4718
  · rw [c_leT hy1]
    have : yearB y = false := by rw [Bool.eq_false_iff, ne_eq, yearB_iff]; omega
    rw [this]; rfl
  by_cases hy2 : 294282 ≤ y
  · rw [c_leF hy1, c_leT hy2]
    have : yearB y = false := by rw [Bool.eq_false_iff, ne_eq, yearB_iff]; omega
    rw [this]; rfl
  rw [c_leF hy1, c_leF hy2]
  have hy : -4718 < y ∧ y < 294282 := by omega
  have hyb : yearB y = true := (yearB_iff y).2 hy
  have hf := dayI_first hy (by omega : 1 ≤ m) (by omega)
  have hl := lenI_range y m (by omega) (by omega)
  have hd0 : civil_Days y m 1 = some (.tuple [.int .i64 (dayI y m 1), .int .i64 0]) := by rw [civ_days, daysV, right_first hy (by omega : 1 ≤ m) (by omega)]; rfl
  rw [hyb]
  simp only [Bool.and_self, Bool.not_true, cond_false]
  rcases right_cases hr with ⟨rfl, rfl, h1, h2⟩ | ⟨rfl, rfl, h1, h2⟩ | ⟨hk, h1, h2, h3, h4⟩
  · rw [form_fixed ((dayOk_iff n).2 ⟨h1, h2⟩), c6_fixed, hd0]
    simp only [Option.bind_some, PV.tnth, nthD, PV.toI]
    rw [w64 (n := dayI y m 1 + n) (by omega) (by omega), w64 (n := dayI y m 1 + n - 1) (by omega) (by omega)]
    unfold dayK
    rw [if_pos rfl]
  · rw [form_final ((wdOk_iff wd).2 ⟨h1, h2⟩), c6_final, hd0, civ_len (by omega) (by omega)]
    simp only [Option.bind_some, PV.tnth, nthD, PV.toI]
    rw [w64 (n := dayI y m 1 + lenI y m) (by omega) (by omega), w64 (n := dayI y m 1 + lenI y m - 1) (by omega) (by omega), to_s2 h1 h2 (by omega) (by omega)]
    unfold dayK
    rw [if_neg (by omega), if_pos rfl]
    rfl
  · rcases hk with rfl | rfl
    · rw [form_on ((wdOk_iff wd).2 ⟨h1, h2⟩) ((dayOk_iff n).2 ⟨h3, h4⟩), c6_near, hd0]
      simp only [Option.bind_some, PV.tnth, nthD, PV.toI]
      rw [w64 (n := dayI y m 1 + n) (by omega) (by omega), w64 (n := dayI y m 1 + n - 1) (by omega) (by omega), to_s1 h1 h2 (by omega) (by omega)]
      unfold dayK
      rw [if_neg (by omega), if_neg (by omega), if_pos rfl]
      rfl
    · rw [form_back ((wdOk_iff wd).2 ⟨h1, h2⟩) ((dayOk_iff n).2 ⟨h3, h4⟩), c6_near, hd0]
      simp only [Option.bind_some, PV.tnth, nthD, PV.toI]
      rw [w64 (n := dayI y m 1 + n) (by omega) (by omega), w64 (n := dayI y m 1 + n - 1) (by omega) (by omega), to_s2 h1 h2 (by omega) (by omega)]
      unfold dayK
      rw [if_neg (by omega), if_neg (by omega), if_neg (by omega)]
      rfl

/-! ### the reference's -/
def dvR (n : Int) : PV := .tuple [.int .i64 n, .int .i64 0]

theorem rday_on {wd x4 : Int} (h0 : 0 ≤ wd) (h6 : wd ≤ 6) : ∀ (j : Nat) (n i : Int), -1000000000 ≤ n → n + j ≤ 1000000000 → 0 ≤ i → i + j ≤ 6 → (wd - wkI n) % 7 = j → computusref07_Day_c10 n i 2 wd x4 = some (dvR (onI n wd))
  | 0, n, i, hn, hn2, hi, hi2, hj => by
    have hw := wkI_range n
    rw [computusref07_Day_c10_eq, c_ltT (by omega), c_ltT (by omega), ref_weekday]
    simp only [Option.bind_some, PV.toI]
    rw [c_not, c_eqT (by omega)]
    unfold onI; rw [hj]; simp [dvR]
  | j + 1, n, i, hn, hn2, hi, hi2, hj => by
    have hw := wkI_range n
    rw [computusref07_Day_c10_eq, c_ltT (by omega), c_ltT (by omega), ref_weekday]
    simp only [Option.bind_some, PV.toI]
    rw [c_not, c_eqF (by intro h; rw [h] at hj; simp at hj; omega), computusref07_Day_c12_eq, c_eqT (by omega), w64 (by omega) (by omega), w64 (by omega) (by omega)]
    have hs := wkI_succ n
    have hx : (wd - wkI (n + 1)) % 7 = j := by
      rw [hs]; split <;> omega
    rw [rday_on h0 h6 j (n + 1) (i + 1) (by omega) (by omega) (by omega) (by omega) hx]
    unfold onI
    congr 2
    omega

theorem rday_back {wd k x4 : Int} (hk : k = 1 ∨ k = 3) (h0 : 0 ≤ wd) (h6 : wd ≤ 6) : ∀ (j : Nat) (n i : Int), -1000000000 ≤ n - j → n ≤ 1000000000 → 0 ≤ i → i + j ≤ 6 → (wkI n - wd) % 7 = j → computusref07_Day_c10 n i k wd x4 = some (dvR (backI n wd))
  | 0, n, i, hn, hn2, hi, hi2, hj => by
    have hw := wkI_range n
    rw [computusref07_Day_c10_eq, c_ltT (by omega), c_ltT (by omega), ref_weekday]
    simp only [Option.bind_some, PV.toI]
    rw [c_not, c_eqT (by omega)]
    unfold backI; rw [hj]; simp [dvR]
  | j + 1, n, i, hn, hn2, hi, hi2, hj => by
    have hw := wkI_range n
    rw [computusref07_Day_c10_eq, c_ltT (by omega), c_ltT (by omega), ref_weekday]
    simp only [Option.bind_some, PV.toI]
    rw [c_not, c_eqF (by intro h; rw [h] at hj; simp at hj; omega), computusref07_Day_c12_eq, c_eqF (by omega), w64 (by omega) (by omega), w64 (by omega) (by omega)]
    have hs := wkI_pred n
    have hx : (wkI (n - 1) - wd) % 7 = j := by
      rw [hs]; split <;> omega
    rw [rday_back hk h0 h6 j (n - 1) (i + 1) (by omega) (by omega) (by omega) (by omega) hx]
    unfold backI
    congr 2
    omega

theorem rday_s (y m k wd n : Int) : computusref07_Day y m k wd n = some (dayV y m k wd n) := by
  rw [computusref07_Day_eq, right_s]
  simp only [Option.bind_some, PV.toB]
  rw [computusref07_Day_c2_eq]
  unfold dayV canB
  cases hr : rightV k wd n with
  | false => rfl
  | true =>
  simp only [Bool.not_true, cond_false, Bool.true_and]
  by_cases hm1 : m < 1
  · rw [c_ltT hm1]
    have : leB 1 m = false := decide_eq_false (by omega)
    rw [this]; rfl
  by_cases hm2 : 12 < m
  · rw [c_ltF hm1, c_ltT hm2]
    have : leB m 12 = false := decide_eq_false (by omega)
    rw [this]; simp
  rw [c_ltF hm1, c_ltF hm2]
  have e1 : leB 1 m = true := decide_eq_true (by omega)
  have e2 : leB m 12 = true := decide_eq_true (by omega)
  rw [e1, e2, computusref07_Day_c3_eq, computusref07_Day_c4_eq]
  by_cases hy1 : y ≤ -4718
  · rw [c_leT hy1]
    have : yearB y = false := by rw [Bool.eq_false_iff, ne_eq, yearB_iff]; omega
    rw [this]; rfl
  by_cases hy2 : 294282 ≤ y
  · rw [c_leF hy1, c_leT hy2]
    have : yearB y = false := by rw [Bool.eq_false_iff, ne_eq, yearB_iff]; omega
    rw [this]; rfl
  rw [c_leF hy1, c_leF hy2]
  have hy : -4718 < y ∧ y < 294282 := by omega
  have hyb : yearB y = true := (yearB_iff y).2 hy
  have hf := dayI_first hy (by omega : 1 ≤ m) (by omega)
  have hl := lenI_range y m (by omega) (by omega)
  rw [hyb, computusref07_Day_c5_eq, ref_days, ref_len (by omega) (by omega)]
  simp only [daysV, right_first hy (by omega : 1 ≤ m) (by omega), cond_true, Option.bind_some, PV.tnth, nthD, PV.toI, Bool.not_true, cond_false, Bool.and_self, computusref07_Day_c9_eq]
  rcases right_cases hr with ⟨rfl, rfl, h1, h2⟩ | ⟨rfl, rfl, h1, h2⟩ | ⟨hk, h1, h2, h3, h4⟩
  · rw [c_eqF (by omega), w64 (n := dayI y m 1 + n) (by omega) (by omega), w64 (n := dayI y m 1 + n - 1) (by omega) (by omega), computusref07_Day_c10_eq, c_ltT (by omega), c_ltF (by omega)]
    unfold dayK
    rw [if_pos rfl]
  · rw [c_eqT rfl, w64 (n := dayI y m 1 + lenI y m) (by omega) (by omega), w64 (n := dayI y m 1 + lenI y m - 1) (by omega) (by omega),
      rday_back (.inl rfl) h1 h2 ((wkI (dayI y m 1 + lenI y m - 1) - wd) % 7).toNat _ 0 (by omega) (by omega) (by omega) (by omega) (by omega)]
    unfold dayK
    rw [if_neg (by omega), if_pos rfl]
    rfl
  · rw [c_eqF (by omega), w64 (n := dayI y m 1 + n) (by omega) (by omega), w64 (n := dayI y m 1 + n - 1) (by omega) (by omega)]
    rcases hk with rfl | rfl
    · rw [rday_on h1 h2 ((wd - wkI (dayI y m 1 + n - 1)) % 7).toNat _ 0 (by omega) (by omega) (by omega) (by omega) (by omega)]
      unfold dayK
      rw [if_neg (by omega), if_neg (by omega), if_pos rfl]
      rfl
    · rw [rday_back (.inr rfl) h1 h2 ((wkI (dayI y m 1 + n - 1) - wd) % 7).toNat _ 0 (by omega) (by omega) (by omega) (by omega) (by omega)]
      unfold dayK
      rw [if_neg (by omega), if_neg (by omega), if_neg (by omega)]
      rfl
end Dv

/- Words, as the program and the reference read them. -/
namespace Dv
open Go

/-! ### small letters -/
abbrev Small (s : List UInt8) : Prop := s.length ≤ 70368744177664

theorem lowB_case (c : UInt8) : (if 65 ≤ c.toNat ∧ c.toNat ≤ 90 then True else lowB c = c) := by
  unfold lowB; split <;> simp_all

theorem wlow_loop (s : List UInt8) (hs : Small s) : ∀ (j i : Nat), i + j = s.length → word_Lower_c3 (s.length : Int) (i : Int) ((lowS (s.take i) ++ s.drop i).map byteV) = some (.str (lowS s))
  | 0, i, h => by
    have : i = s.length := by omega
    subst this
    rw [word_Lower_c3_eq, c_ltF (by omega)]
    simp only [List.take_length, List.drop_length, List.append_nil, bytes_byteV, Option.bind_some]
  | j + 1, i, h => by
    have hi : i < s.length := by omega
    have hlen : (lowS (s.take i)).length = i := by simp; omega
    have hget : (lowS (s.take i) ++ s.drop i)[i]? = some s[i] := by
      rw [List.getElem?_append_right (by omega), hlen, Nat.sub_self, List.getElem?_drop, Nat.add_zero, List.getElem?_eq_getElem hi]
    have hl2 : ((lowS (s.take i) ++ s.drop i).map byteV).length = s.length := by simp; omega
    have ih := wlow_loop s hs j (i + 1) (by omega)
    have hset : (lowS (s.take i) ++ s.drop i).set i (lowB s[i]) = lowS (s.take (i + 1)) ++ s.drop (i + 1) := by
      rw [List.drop_eq_getElem_cons hi, List.take_succ_eq_append_getElem hi]
      rw [List.set_append, if_neg (by omega), hlen, Nat.sub_self, List.set_cons_zero]
      show _ = (s.take i ++ [s[i]]).map lowB ++ _
      rw [List.map_append, List.append_assoc]; rfl
    have hsame : ¬ (65 ≤ s[i].toNat ∧ s[i].toNat ≤ 90) → lowS (s.take i) ++ s.drop i = lowS (s.take (i + 1)) ++ s.drop (i + 1) := by
      intro hn
      have : lowB s[i] = s[i] := by unfold lowB; rw [if_neg hn]
      rw [← hset, this]
      apply List.ext_getElem?
      intro k
      by_cases hk : i = k
      · subst hk; rw [List.getElem?_set_self (by simp; omega), hget]
      · rw [List.getElem?_set_ne hk]
    have hcast : ((i + 1 : Nat) : Int) = (i : Int) + 1 := by omega
    rw [word_Lower_c3_eq, c_ltT (by omega), c_inT (by rw [hl2]; omega), Int.toNat_natCast, rdT_byte hget]
    simp only [Option.bind_some, getD_byte]
    rw [hl2]
    by_cases h1 : 65 ≤ s[i].toNat
    · rw [c_leT (by omega)]
      by_cases h2 : s[i].toNat ≤ 90
      · rw [c_leT (by omega), c_inT (by omega)]
        have ho := or32 ⟨s[i].toNat, UInt8.toNat_lt _⟩ h1 h2
        simp only at ho
        rw [ho]
        have hb : (PV.int .u8 ((s[i].toNat + 32 : Nat) : Int)) = byteV (lowB s[i]) := by
          unfold lowB byteV
          rw [if_pos ⟨h1, h2⟩, add32 _ ⟨h1, h2⟩]; rfl
        rw [hb, stC_map (by simp; omega)]
        simp only [Option.bind_some]
        rw [hset, w64 (by omega) (by omega), ← hcast]
        exact ih
      · rw [c_leF (by omega), w64 (by omega) (by omega), ← hcast, hsame (by omega)]
        exact ih
    · rw [c_leF (by omega), w64 (by omega) (by omega), ← hcast, hsame (by omega)]
      exact ih

theorem wlow_s (s : List UInt8) (hs : Small s) : word_Lower s = some (.str (lowS s)) := by
  rw [word_Lower_eq, List.length_map]
  have := wlow_loop s hs s.length 0 (by omega)
  simpa [lowS] using this

theorem rlow_loop (s : List UInt8) (hs : Small s) : ∀ (j i : Nat), i + j = s.length → computusref05_Lower_c3 s (i : Int) ((lowS (s.take i)).map byteV) = some (.str (lowS s))
  | 0, i, h => by
    have : i = s.length := by omega
    subst this
    rw [computusref05_Lower_c3_eq, c_ltF (by omega)]
    simp only [List.take_length, bytes_byteV, Option.bind_some]
  | j + 1, i, h => by
    have hi : i < s.length := by omega
    have hlen : ((lowS (s.take i)).map byteV).length = i := by simp; omega
    have ih := rlow_loop s hs j (i + 1) (by omega)
    have hnext : (lowS (s.take i)).map byteV ++ [byteV (lowB s[i])] = (lowS (s.take (i + 1))).map byteV := by
      rw [List.take_succ_eq_append_getElem hi]
      show _ = ((s.take i ++ [s[i]]).map lowB).map byteV
      rw [List.map_append, List.map_append]; rfl
    have hcast : ((i + 1 : Nat) : Int) = (i : Int) + 1 := by omega
    have happ : ∀ v, appL 1 ((lowS (s.take i)).map byteV) [v] = some ((lowS (s.take i)).map byteV ++ [v]) := fun v => appL_ok (by rw [hlen]; simp; omega)
    have hlt := UInt8.toNat_lt s[i]
    rw [computusref05_Lower_c3_eq, c_ltT (by omega), atS_ok (List.getElem?_eq_getElem hi)]
    simp only [Option.bind_some]
    have plain : ¬ (65 ≤ s[i].toNat ∧ s[i].toNat ≤ 90) → (PV.int .u8 (s[i].toNat : Int)) = byteV (lowB s[i]) := by
      intro hn; unfold lowB byteV; rw [if_neg hn]
    by_cases h1 : 65 ≤ s[i].toNat
    · rw [c_leT (by omega)]
      by_cases h2 : s[i].toNat ≤ 90
      · rw [c_leT (by omega), computusref05_Lower_c7_eq, wu8 (by omega) (by omega)]
        have hb : (PV.int .u8 ((s[i].toNat : Int) + 32)) = byteV (lowB s[i]) := by
          unfold lowB byteV
          rw [if_pos ⟨h1, h2⟩, add32 _ ⟨h1, h2⟩]
        rw [hb, happ]
        simp only [Option.bind_some]
        rw [hnext, w64 (by omega) (by omega), ← hcast]
        exact ih
      · rw [c_leF (by omega), plain (by omega), happ]
        simp only [Option.bind_some]
        rw [hnext, w64 (by omega) (by omega), ← hcast]
        exact ih
    · rw [c_leF (by omega), plain (by omega), happ]
      simp only [Option.bind_some]
      rw [hnext, w64 (by omega) (by omega), ← hcast]
      exact ih

theorem rlow_s (s : List UInt8) (hs : Small s) : computusref05_Lower s = some (.str (lowS s)) := by
  rw [computusref05_Lower_eq]
  have := rlow_loop s hs s.length 0 (by omega)
  simpa [lowS] using this

theorem wsame_s (a b : List UInt8) (ha : Small a) (hb : Small b) : word_Same a b = some (.bool (sameB a b)) := by
  rw [word_Same_eq, wlow_s a ha, wlow_s b hb]; rfl
theorem rsame_s (a b : List UInt8) (ha : Small a) (hb : Small b) : computusref05_Same a b = some (.bool (sameB a b)) := by
  rw [computusref05_Same_eq, rlow_s a ha, rlow_s b hb]; rfl
/-! ### what begins with a text -/
def begB (s t : List UInt8) : Bool := leN s.length t.length && sameB s (t.take s.length)
def findI (s : List UInt8) : Nat → List (List UInt8) → Int
  | _, [] => -1
  | i, t :: r => bif begB s t then (i : Int) else findI s (i + 1) r
def shortI (s : List UInt8) (l : List (List UInt8)) : Int := if s.length < 3 then -1 else findI s 0 l

theorem short1_s (s t : List UInt8) (hs : Small s) (ht : Small t) : word_Short_1 t (.ref [.str s] 0) = some (.bool (begB s t)) := by
  rw [word_Short_1_eq]
  have e1 : okOther (.ref [.str s] 0) = true := rfl
  have e2 : rdP tiStr (.ref [.str s] 0) 0 = some (.str s) := rfl
  rw [e1, e2]
  simp only [cond_true, Option.bind_some, PV.toS]
  unfold begB
  by_cases h : s.length ≤ t.length
  · rw [c_leT (by omega), takeS_n h]
    simp only [Option.bind_some]
    rw [wsame_s _ _ hs (by simp; omega)]
    have : leN s.length t.length = true := decide_eq_true h
    rw [this]; rfl
  · rw [c_leF (by omega)]
    have : leN s.length t.length = false := decide_eq_false h
    rw [this]; rfl

theorem short1_call (s t : List UInt8) (hs : Small s) (ht : Small t) : callW EE [tiBool] (.func (.func fn_word_Short_1) [] [.ref [.str s] 0]) [.str t] = some (.bool (begB s t)) := by
  rw [callW_cap]
  have e : funTI EE fn_word_Short_1 = [tiBool] := by kernel_rfl
  have h := short1_s s t hs ht
  unfold word_Short_1 callF at h
  rw [e] at h
  exact h

theorem indexFunc_loop (s : List UInt8) (hs : Small s) (l : List (List UInt8)) (hl : l.length ≤ 1000000) (ht : ∀ t ∈ l, Small t) : ∀ (r : List (List UInt8)) (i : Nat), l.drop i = r →
    slices_IndexFunc_string_string_c2 (l.map PV.str) (.func (.func fn_word_Short_1) [] [.ref [.str s] 0]) (l.length : Int) (i : Int) = some (.int .i64 (findI s i r))
  | [], i, h => by
    have hi : l.length ≤ i := by
      rcases Nat.lt_or_ge i l.length with h' | h'
      · rw [List.drop_eq_getElem_cons h'] at h; cases h
      · exact h'
    rw [slices_IndexFunc_string_string_c2_eq, c_ltF (by omega)]; rfl
  | t :: r, i, h => by
    have hi : i < l.length := by
      rcases Nat.lt_or_ge i l.length with h' | h'
      · exact h'
      · rw [List.drop_of_length_le h'] at h; cases h
    have hg : l[i]? = some t := by rw [← List.head?_drop, h]; rfl
    have hr : l.drop (i + 1) = r := by rw [← List.drop_drop, h]; rfl
    have ih := indexFunc_loop s hs l hl ht r (i + 1) hr
    rw [slices_IndexFunc_string_string_c2_eq, c_ltT (by omega), rdI_n, rdT_str hg]
    simp only [Option.bind_some, PV.toS]
    rw [short1_call s t hs (ht t (List.mem_of_getElem? hg))]
    simp only [Option.bind_some, PV.toB, findI]
    cases begB s t with
    | true => rfl
    | false =>
      rw [cond_false, cond_false, w64 (by omega) (by omega), ← ih]
      rfl

theorem wshort_s (s : List UInt8) (hs : Small s) (l : List (List UInt8)) (hl : l.length ≤ 1000000) (ht : ∀ t ∈ l, Small t) : word_Short s (l.map PV.str) = some (.int .i64 (shortI s l)) := by
  rw [word_Short_eq]
  unfold shortI
  by_cases h : s.length < 3
  · rw [c_ltT (by omega), if_pos h]
  · rw [c_ltF (by omega), if_neg h, slices_IndexFunc_string_string_eq]
    have := indexFunc_loop s hs l hl ht l 0 rfl
    have e : (okOther (.func (.func fn_word_Short_1) [] [.ref [.str s] 0]) && true) = true := rfl
    rw [e, cond_true, List.length_map]
    rw [show ((0 : Nat) : Int) = 0 from rfl] at this
    rw [this]; rfl

theorem rshort_loop (s : List UInt8) (hs : Small s) (h3 : 3 ≤ s.length) (l : List (List UInt8)) (hl : l.length ≤ 1000000) (ht : ∀ t ∈ l, Small t) : ∀ (r : List (List UInt8)) (i : Nat), l.drop i = r →
    computusref05_Short_c2 s (l.map PV.str) (i : Int) = some (.int .i64 (findI s i r))
  | [], i, h => by
    have hi : l.length ≤ i := by
      rcases Nat.lt_or_ge i l.length with h' | h'
      · rw [List.drop_eq_getElem_cons h'] at h; cases h
      · exact h'
    rw [computusref05_Short_c2_eq, List.length_map, c_ltF (by omega)]; rfl
  | t :: r, i, h => by
    have hi : i < l.length := by
      rcases Nat.lt_or_ge i l.length with h' | h'
      · exact h'
      · rw [List.drop_of_length_le h'] at h; cases h
    have hg : l[i]? = some t := by rw [← List.head?_drop, h]; rfl
    have hr : l.drop (i + 1) = r := by rw [← List.drop_drop, h]; rfl
    have ih := rshort_loop s hs h3 l hl ht r (i + 1) hr
    have hts := ht t (List.mem_of_getElem? hg)
    rw [computusref05_Short_c2_eq, List.length_map, c_ltT (by omega), c_leT (by omega), computusref05_Short_c4_eq, rdI_n, rdT_str hg]
    simp only [Option.bind_some, PV.toS, findI]
    unfold begB
    have hcast : ((i + 1 : Nat) : Int) = (i : Int) + 1 := by omega
    by_cases hle : s.length ≤ t.length
    · have e : leN s.length t.length = true := decide_eq_true hle
      rw [c_leT (by omega), takeS_n hle, e]
      simp only [Option.bind_some, Bool.true_and]
      rw [rsame_s _ _ hs (by simp; omega)]
      simp only [Option.bind_some, PV.toB]
      cases sameB s (t.take s.length) with
      | true => rfl
      | false => rw [cond_false, cond_false, w64 (by omega) (by omega), ← hcast, ih]
    · have e : leN s.length t.length = false := decide_eq_false hle
      rw [c_leF (by omega), e, w64 (by omega) (by omega), ← hcast, ih]; rfl

theorem rshort_s (s : List UInt8) (hs : Small s) (l : List (List UInt8)) (hl : l.length ≤ 1000000) (ht : ∀ t ∈ l, Small t) : computusref05_Short s (l.map PV.str) = some (.int .i64 (shortI s l)) := by
  rw [computusref05_Short_eq]
  unfold shortI
  by_cases h : s.length < 3
  · rw [computusref05_Short_c2_eq, if_pos h]
    by_cases hl0 : (0 : Int) < ((l.map PV.str).length : Nat)
    · rw [c_ltT hl0, c_leF (by omega)]
    · rw [c_ltF hl0]
  · rw [if_neg h]
    have := rshort_loop s hs (by omega) l hl ht l 0 rfl
    exact this

def dayNames : List (List UInt8) := [[83, 117, 110, 100, 97, 121], [77, 111, 110, 100, 97, 121], [84, 117, 101, 115, 100, 97, 121], [87, 101, 100, 110, 101, 115, 100, 97, 121], [84, 104, 117, 114, 115, 100, 97, 121], [70, 114, 105, 100, 97, 121], [83, 97, 116, 117, 114, 100, 97, 121]]
theorem dayNames_small : ∀ t ∈ dayNames, Small t := by
  intro t ht
  unfold Small
  simp only [dayNames, List.mem_cons, List.not_mem_nil, or_false] at ht
  rcases ht with rfl | rfl | rfl | rfl | rfl | rfl | rfl <;> simp

theorem wday_s (s : List UInt8) (hs : Small s) : word_Day s = some (.int .i64 (shortI s dayNames)) := by
  rw [word_Day_eq]
  have := wshort_s s hs dayNames (by simp [dayNames]) dayNames_small
  simp only [dayNames, List.map_cons, List.map_nil] at this ⊢
  rw [this]; rfl
theorem rday05_s (s : List UInt8) (hs : Small s) : computusref05_Day s = some (.int .i64 (shortI s dayNames)) := by
  rw [computusref05_Day_eq]
  have := rshort_s s hs dayNames (by simp [dayNames]) dayNames_small
  simp only [dayNames, List.map_cons, List.map_nil] at this ⊢
  rw [this]; rfl

theorem findI_range (s : List UInt8) : ∀ (l : List (List UInt8)) (i : Nat), -1 ≤ findI s i l ∧ findI s i l < i + l.length
  | [], i => by simp [findI]; omega
  | t :: r, i => by
    have := findI_range s r (i + 1)
    unfold findI
    cases begB s t <;> simp <;> omega
theorem shortI_day (s : List UInt8) : -1 ≤ shortI s dayNames ∧ shortI s dayNames ≤ 6 := by
  unfold shortI
  have := findI_range s dayNames 0
  split
  · omega
  · simp only [dayNames, List.length_cons, List.length_nil] at this ⊢; omega
end Dv

/- Whole numbers with their limits, as the program reckons with them. -/
namespace Dv
open Go

theorem shr32 {a : Int} : shrI .u64 a 32 = a / 4294967296 := by
  unfold shrI
  have : (min (32 : Int).toNat IntKind.u64.bits) = 32 := rfl
  rw [this]
  have h2 : ((2 : Int) ^ 32) = 4294967296 := by decide
  rw [h2, Int.fdiv_eq_ediv_of_nonneg _ (by omega)]

theorem and32 {a : Int} (h0 : 0 ≤ a) (h1 : a < 18446744073709551616) : andI .u64 a 4294967295 = a % 4294967296 := by
  unfold andI
  obtain ⟨n, rfl⟩ := Int.eq_ofNat_of_zero_le h0
  have hb : IntKind.u64.bits = 64 := rfl
  have e : (BitVec.ofInt IntKind.u64.bits (n : Int) &&& BitVec.ofInt IntKind.u64.bits 4294967295).toNat = n % 4294967296 := by
    rw [hb, BitVec.toNat_and]
    have e1 : (BitVec.ofInt 64 (n : Int)).toNat = n := by
      rw [BitVec.toNat_ofInt]; omega
    have e2 : (BitVec.ofInt 64 4294967295).toNat = 2 ^ 32 - 1 := by decide
    rw [e1, e2, Nat.and_two_pow_sub_one_eq_mod]
  rw [e, IntKind.wrap_u64]
  omega

theorem mul64_s {a b : Int} (ha : 0 ≤ a ∧ a < 18446744073709551616) (hb : 0 ≤ b ∧ b < 18446744073709551616) :
    bits_Mul64 a b = some (.tuple [.int .u64 (a * b / 18446744073709551616), .int .u64 (a * b % 18446744073709551616)]) := by
  rw [bits_Mul64_eq]
  simp only [shr32, and32 ha.1 ha.2, and32 hb.1 hb.2]
  have hab : a * b = 18446744073709551616 * ((a / 4294967296) * (b / 4294967296)) + 4294967296 * ((a / 4294967296) * (b % 4294967296) + (a % 4294967296) * (b / 4294967296)) + (a % 4294967296) * (b % 4294967296) := by
    have gen : ∀ x1 x0 y1 y0 : Int, (4294967296 * x1 + x0) * (4294967296 * y1 + y0) = 18446744073709551616 * (x1 * y1) + 4294967296 * (x1 * y0 + x0 * y1) + x0 * y0 := by
      intro x1 x0 y1 y0
      have e1 : (4294967296 * x1) * (4294967296 * y1) = 18446744073709551616 * (x1 * y1) := by
        rw [Int.mul_assoc, Int.mul_left_comm x1, ← Int.mul_assoc]; rfl
      have e2 : (4294967296 * x1) * y0 = 4294967296 * (x1 * y0) := Int.mul_assoc _ _ _
      have e3 : x0 * (4294967296 * y1) = 4294967296 * (x0 * y1) := Int.mul_left_comm _ _ _
      rw [Int.add_mul, Int.mul_add, Int.mul_add, e1, e2, e3]
      omega
    have h := gen (a / 4294967296) (a % 4294967296) (b / 4294967296) (b % 4294967296)
    have ea : 4294967296 * (a / 4294967296) + a % 4294967296 = a := by omega
    have eb : 4294967296 * (b / 4294967296) + b % 4294967296 = b := by omega
    rw [ea, eb] at h
    exact h
  have x1 : 0 ≤ a / 4294967296 ∧ a / 4294967296 ≤ 4294967295 := by omega
  have x0 : 0 ≤ a % 4294967296 ∧ a % 4294967296 ≤ 4294967295 := by omega
  have y1 : 0 ≤ b / 4294967296 ∧ b / 4294967296 ≤ 4294967295 := by omega
  have y0 : 0 ≤ b % 4294967296 ∧ b % 4294967296 ≤ 4294967295 := by omega
  rw [hab]
  generalize a / 4294967296 = u1 at *
  generalize a % 4294967296 = u0 at *
  generalize b / 4294967296 = v1 at *
  generalize b % 4294967296 = v0 at *
  have bd : ∀ x y : Int, 0 ≤ x ∧ x ≤ 4294967295 → 0 ≤ y ∧ y ≤ 4294967295 → 0 ≤ x * y ∧ x * y ≤ 18446744065119617025 := by
    intro x y hx hy
    refine ⟨Int.mul_nonneg hx.1 hy.1, ?_⟩
    have := Int.mul_le_mul hx.2 hy.2 hy.1 (by omega)
    omega
  have bp := bd u0 v0 x0 y0
  have bq := bd u1 v0 x1 y0
  have br := bd u0 v1 x0 y1
  have bs := bd u1 v1 x1 y1
  clear hab
  generalize u0 * v0 = p at *
  generalize u1 * v0 = q at *
  generalize u0 * v1 = r at *
  generalize u1 * v1 = s at *
  have wu : ∀ n : Int, 0 ≤ n → n ≤ 18446744073709551615 → IntKind.u64.wrap n = n := fun n h1 h2 => wu64 h1 h2
  have hp0 : 0 ≤ p / 4294967296 ∧ p / 4294967296 ≤ 4294967294 := by omega
  have ht : 0 ≤ q + p / 4294967296 ∧ q + p / 4294967296 ≤ 18446744069414584319 := by omega
  rw [wu p (by omega) (by omega), wu q (by omega) (by omega), wu r (by omega) (by omega), wu s (by omega) (by omega), wu _ ht.1 (by omega), and32 ht.1 (by omega)]
  have hpq : ∃ t, t = q + p / 4294967296 := ⟨_, rfl⟩
  obtain ⟨t, hpq⟩ := hpq
  rw [← hpq] at ht ⊢
  have hw1 : 0 ≤ t % 4294967296 + r ∧ t % 4294967296 + r ≤ 18446744069414584320 := by omega
  have hs2 : 0 ≤ s + t / 4294967296 ∧ s + t / 4294967296 ≤ 18446744069414584320 := by omega
  rw [wu _ hw1.1 (by omega), wu _ hs2.1 (by omega)]
  have hw2 : 0 ≤ (t % 4294967296 + r) / 4294967296 ∧ (t % 4294967296 + r) / 4294967296 ≤ 4294967295 := by omega
  have key : (18446744073709551616 * s + 4294967296 * (q + r) + p) / 18446744073709551616 = s + t / 4294967296 + (t % 4294967296 + r) / 4294967296 := by
    have e1 : 4294967296 * (q + r) + p = 4294967296 * (t + r) + p % 4294967296 := by omega
    have e2 : t + r = 4294967296 * (t / 4294967296) + (t % 4294967296 + r) := by omega
    omega
  rw [key, IntKind.wrap_u64, IntKind.wrap_u64]
  congr 3
  rw [Int.emod_eq_of_lt (by omega) (by omega)]

theorem size_s {a : Int} (h : In64 a) : num_size a = some (.int .u64 (if a < 0 then -a else a)) := by
  rw [num_size_eq]
  unfold In64 at h
  by_cases h0 : a < 0
  · rw [c_ltT h0, if_pos h0, IntKind.wrap_u64, IntKind.wrap_u64]
    congr 2; omega
  · rw [c_ltF h0, if_neg h0, IntKind.wrap_u64]
    congr 2; omega

/-- A number with its limits: itself, or that it is none. -/
def limV (n : Int) : PV := if In64 n then .tuple [.int .i64 n, .int .i64 0] else .tuple [.int .i64 0, .int .i64 10]

theorem rd1 (x y : Int) : rdT (tiInt .u64) [.int .u64 x, .int .u64 y] 1 0 = some (.int .u64 y) := rfl

theorem signed_s (neg : Bool) {m : Int} (h0 : 0 ≤ m) (h1 : m < 340282366920938463463374607431768211456) :
    num_signed neg (m / 18446744073709551616) (m % 18446744073709551616) = some (limV (if neg then -m else m)) := by
  rw [num_signed_eq, num_signed_c5_eq, rd1, c_not]
  have hq : 0 ≤ m / 18446744073709551616 := by omega
  by_cases hz : m / 18446744073709551616 = 0
  · rw [c_eqT hz]
    have hm : m % 18446744073709551616 = m := by omega
    rw [hm]
    simp only [Option.bind_some, PV.toI]
    cases neg with
    | true =>
      simp only [cond_true, if_true]
      by_cases hl : m ≤ 9223372036854775808
      · rw [c_leT hl, IntKind.wrap_u64, IntKind.wrap_i64]
        unfold limV
        rw [if_pos (by unfold In64; omega)]
        congr 3
        congr 1
        omega
      · rw [c_leF hl]
        unfold limV
        rw [if_neg (by unfold In64; omega)]
    | false =>
      simp only [cond_false, Bool.false_eq_true, if_false]
      by_cases hl : 9223372036854775807 < m
      · rw [c_ltT hl]
        unfold limV
        rw [if_neg (by unfold In64; omega)]
      · rw [c_ltF hl, w64 (by omega) (by omega)]
        unfold limV
        rw [if_pos (by unfold In64; omega)]
  · rw [c_eqF hz]
    unfold limV
    rw [if_neg (by unfold In64; cases neg <;> simp <;> omega)]

theorem mul_s {a b : Int} (ha : In64 a) (hb : In64 b) : num_Mul a b = some (limV (a * b)) := by
  rw [num_Mul_eq, num_product_eq, size_s ha, size_s hb]
  simp only [Option.bind_some, toI_int]
  unfold In64 at ha hb
  have h1 : 0 ≤ (if a < 0 then -a else a) ∧ (if a < 0 then -a else a) ≤ 9223372036854775808 := by split <;> omega
  have h2 : 0 ≤ (if b < 0 then -b else b) ∧ (if b < 0 then -b else b) ≤ 9223372036854775808 := by split <;> omega
  rw [mul64_s (by omega) (by omega)]
  simp only [Option.bind_some, tn0, tn1, ag0, ag1, toI_int]
  have hm0 : 0 ≤ (if a < 0 then -a else a) * (if b < 0 then -b else b) := Int.mul_nonneg h1.1 h2.1
  have hm1 : (if a < 0 then -a else a) * (if b < 0 then -b else b) ≤ 9223372036854775808 * 9223372036854775808 := Int.mul_le_mul h1.2 h2.2 h2.1 (by omega)
  rw [signed_s _ hm0 (by omega)]
  have e : (if (!(ltB a 0 == ltB b 0)) = true then -((if a < 0 then -a else a) * (if b < 0 then -b else b)) else (if a < 0 then -a else a) * (if b < 0 then -b else b)) = a * b := by
    by_cases x : a < 0 <;> by_cases y : b < 0 <;> simp [ltB, x, y, Int.neg_mul, Int.mul_neg]
  rw [e]
  simp only [Option.bind_some]
  unfold limV
  by_cases h : In64 (a * b)
  · rw [if_pos h]; rfl
  · rw [if_neg h]; rfl

theorem add_s {a b : Int} (ha : In64 a) (hb : In64 b) : num_Add a b = some (limV (a + b)) := by
  rw [num_Add_eq, c_not]
  unfold In64 at ha hb
  unfold limV
  by_cases h : In64 (a + b)
  · rw [if_pos h]
    unfold In64 at h
    rw [w64 h.1 h.2]
    have : (ltB a (a + b) == ltB 0 b) = true := by
      unfold ltB
      by_cases hb0 : 0 < b
      · rw [decide_eq_true hb0, decide_eq_true (by omega)]; rfl
      · rw [decide_eq_false hb0, decide_eq_false (by omega)]; rfl
    rw [this]; rfl
  · rw [if_neg h]
    unfold In64 at h
    have : (ltB a (IntKind.i64.wrap (a + b)) == ltB 0 b) = false := by
      unfold ltB
      rw [IntKind.wrap_i64]
      by_cases hb0 : 0 < b
      · rw [decide_eq_true hb0, decide_eq_false (by omega)]; rfl
      · rw [decide_eq_false hb0, decide_eq_true (by omega)]; rfl
    rw [this]; rfl

theorem sub_s {a b : Int} (ha : In64 a) (hb : In64 b) : num_Sub a b = some (limV (a - b)) := by
  rw [num_Sub_eq, c_not]
  unfold In64 at ha hb
  unfold limV
  by_cases h : In64 (a - b)
  · rw [if_pos h]
    unfold In64 at h
    rw [w64 h.1 h.2]
    have : (ltB (a - b) a == ltB 0 b) = true := by
      unfold ltB
      by_cases hb0 : 0 < b
      · rw [decide_eq_true hb0, decide_eq_true (by omega)]; rfl
      · rw [decide_eq_false hb0, decide_eq_false (by omega)]; rfl
    rw [this]; rfl
  · rw [if_neg h]
    unfold In64 at h
    have : (ltB (IntKind.i64.wrap (a - b)) a == ltB 0 b) = false := by
      unfold ltB
      rw [IntKind.wrap_i64]
      by_cases hb0 : 0 < b
      · rw [decide_eq_true hb0, decide_eq_false (by omega)]; rfl
      · rw [decide_eq_false hb0, decide_eq_true (by omega)]; rfl
    rw [this]; rfl
end Dv

/- Digits as a number, as the program and the reference read them. -/
namespace Dv
open Go

theorem decR_low {s : List UInt8} {i : Nat} {c : UInt8} (h : s[i]? = some c) (hc : c.toNat < 128) : decR s i = (c.toNat, 1) := by
  have hi : i < s.length := (List.getElem?_eq_some_iff.1 h).1
  have hs : i < (⟨s.toArray⟩ : ByteArray).size := by simpa [ByteArray.size] using hi
  have hg : (⟨s.toArray⟩ : ByteArray)[i]'hs = c := by
    have := (List.getElem?_eq_some_iff.1 h).2
    exact this
  unfold decR
  rw [decode_ascii ⟨s.toArray⟩ i hs (by rw [hg]; exact hc), hg]

theorem decR_high {s : List UInt8} {i : Nat} {c : UInt8} (h : s[i]? = some c) (hc : 128 ≤ c.toNat) : 128 ≤ (decR s i).1 ∧ 1 ≤ (decR s i).2 := by
  have hi : i < s.length := (List.getElem?_eq_some_iff.1 h).1
  have hs : i < (⟨s.toArray⟩ : ByteArray).size := by simpa [ByteArray.size] using hi
  have hg : (⟨s.toArray⟩ : ByteArray)[i]'hs = c := (List.getElem?_eq_some_iff.1 h).2
  unfold decR
  exact decode_high ⟨s.toArray⟩ i hs (by rw [hg]; exact hc)

theorem kind_digit {c : Int} (h : 48 ≤ c ∧ c ≤ 57) : word_kind c = some (.int .i64 1) := by
  rw [word_kind_eq, c_leT h.1, c_leT h.2, word_kind_c2_eq]

theorem kind_other {c : Int} (h : ¬ (48 ≤ c ∧ c ≤ 57)) : ∃ k, word_kind c = some (.int .i64 k) ∧ k ≠ 1 := by
  have e : word_kind c = word_kind_c3 c := by
    rw [word_kind_eq]
    by_cases h1 : 48 ≤ c
    · rw [c_leT h1, c_leF (by omega)]
    · rw [c_leF h1]
  rw [e, word_kind_c3_eq, word_kind_c5_eq, word_kind_c4_eq, word_kind_c10_eq]
  cases eqB c 95 <;> cases ltB 127 c <;> cases leB 97 (orI .i32 c 32) <;> cases leB (orI .i32 c 32) 122 <;> cases eqB c 32 <;> cases eqB c 9 <;> cases eqB c 10 <;> cases eqB c 13 <;> cases ltB c 32 <;> cases eqB c 127 <;>
    exact ⟨_, rfl, by decide⟩

def digB (c : UInt8) : Bool := decide (48 ≤ c.toNat ∧ c.toNat ≤ 57)
def badV : PV := .tuple [.int .i64 0, .int .i64 13]
def numG : List UInt8 → Int → Bool → PV
  | [], n, o => bif o then .tuple [.int .i64 0, .int .i64 10] else .tuple [.int .i64 n, .int .i64 0]
  | c :: r, n, o => bif digB c then (bif o then numG r 0 true else bif leB (10 * n + ((c.toNat : Int) - 48)) 9223372036854775807 then numG r (10 * n + ((c.toNat : Int) - 48)) false else numG r 0 true) else badV
def numV (s : List UInt8) : PV := bif eqS s [] then badV else numG s 0 false

theorem drop_nil {α : Type} {s : List α} {i : Nat} (h : s.drop i = []) : s.length ≤ i := by
  rcases Nat.lt_or_ge i s.length with h' | h'
  · rw [List.drop_eq_getElem_cons h'] at h; cases h
  · exact h'
theorem drop_cons {α : Type} {s r : List α} {c : α} {i : Nat} (h : s.drop i = c :: r) : i < s.length ∧ s[i]? = some c ∧ s.drop (i + 1) = r := by
  refine ⟨?_, ?_, ?_⟩
  · rcases Nat.lt_or_ge i s.length with h' | h'
    · exact h'
    · rw [List.drop_of_length_le h'] at h; cases h
  · rw [← List.head?_drop, h]; rfl
  · rw [← List.drop_drop, h]; rfl

theorem digB_iff (c : UInt8) : digB c = true ↔ 48 ≤ c.toNat ∧ c.toNat ≤ 57 := by simp [digB]

/-- At what is no digit, the program ends. -/
theorem wnum_bad {s x0 : List UInt8} {i : Nat} {c : UInt8} (h : s[i]? = some c) (hd : digB c = false) (x e : Int) : word_Number_c3 x0 x e s i = some badV := by
  have hi : i < s.length := (List.getElem?_eq_some_iff.1 h).1
  have hk : ∃ k, word_kind ((decR s i).1 : Int) = some (.int .i64 k) ∧ k ≠ 1 := by
    apply kind_other
    have hn : ¬ (48 ≤ c.toNat ∧ c.toNat ≤ 57) := by rw [← digB_iff, hd]; simp
    by_cases hc : c.toNat < 128
    · rw [decR_low h hc]; simp only; omega
    · have := decR_high h (by omega); omega
  obtain ⟨k, hk, hne⟩ := hk
  rw [word_Number_c3_eq, c_ltnT hi, hk]
  simp only [Option.bind_some, toI_int]
  rw [c_not, c_eqF hne]; rfl

theorem digit_val {c : UInt8} (hd : digB c = true) : IntKind.i64.wrap (IntKind.i32.wrap ((c.toNat : Int) - 48)) = (c.toNat : Int) - 48 := by
  have := (digB_iff c).1 hd
  rw [w32 (by omega) (by omega), w64 (by omega) (by omega)]

theorem limV_in {n : Int} (h : In64 n) : limV n = .tuple [.int .i64 n, .int .i64 0] := if_pos h
theorem limV_out {n : Int} (h : ¬ In64 n) : limV n = .tuple [.int .i64 0, .int .i64 10] := if_neg h

theorem wnum_loop (s : List UInt8) (hs : Small s) (hne : s ≠ []) : ∀ (r : List UInt8) (i : Nat) (n : Int) (o : Bool), s.drop i = r → 0 ≤ n → n ≤ 9223372036854775807 →
    word_Number_c3 s (bif o then 0 else n) (bif o then 10 else 0) s i = some (numG r n o)
  | [], i, n, o, h, h0, h1 => by
    have hi := drop_nil h
    rw [word_Number_c3_eq, c_ltnF (by omega), c_eqsF hne]
    cases o <;> rfl
  | c :: r, i, n, o, h, h0, h1 => by
    obtain ⟨hi, hg, hr⟩ := drop_cons h
    cases hd : digB c with
    | false => rw [wnum_bad hg hd]; simp only [numG, hd, cond_false]
    | true =>
      have hc := (digB_iff c).1 hd
      have hcl : c.toNat < 128 := by omega
      have ih := wnum_loop s hs hne r (i + 1)
      rw [word_Number_c3_eq, c_ltnT hi, decR_low hg hcl, kind_digit (by omega)]
      simp only [Option.bind_some, toI_int]
      rw [c_not, c_eqT rfl]
      have hover : word_Number_c3 s 0 10 s (i + 1) = some (numG r 0 true) := ih 0 true hr (by omega) (by omega)
      cases o with
      | true =>
        simp only [cond_true, numG, hd]
        rw [c_eqF (by omega), word_Number_c9_eq, c_eqF (by omega)]
        exact hover
      | false =>
        simp only [cond_false, cond_true, numG, hd]
        rw [c_eqT rfl, mul_s (by unfold In64; omega) (by unfold In64; omega)]
        simp only [Option.bind_some]
        by_cases hm : n * 10 ≤ 9223372036854775807
        · rw [limV_in (by unfold In64; omega)]
          simp only [tn0, tn1, toI_int]
          rw [word_Number_c9_eq, c_eqT rfl, digit_val hd, add_s (by unfold In64; omega) (by unfold In64; omega)]
          simp only [Option.bind_some]
          by_cases ha : 10 * n + ((c.toNat : Int) - 48) ≤ 9223372036854775807
          · rw [limV_in (by unfold In64; omega), c_leT ha]
            simp only [tn0, tn1, toI_int]
            rw [show n * 10 + ((c.toNat : Int) - 48) = 10 * n + ((c.toNat : Int) - 48) by omega]
            exact ih _ false hr (by omega) ha
          · rw [limV_out (by unfold In64; omega), c_leF ha]
            simp only [tn0, tn1, toI_int]
            exact hover
        · rw [limV_out (by unfold In64; omega), c_leF (by omega)]
          simp only [tn0, tn1, toI_int]
          rw [word_Number_c9_eq, c_eqF (by omega)]
          exact hover

theorem wnum_s (s : List UInt8) (hs : Small s) : word_Number s = some (numV s) := by
  rw [word_Number_eq]
  unfold numV
  by_cases h : s = []
  · subst h
    rw [word_Number_c3_eq, c_ltnF (by simp), c_eqsT rfl, c_eqsT rfl]; rfl
  · rw [c_eqsF h]
    exact wnum_loop s hs h s 0 0 false rfl (by omega) (by omega)

theorem rdigit_s (c : UInt8) : computusref05_digit (c.toNat : Int) = some (.bool (digB c)) := by
  rw [computusref05_digit_eq]
  unfold digB
  by_cases h1 : 48 ≤ c.toNat
  · rw [c_leT (by omega)]
    by_cases h2 : c.toNat ≤ 57
    · have : leB (c.toNat : Int) 57 = true := decide_eq_true (by omega)
      rw [this, decide_eq_true ⟨h1, h2⟩]
    · have : leB (c.toNat : Int) 57 = false := decide_eq_false (by omega)
      rw [this, decide_eq_false (by omega)]
  · rw [c_leF (by omega), decide_eq_false (by omega)]

theorem digit_val8 {c : UInt8} (hd : digB c = true) : IntKind.i64.wrap (IntKind.u8.wrap ((c.toNat : Int) - 48)) = (c.toNat : Int) - 48 := by
  have := (digB_iff c).1 hd
  rw [wu8 (by omega) (by omega), w64 (by omega) (by omega)]

theorem numG_over (r : List UInt8) : ∀ n m, numG r n true = numG r m true := by
  induction r with
  | nil => intro n m; rfl
  | cons c r ih => intro n m; simp only [numG, cond_true]

theorem rnum_loop (s : List UInt8) (hs : Small s) (hne : s ≠ []) : ∀ (r : List UInt8) (i : Nat) (n : Int) (o : Bool), s.drop i = r → 0 ≤ n → n ≤ 9223372036854775807 →
    computusref05_Number_c4 s n (bif o then 10 else 0) (i : Int) = some (numG r n o)
  | [], i, n, o, h, h0, h1 => by
    have hi := drop_nil h
    have hl : s.length ≠ 0 := fun h => hne (List.eq_nil_of_length_eq_zero h)
    rw [computusref05_Number_c4_eq, c_ltF (by omega), c_eqF (by omega)]
    cases o <;> rfl
  | c :: r, i, n, o, h, h0, h1 => by
    obtain ⟨hi, hg, hr⟩ := drop_cons h
    have hcast : ((i + 1 : Nat) : Int) = (i : Int) + 1 := by omega
    rw [computusref05_Number_c4_eq, c_ltT (by omega), atS_ok hg]
    simp only [Option.bind_some]
    rw [rdigit_s]
    simp only [Option.bind_some, toB_bool]
    cases hd : digB c with
    | false => simp only [numG, hd, cond_false]; rfl
    | true =>
      have hc := (digB_iff c).1 hd
      have ih := rnum_loop s hs hne r (i + 1)
      rw [digit_val8 hd]
      have hw : IntKind.i64.wrap ((i : Int) + 1) = ((i + 1 : Nat) : Int) := by rw [w64 (by omega) (by omega), hcast]
      simp only [computusref05_Number_c10_eq, computusref05_Number_c11_eq, computusref05_Number_c5_eq, hw]
      have hover : computusref05_Number_c4 s n 10 ((i + 1 : Nat) : Int) = some (numG r 0 true) := by
        rw [numG_over r 0 n]; exact ih n true hr h0 h1
      cases o with
      | true =>
        simp only [cond_true, numG, hd]
        rw [c_not, c_true, c_eqF (by omega), c_eqF (by omega)]
        exact hover
      | false =>
        simp only [cond_false, cond_true, numG, hd]
        rw [c_not, c_true, c_eqT rfl]
        by_cases hm : 922337203685477580 < n
        · rw [c_ltT hm, c_eqF (by omega), c_leF (by omega)]
          exact hover
        · rw [c_ltF hm, w64 (n := 10 * n) (by omega) (by omega), w64 (n := 9223372036854775807 - ((c.toNat : Int) - 48)) (by omega) (by omega)]
          by_cases ha : 10 * n + ((c.toNat : Int) - 48) ≤ 9223372036854775807
          · rw [c_ltF (by omega), c_eqT rfl, c_leT ha, w64 (by omega) (by omega)]
            exact ih _ false hr (by omega) ha
          · rw [c_ltT (by omega), c_eqF (by omega), c_leF ha]
            exact hover

theorem rnum_s (s : List UInt8) (hs : Small s) : computusref05_Number s = some (numV s) := by
  rw [computusref05_Number_eq]
  unfold numV
  by_cases h : s = []
  · subst h
    rw [computusref05_Number_c4_eq, c_ltF (by simp), c_eqT (by simp), c_eqsT rfl]; rfl
  · rw [c_eqsF h]
    exact rnum_loop s hs h s 0 0 false rfl (by omega) (by omega)
end Dv

/- A text's parts, days as texts: the program and the reference. -/
namespace Dv
open Go

/-! ### the first place of a byte -/
theorem extIB : findExt fn_bytealg_IndexByteString EE.ext = some extIndexByte := by kernel_rfl
theorem extCB : findExt fn_bytealg_CountString EE.ext = some extCount := by kernel_rfl

theorem sIndexByte_s (s : List UInt8) (c : UInt8) : stringslite_IndexByte s (c.toNat : Int) = some (.int .i64 (Lib.indexByte s c)) := by
  rw [stringslite_IndexByte_eq, callW_ext EE _ _ _ extIB]
  have e : extIndexByte [.str s, .int .u8 (c.toNat : Int)] = some (.int .i64 (Lib.indexByte s c)) := by
    unfold extIndexByte
    simp
  rw [e]; rfl

theorem indexByte_s (s : List UInt8) (c : UInt8) : strings_IndexByte s (c.toNat : Int) = some (.int .i64 (Lib.indexByte s c)) := by
  rw [strings_IndexByte_eq, sIndexByte_s]; rfl

theorem indexByte_lt (s : List UInt8) (c : UInt8) : Lib.indexByte s c < s.length := by
  induction s with
  | nil => simp [Lib.indexByte]
  | cons b s ih =>
    unfold Lib.indexByte
    split
    · simp <;> omega
    · split
      · simp <;> omega
      · simp <;> omega

/-! ### parts between a byte -/
def splitB (c : UInt8) : List UInt8 → List (List UInt8)
  | [] => [[]]
  | x :: r => if x = c then [] :: splitB c r else match splitB c r with
    | p :: ps => (x :: p) :: ps
    | [] => [[x]]

theorem splitB_ne (c : UInt8) (s : List UInt8) : splitB c s ≠ [] := by
  cases s with
  | nil => simp [splitB]
  | cons x r => unfold splitB; split <;> (try split) <;> simp

theorem splitB_none {c : UInt8} {s : List UInt8} (h : Lib.indexByte s c = -1) : splitB c s = [s] := by
  induction s with
  | nil => rfl
  | cons b s ih =>
    unfold Lib.indexByte at h
    split at h
    · omega
    · rename_i hb
      split at h
      · rename_i hs
        have := ih (by simpa using hs)
        unfold splitB
        rw [if_neg (by simpa using hb), this]
      · have := Lib.indexByte_ge s c
        simp at *
        omega

theorem splitB_some {c : UInt8} {s : List UInt8} {m : Nat} (h : Lib.indexByte s c = m) : splitB c s = s.take m :: splitB c (s.drop (m + 1)) := by
  induction s generalizing m with
  | nil => simp only [Lib.indexByte] at h; omega
  | cons b s ih =>
    unfold Lib.indexByte at h
    split at h
    · rename_i hb
      have : m = 0 := by omega
      subst this
      conv => lhs; unfold splitB
      rw [if_pos (by simpa using hb)]; rfl
    · rename_i hb
      split at h
      · omega
      · rename_i hne
        have hne : Lib.indexByte s c ≠ -1 := by simpa using hne
        have hge := Lib.indexByte_ge s c
        obtain ⟨k, rfl⟩ : ∃ k, m = k + 1 := ⟨m - 1, by omega⟩
        have := ih (m := k) (by omega)
        conv => lhs; unfold splitB
        rw [if_neg (by simpa using hb), this]
        rfl

theorem splitB_len (c : UInt8) (s : List UInt8) : (splitB c s).length = Lib.countByte s c + 1 := by
  induction s with
  | nil => rfl
  | cons x r ih =>
    unfold splitB Lib.countByte
    rw [List.count_cons]
    unfold Lib.countByte at ih
    split
    · rename_i h
      simp [h, ih]
    · rename_i h
      have hne := splitB_ne c r
      cases hs : splitB c r with
      | nil => exact absurd hs hne
      | cons p ps =>
        rw [hs] at ih
        simp at ih ⊢
        simp [h, ih]

theorem splitB_parts (c : UInt8) (s : List UInt8) : ∀ p ∈ splitB c s, p.length ≤ s.length := by
  induction s with
  | nil => intro p hp; simp [splitB] at hp; simp [hp]
  | cons x r ih =>
    intro p hp
    unfold splitB at hp
    split at hp
    · rcases List.mem_cons.1 hp with rfl | hp
      · simp
      · have := ih p hp; simp; omega
    · cases hs : splitB c r with
      | nil => exact absurd hs (splitB_ne c r)
      | cons q qs =>
        rw [hs] at hp ih
        rcases List.mem_cons.1 hp with rfl | hp
        · have := ih q (by simp); simp; omega
        · have := ih p (by simp [hp]); simp; omega

theorem stC_str {l : List PV} {i : Nat} {v : PV} (h : i < l.length) (hs : ∀ p ∈ l, ∃ t, p = .str t) : stC l i 0 [v] = some (l.set i v) := by
  unfold stC
  rw [List.getElem?_eq_getElem h]
  obtain ⟨t, ht⟩ := hs l[i] (List.getElem_mem h)
  rw [ht]; rfl

/-- strings.Index, by a text of one byte. -/
theorem index1_s (s : List UInt8) (c : UInt8) : strings_Index s [c] = some (.int .i64 (Lib.indexByte s c)) := by
  rw [strings_Index_eq, stringslite_Index_eq]
  have e1 : (((List.length [c] : Nat)) : Int) = 1 := rfl
  rw [e1, c_eqF (by omega)]
  by_cases h : [c] = s
  · rw [c_eqsT h, stringslite_Index_c3_eq, ← h]
    simp [Lib.indexByte, PV.toI]
  · rw [c_eqsF h, stringslite_Index_c4_eq, c_eqT rfl, atS_z (c := c) rfl]
    simp only [Option.bind_some]
    rw [sIndexByte_s]; rfl

theorem count1_s (s : List UInt8) (c : UInt8) : strings_Count s [c] = some (.int .i64 ((Lib.countByte s c : Nat) : Int)) := by
  rw [strings_Count_eq]
  have e1 : (((List.length [c] : Nat)) : Int) = 1 := rfl
  rw [e1, c_eqF (by omega), c_eqT rfl, atS_z (c := c) rfl]
  simp only [Option.bind_some]
  rw [callW_ext EE _ _ _ extCB]
  have e : extCount [.str s, .int .u8 (c.toNat : Int)] = some (.int .i64 ((Lib.countByte s c : Nat) : Int)) := by
    unfold extCount
    simp
  rw [e]; rfl

theorem countByte_le (s : List UInt8) (c : UInt8) : Lib.countByte s c ≤ s.length := List.count_le_length

theorem split_loop (c : UInt8) (N : Nat) (hN : N ≤ 100000000000) (x6 : Nat) : ∀ (k : Nat) (s : List UInt8) (i : Nat) (l : List PV), (splitB c s).length = k → i + k = N → l.length = N → (∀ p ∈ l, ∃ t, p = .str t) → s.length ≤ 100000000000 →
    strings_genSplit_c11 s [c] 0 ((N : Int) - 1) (i : Int) l x6 = some (.sl 1 (l.take i ++ (splitB c s).map PV.str))
  | 0, s, i, l, hk, _, _, _, _ => absurd (List.eq_nil_of_length_eq_zero hk) (splitB_ne c s)
  | k + 1, s, i, l, hk, hi, hl, hs, hlen => by
    have hcast : ((i + 1 : Nat) : Int) = (i : Int) + 1 := by omega
    have hge := Lib.indexByte_ge s c
    have hlt := indexByte_lt s c
    have fin : ∀ t, ((stC l i 0 [PV.str t]).bind fun v => bif (decide ((0 : Int) ≤ IntKind.i64.wrap ((i : Int) + 1) ∧ IntKind.i64.wrap ((i : Int) + 1) ≤ ((v.length : Nat) : Int))) then
        some (PV.sl 1 (v.take (IntKind.i64.wrap ((i : Int) + 1)).toNat)) else none) = some (.sl 1 (l.take i ++ [PV.str t])) := by
      intro t
      rw [stC_str (by omega) hs, w64 (by omega) (by omega)]
      simp only [Option.bind_some, List.length_set]
      rw [decide_eq_true (by omega), cond_true]
      congr 2
      rw [← hcast, Int.toNat_natCast, List.take_succ_eq_append_getElem (by simp; omega), List.getElem_set_self]
      congr 1
      exact List.take_set_of_le (Nat.le_refl _)
    rw [strings_genSplit_c11_eq]
    by_cases hin : Lib.indexByte s c = -1
    · rw [splitB_none hin]
      simp only [List.map_cons, List.map_nil]
      by_cases hlast : (i : Int) < (N : Int) - 1
      · rw [c_ltT hlast, index1_s]
        simp only [Option.bind_some, toI_int]
        rw [hin, c_ltT (by omega), c_inT (by omega), Int.toNat_natCast]
        exact fin s
      · rw [c_ltF hlast, c_inT (by omega), Int.toNat_natCast]
        exact fin s
    · obtain ⟨m, hm⟩ := Int.eq_ofNat_of_zero_le (show 0 ≤ Lib.indexByte s c by omega)
      have hsp := splitB_some hm
      rw [hsp] at hk ⊢
      simp only [List.length_cons] at hk
      have hne := List.length_pos_iff.2 (splitB_ne c (s.drop (m + 1)))
      have hml : m < s.length := by omega
      have ih := split_loop c N hN x6 k (s.drop (m + 1)) (i + 1) (l.set i (.str (s.take m))) (by omega) (by omega) (by simpa using hl) (by
        intro p hp
        rcases List.mem_or_eq_of_mem_set hp with h | h
        · exact hs p h
        · exact ⟨_, h⟩) (by simp; omega)
      rw [c_ltT (by omega), index1_s]
      simp only [Option.bind_some, toI_int]
      have e1 : (((List.length [c] : Nat)) : Int) = 1 := rfl
      rw [hm, c_ltF (by omega), w64 (n := (m : Int) + 0) (by omega) (by omega), Int.add_zero, takeS_n (by omega)]
      simp only [Option.bind_some]
      rw [c_inT (by omega), Int.toNat_natCast, stC_str (by omega) hs]
      simp only [Option.bind_some]
      rw [e1, w64 (n := (m : Int) + 1) (by omega) (by omega), show ((m : Int) + 1) = ((m + 1 : Nat) : Int) by omega, dropS_n (by omega)]
      simp only [Option.bind_some]
      rw [w64 (n := (i : Int) + 1) (by omega) (by omega), ← hcast, ih]
      congr 2
      rw [List.take_succ_eq_append_getElem (by simp; omega), List.getElem_set_self, List.take_set_of_le (Nat.le_refl _)]
      simp

theorem split_s (s : List UInt8) (c : UInt8) (hs : s.length ≤ 10000000000) : strings_Split s [c] = some (.sl 1 ((splitB c s).map PV.str)) := by
  have hc := countByte_le s c
  have hl := splitB_len c s
  rw [strings_Split_eq, strings_genSplit_eq, c_eqF (by omega), c_eqsF (by simp), c_ltT (by omega), count1_s]
  simp only [Option.bind_some, toI_int]
  rw [strings_genSplit_c7_eq, w64 (n := ((Lib.countByte s c : Nat) : Int) + 1) (by omega) (by omega), w64 (n := ((s.length : Nat) : Int) + 1) (by omega) (by omega)]
  have hmin : minI (((Lib.countByte s c : Nat) : Int) + 1) (((s.length : Nat) : Int) + 1) = (((splitB c s).length : Nat) : Int) := by
    unfold minI
    rw [hl]
    by_cases h : ((s.length : Nat) : Int) + 1 < ((Lib.countByte s c : Nat) : Int) + 1
    · omega
    · rw [decide_eq_false h, cond_false]; omega
  rw [hmin]
  have hp : (HPow.hPow (2 : Int) 46 : Int) = 70368744177664 := by decide
  rw [hp, decide_eq_true (by omega), cond_true, w64 (by omega) (by omega), Int.toNat_natCast]
  have := split_loop c (splitB c s).length (by omega) (splitB c s).length (splitB c s).length s 0 (List.replicate (splitB c s).length (.str [])) rfl (by omega) (by simp) (by intro p hp; exact ⟨[], (List.mem_replicate.1 hp).2⟩) (by omega)
  simp only [List.take_zero, List.nil_append] at this
  rw [show ((0 : Nat) : Int) = 0 from rfl] at this
  rw [this]
  rfl
end Dv

/- Times and shifts as texts: the program and the reference. -/
namespace Dv
open Go

/-! ### short numbers -/
def numN (s : List UInt8) : Int := ((numV s).tnth 0).toI
def numE (s : List UInt8) : Int := ((numV s).tnth 1).toI
def okSh (s : List UInt8) : Bool := eqB (numE s) 0 && leB ((s.length : Nat) : Int) 2
def shortN (s : List UInt8) : Int := if okSh s then numN s else -1

theorem numG_form : ∀ (r : List UInt8) (n : Int) (o : Bool), ∃ a b, numG r n o = .tuple [.int .i64 a, .int .i64 b]
  | [], n, o => by cases o <;> exact ⟨_, _, rfl⟩
  | c :: r, n, o => by
    simp only [numG]
    cases digB c with
    | false => exact ⟨_, _, rfl⟩
    | true =>
      cases o with
      | true => exact numG_form r 0 true
      | false => cases leB (10 * n + ((c.toNat : Int) - 48)) 9223372036854775807 with
        | true => exact numG_form r _ false
        | false => exact numG_form r 0 true

theorem numV_form (s : List UInt8) : numV s = .tuple [.int .i64 (numN s), .int .i64 (numE s)] := by
  have : ∃ a b, numV s = .tuple [.int .i64 a, .int .i64 b] := by
    unfold numV
    cases eqS s [] with
    | true => exact ⟨_, _, rfl⟩
    | false => exact numG_form s 0 false
  obtain ⟨a, b, h⟩ := this
  unfold numN numE
  rw [h]; rfl

theorem numV_nil : numN [] = 0 ∧ numE [] = 13 := ⟨rfl, rfl⟩

/-- A digit ahead. -/
theorem numG_cons {c : UInt8} {r : List UInt8} {n : Int} (hd : digB c = true) (h0 : 0 ≤ n) (h1 : n ≤ 1000) : numG (c :: r) n false = numG r (10 * n + ((c.toNat : Int) - 48)) false := by
  have := (digB_iff c).1 hd
  simp only [numG, hd, cond_true, cond_false]
  rw [c_leT (by omega)]
theorem numG_bad {c : UInt8} {r : List UInt8} {n : Int} {o : Bool} (hd : digB c = false) : numG (c :: r) n o = badV := by
  simp only [numG, hd, cond_false]

theorem numV_cons (c : UInt8) (r : List UInt8) : numV (c :: r) = numG (c :: r) 0 false := by
  unfold numV; rw [c_eqsF (by simp)]

/-- What has a byte that is no digit is no number. -/
theorem numG_has {x : UInt8} (hx : digB x = false) : ∀ (r : List UInt8) (n : Int) (o : Bool), x ∈ r → numG r n o = badV
  | [], _, _, h => by simp at h
  | c :: r, n, o, h => by
    cases hd : digB c with
    | false => exact numG_bad hd
    | true =>
      have hm : x ∈ r := by
        rcases List.mem_cons.1 h with rfl | h
        · rw [hx] at hd; cases hd
        · exact h
      simp only [numG, hd, cond_true]
      cases o with
      | true => exact numG_has hx r 0 true hm
      | false =>
        simp only [cond_false]
        cases leB (10 * n + ((c.toNat : Int) - 48)) 9223372036854775807 with
        | true => exact numG_has hx r _ false hm
        | false => exact numG_has hx r 0 true hm
theorem okSh_has {x : UInt8} {s : List UInt8} (hx : digB x = false) (h : x ∈ s) : okSh s = false := by
  have : numV s = badV := by
    cases s with
    | nil => simp at h
    | cons c r => rw [numV_cons]; exact numG_has hx _ _ _ h
  unfold okSh numE
  rw [this]; rfl

theorem okSh_range {s : List UInt8} (h : okSh s = true) : 0 ≤ numN s ∧ numN s ≤ 99 ∧ s ≠ [] := by
  unfold okSh at h
  simp only [Bool.and_eq_true] at h
  have hl : s.length ≤ 2 := by have := of_decide_eq_true h.2; omega
  have he : numE s = 0 := of_decide_eq_true h.1
  match s, hl with
  | [], _ => rw [numV_nil.2] at he; omega
  | [a], _ =>
    cases ha : digB a with
    | false => unfold numE at he; rw [numV_cons, numG_bad ha] at he; simp [badV, PV.tnth, nthD, PV.toI] at he
    | true =>
      have := (digB_iff a).1 ha
      have e : numN [a] = (a.toNat : Int) - 48 := by
        unfold numN; rw [numV_cons, numG_cons ha (by omega) (by omega)]
        show 10 * 0 + ((a.toNat : Int) - 48) = _
        omega
      rw [e]; exact ⟨by omega, by omega, by simp⟩
  | [a, b], _ =>
    cases ha : digB a with
    | false => unfold numE at he; rw [numV_cons, numG_bad ha] at he; simp [badV, PV.tnth, nthD, PV.toI] at he
    | true =>
      have h1 := (digB_iff a).1 ha
      cases hb : digB b with
      | false => unfold numE at he; rw [numV_cons, numG_cons ha (by omega) (by omega), numG_bad hb] at he; simp [badV, PV.tnth, nthD, PV.toI] at he
      | true =>
        have h2 := (digB_iff b).1 hb
        have e : numN [a, b] = 10 * ((a.toNat : Int) - 48) + ((b.toNat : Int) - 48) := by
          unfold numN; rw [numV_cons, numG_cons ha (by omega) (by omega), numG_cons hb (by omega) (by omega)]
          show 10 * (10 * 0 + ((a.toNat : Int) - 48)) + ((b.toNat : Int) - 48) = _
          omega
        rw [e]; exact ⟨by omega, by omega, by simp⟩

theorem shortN_ok {s : List UInt8} (h : okSh s = true) : shortN s = numN s := if_pos h
theorem shortN_no {s : List UInt8} (h : okSh s = false) : shortN s = -1 := by unfold shortN; rw [h]; rfl
theorem shortN_range (s : List UInt8) : -1 ≤ shortN s ∧ shortN s ≤ 99 := by
  cases h : okSh s with
  | true => have := okSh_range h; rw [shortN_ok h]; omega
  | false => rw [shortN_no h]; omega

theorem wshortn_s (s : List UInt8) (hs : Small s) : when_short s = some (.tuple [.int .i64 (numN s), .bool (okSh s)]) := by
  rw [when_short_eq, wnum_s s hs, numV_form]
  simp only [Option.bind_some, tn0, tn1, toI_int]
  unfold okSh
  cases eqB (numE s) 0 <;> rfl

theorem rshortn_s (s : List UInt8) (hs : Small s) : computusref07_short s = some (.int .i64 (shortN s)) := by
  rw [computusref07_short_eq, computusref07_short_c2_eq]
  by_cases h1 : ((s.length : Nat) : Int) < 1
  · have : s = [] := List.eq_nil_of_length_eq_zero (by omega)
    subst this
    rw [c_ltT h1]; rfl
  · rw [c_ltF h1]
    by_cases h2 : (2 : Int) < ((s.length : Nat) : Int)
    · rw [c_ltT h2, shortN_no]
      have : leB ((s.length : Nat) : Int) 2 = false := decide_eq_false (by omega)
      unfold okSh; rw [this, Bool.and_false]
    · rw [c_ltF h2, computusref07_short_c3_eq, rnum_s s hs, numV_form]
      simp only [Option.bind_some, tn0, tn1, toI_int]
      have h3 : leB ((s.length : Nat) : Int) 2 = true := decide_eq_true (by omega)
      unfold shortN okSh
      rw [h3, Bool.and_true]
      cases eqB (numE s) 0 <;> rfl

/-! ### hours, minutes, seconds -/
def okMS (t : List UInt8) : Bool := okSh t && (eqB ((t.length : Nat) : Int) 2 && ltB (numN t) 60)
def allOk : List (List UInt8) → Bool
  | [] => true
  | t :: r => okMS t && allOk r
def accN : Int → Int → List (List UInt8) → Int
  | n, _, [] => n
  | n, u, t :: r => accN (IntKind.i64.wrap (n + IntKind.i64.wrap (numN t * u))) (IntKind.i64.wrap (u.tdiv 60)) r
def okSec (l : List (List UInt8)) : Bool :=
  match l with
  | h :: r => okSh h && allOk r && leB (((h :: r).length : Nat) : Int) 3
  | [] => false
def secN (l : List (List UInt8)) : Int :=
  match l with
  | h :: r => accN (IntKind.i64.wrap (numN h * 3600)) 60 r
  | [] => 0

theorem sec_loop (L : List PV) (M : List (List UInt8)) (hM : M.length ≤ 100000000000) (hsm : ∀ t ∈ M, Small t) : ∀ (r : List (List UInt8)) (i : Nat) (n u : Int) (ok : Bool), M.drop i = r →
    when_seconds_c6 L n ok u (M.map PV.str) ((M.length : Nat) : Int) (i : Int) = some (.tuple [.int .i64 (accN n u r), .bool (ok && allOk r && leB ((L.length : Nat) : Int) 3)])
  | [], i, n, u, ok, h => by
    have := drop_nil h
    rw [when_seconds_c6_eq, c_ltF (by omega)]
    cases ok with
    | true => simp only [cond_true, accN, allOk, Bool.true_and]
    | false => rfl
  | t :: r, i, n, u, ok, h => by
    obtain ⟨hi, hg, hr⟩ := drop_cons h
    have hcast : ((i + 1 : Nat) : Int) = (i : Int) + 1 := by omega
    have step : ∀ b : Bool, when_seconds_c10 L n b u (numN t) (M.map PV.str) ((M.length : Nat) : Int) (i : Int) = some (.tuple [.int .i64 (accN n u (t :: r)), .bool (b && allOk r && leB ((L.length : Nat) : Int) 3)]) := by
      intro b
      rw [when_seconds_c10_eq, w64 (n := (i : Int) + 1) (by omega) (by omega), ← hcast]
      exact sec_loop L M hM hsm r (i + 1) _ _ b hr
    rw [when_seconds_c6_eq, c_ltT (by omega), rdI_n, rdT_str hg]
    simp only [Option.bind_some, toS_str]
    rw [wshortn_s t (hsm t (List.mem_of_getElem? hg))]
    simp only [Option.bind_some, tn0, tn1, toI_int, toB_bool, step, allOk, okMS]
    cases ok <;> cases okSh t <;> cases eqB ((t.length : Nat) : Int) 2 <;> simp

theorem wseconds_s (s : List UInt8) (hs : s.length ≤ 10000000000) : when_seconds s = some (.tuple [.int .i64 (secN (splitB 58 s)), .bool (okSec (splitB 58 s))]) := by
  have hsp := split_s s 58 hs
  have hparts := splitB_parts 58 s
  have hlen := splitB_len 58 s
  have hcnt := countByte_le s 58
  rw [when_seconds_eq, hsp]
  cases hl : splitB 58 s with
  | nil => exact absurd hl (splitB_ne 58 s)
  | cons h r =>
    rw [hl] at hparts hlen
    simp only [List.length_cons] at hlen
    have hh : Small h := by have := hparts h (by simp); unfold Small; omega
    simp only [Option.bind_some, toL_sl, List.map_cons]
    have e1 : rdI tiStr (PV.str h :: r.map PV.str) 0 = some (.str h) := rfl
    rw [e1]
    simp only [Option.bind_some, toS_str]
    rw [wshortn_s h hh]
    simp only [Option.bind_some, tn0, tn1, toI_int, toB_bool]
    have e2 : dropS (PV.str h :: r.map PV.str) 1 = some (r.map PV.str) := by
      rw [dropS_ok (by omega) (by simp only [List.length_cons]; omega)]; rfl
    rw [e2]
    simp only [Option.bind_some, List.length_map]
    have := sec_loop (PV.str h :: r.map PV.str) r (by omega) (fun t ht => by have := hparts t (by simp [ht]); unfold Small; omega) r 0 (IntKind.i64.wrap (numN h * 3600)) 60 (okSh h) rfl
    rw [show ((0 : Nat) : Int) = 0 from rfl] at this
    rw [this]
    simp [secN, okSec]

/-- Where it can be, its seconds. -/
def secI (l : List (List UInt8)) : Int := if okSec l then secN l else -1

theorem secN_range {l : List (List UInt8)} (h : okSec l = true) : 0 ≤ secN l ∧ secN l ≤ 400000 := by
  match l with
  | [] => simp [okSec] at h
  | [a] =>
    simp only [okSec, Bool.and_eq_true] at h
    have := okSh_range h.1.1
    simp only [secN, accN]
    rw [w64 (by omega) (by omega)]; omega
  | [a, b] =>
    simp only [okSec, allOk, okMS, Bool.and_eq_true] at h
    have h1 := okSh_range h.1.1
    have h2 := okSh_range h.1.2.1.1
    simp only [secN, accN]
    rw [w64 (n := numN a * 3600) (by omega) (by omega), w64 (n := numN b * 60) (by omega) (by omega), w64 (by omega) (by omega)]; omega
  | [a, b, c] =>
    simp only [okSec, allOk, okMS, Bool.and_eq_true] at h
    have h1 := okSh_range h.1.1
    have h2 := okSh_range h.1.2.1.1
    have h3 := okSh_range h.1.2.2.1.1
    simp only [secN, accN]
    have e : IntKind.i64.wrap ((60 : Int).tdiv 60) = 1 := by decide
    rw [e, w64 (n := numN a * 3600) (by omega) (by omega), w64 (n := numN b * 60) (by omega) (by omega), w64 (n := numN a * 3600 + numN b * 60) (by omega) (by omega), w64 (n := numN c * 1) (by omega) (by omega), w64 (by omega) (by omega)]; omega
  | _ :: _ :: _ :: _ :: r =>
    simp only [okSec, Bool.and_eq_true] at h
    have := of_decide_eq_true h.2
    simp only [List.length_cons] at this
    omega
end Dv

/- Times and shifts as texts: the reference, and that it is the program. -/
namespace Dv
open Go

theorem okMS_iff (t : List UInt8) : okMS t = true ↔ okSh t = true ∧ t.length = 2 ∧ numN t < 60 := by
  unfold okMS
  simp only [Bool.and_eq_true]
  constructor
  · rintro ⟨h1, h2, h3⟩
    have h2 := of_decide_eq_true h2
    have h3 := of_decide_eq_true h3
    exact ⟨h1, by omega, h3⟩
  · rintro ⟨h1, h2, h3⟩
    exact ⟨h1, decide_eq_true (by omega), decide_eq_true h3⟩

theorem rdT_at {L : List (List UInt8)} {t : List UInt8} {i : Nat} (hg : L[i]? = some t) : rdT tiStr (L.map PV.str) (Int.toNat (i : Int)) 0 = some (.str t) := by
  rw [Int.toNat_natCast]; exact rdT_str hg

theorem c13_step {L : List (List UInt8)} {t : List UInt8} {i : Nat} (n : Int) (hg : L[i]? = some t) (ht : Small t) :
    computusref07_sec_c13_1 n (i : Int) (L.map PV.str) = if okMS t = true then computusref07_sec_c18_1 n (i : Int) (numN t) (L.map PV.str) else some (.int .i64 (-1)) := by
  have hi : i < L.length := (List.getElem?_eq_some_iff.1 hg).1
  have hr := shortN_range t
  rw [computusref07_sec_c13_1_eq, List.length_map, c_ltT (by omega), c_inT (by omega), rdT_at hg]
  simp only [Option.bind_some, toS_str]
  rw [rshortn_s t ht]
  simp only [Option.bind_some, toI_int]
  rw [c_inT (by omega), computusref07_sec_c17_eq]
  by_cases hm : okMS t = true
  · rw [if_pos hm]
    obtain ⟨h1, h2, h3⟩ := (okMS_iff t).1 hm
    have h4 := okSh_range h1
    rw [shortN_ok h1, c_not, c_eqT (by omega), c_ltF (by omega), c_ltF (by omega)]
  · rw [if_neg hm, c_not]
    by_cases h2 : t.length = 2
    · rw [c_eqT (by omega)]
      cases h1 : okSh t with
      | false => rw [shortN_no h1, c_ltT (by omega)]
      | true =>
        rw [shortN_ok h1]
        have h3 : ¬ numN t < 60 := fun h3 => hm ((okMS_iff t).2 ⟨h1, h2, h3⟩)
        have := okSh_range h1
        rw [c_ltF (by omega), c_ltT (by omega)]
    · rw [c_eqF (by omega)]

theorem c13_end {L : List (List UInt8)} (n : Int) {i : Nat} (h : L.length ≤ i) : computusref07_sec_c13_1 n (i : Int) (L.map PV.str) = some (.int .i64 n) := by
  rw [computusref07_sec_c13_1_eq, List.length_map, c_ltF (by omega)]

/-- What is done behind the scan. -/
noncomputable def finS (l : List PV) : Option PV :=
  (bif (inB 0 0 (((List.length l) : Nat) : Int)) then ((rdT tiStr l 0 0).bind fun v78 => ((computusref07_short (PV.toS v78)).bind fun v79 => (bif (ltB (PV.toI v79) (0 : Int)) then computusref07_sec_c10 else (bif (ltB (3 : Int) (((List.length l) : Nat) : Int)) then computusref07_sec_c10 else (computusref07_sec_c11_1 (PV.toI v79) l))))) else none)

theorem fin_s (L : List (List UInt8)) (hne : L ≠ []) (hs : ∀ t ∈ L, Small t) : finS (L.map PV.str) = some (.int .i64 (secI L)) := by
  unfold finS
  cases L with
  | nil => exact absurd rfl hne
  | cons h r =>
  have hh := hs h (by simp)
  have e0 : rdT tiStr ((h :: r).map PV.str) 0 0 = some (.str h) := rfl
  have hrg := shortN_range h
  rw [List.length_map, c_inT (by simp only [List.length_cons]; omega), e0]
  simp only [Option.bind_some, toS_str]
  rw [rshortn_s h hh]
  simp only [Option.bind_some, toI_int]
  rw [computusref07_sec_c10_eq, computusref07_sec_c11_1_eq]
  unfold secI
  cases hok : okSh h with
  | false =>
    rw [shortN_no hok, c_ltT (by omega)]
    have : okSec (h :: r) = false := by simp [okSec, hok]
    rw [this]; rfl
  | true =>
    have h1 := okSh_range hok
    rw [shortN_ok hok, c_ltF (by omega)]
    by_cases hl : (3 : Int) < (((h :: r).length : Nat) : Int)
    · rw [c_ltT hl]
      have : leB (((h :: r).length : Nat) : Int) 3 = false := decide_eq_false (by omega)
      have : okSec (h :: r) = false := by simp only [okSec, this, Bool.and_false]
      rw [this]; rfl
    · rw [c_ltF hl]
      have hl3 : leB (((h :: r).length : Nat) : Int) 3 = true := decide_eq_true (by omega)
      have w1 : IntKind.i64.wrap (numN h * 3600) = numN h * 3600 := w64 (by omega) (by omega)
      have k1 : ∀ (n : Int) (L : List (List UInt8)) (t : List UInt8), L[1]? = some t → Small t → computusref07_sec_c13_1 n 1 (L.map PV.str) = if okMS t = true then computusref07_sec_c18_1 n 1 (numN t) (L.map PV.str) else some (.int .i64 (-1)) := fun n L t hg ht => c13_step (i := 1) n hg ht
      have k2 : ∀ (n : Int) (L : List (List UInt8)) (t : List UInt8), L[2]? = some t → Small t → computusref07_sec_c13_1 n 2 (L.map PV.str) = if okMS t = true then computusref07_sec_c18_1 n 2 (numN t) (L.map PV.str) else some (.int .i64 (-1)) := fun n L t hg ht => c13_step (i := 2) n hg ht
      have z1 : ∀ (n : Int) (L : List (List UInt8)), L.length ≤ 1 → computusref07_sec_c13_1 n 1 (L.map PV.str) = some (.int .i64 n) := fun n L h => c13_end (i := 1) n h
      have z2 : ∀ (n : Int) (L : List (List UInt8)), L.length ≤ 2 → computusref07_sec_c13_1 n 2 (L.map PV.str) = some (.int .i64 n) := fun n L h => c13_end (i := 2) n h
      have z3 : ∀ (n : Int) (L : List (List UInt8)), L.length ≤ 3 → computusref07_sec_c13_1 n 3 (L.map PV.str) = some (.int .i64 n) := fun n L h => c13_end (i := 3) n h
      have p2 : IntKind.i64.wrap (1 + 1) = 2 := by decide
      have p3 : IntKind.i64.wrap (2 + 1) = 3 := by decide
      match r, hl with
      | [], _ =>
        rw [z1 _ _ (by simp)]
        simp only [okSec, hok, allOk, hl3, Bool.and_self, if_true, secN, accN]
      | [m], _ =>
        rw [k1 _ _ m rfl (hs m (by simp))]
        cases hm : okMS m with
        | false => simp only [okSec, hok, allOk, hl3, hm, Bool.false_and, Bool.true_and, Bool.false_eq_true, if_false]
        | true =>
          have h2 := (okMS_iff m).1 hm
          have h3 := okSh_range h2.1
          rw [if_pos rfl, computusref07_sec_c18_1_eq, c_eqT rfl, w1, w64 (n := numN m * 60) (by omega) (by omega), w64 (n := numN h * 3600 + numN m * 60) (by omega) (by omega), p2, z2 _ _ (by simp)]
          simp only [okSec, hok, allOk, hl3, hm, Bool.and_self, if_true, secN, accN]
          rw [w1, w64 (n := numN m * 60) (by omega) (by omega), w64 (by omega) (by omega)]
      | [m, x], _ =>
        rw [k1 _ _ m rfl (hs m (by simp))]
        cases hm : okMS m with
        | false => simp only [okSec, hok, allOk, hl3, hm, Bool.false_and, Bool.true_and, Bool.and_false, Bool.false_eq_true, if_false]
        | true =>
          have h2 := (okMS_iff m).1 hm
          have h3 := okSh_range h2.1
          rw [if_pos rfl, computusref07_sec_c18_1_eq, c_eqT rfl, w1, w64 (n := numN m * 60) (by omega) (by omega), w64 (n := numN h * 3600 + numN m * 60) (by omega) (by omega), p2, k2 _ _ x rfl (hs x (by simp))]
          cases hx : okMS x with
          | false => simp only [okSec, hok, allOk, hl3, hm, hx, Bool.false_and, Bool.true_and, Bool.and_false, Bool.false_eq_true, if_false]
          | true =>
            have h4 := (okMS_iff x).1 hx
            have h5 := okSh_range h4.1
            rw [if_pos rfl, computusref07_sec_c18_1_eq, c_eqF (by omega), w64 (n := numN h * 3600 + numN m * 60 + numN x) (by omega) (by omega), p3, z3 _ _ (by simp)]
            have e : IntKind.i64.wrap ((60 : Int).tdiv 60) = 1 := by decide
            simp only [okSec, hok, allOk, hl3, hm, hx, Bool.and_self, if_true, secN, accN]
            rw [e, w1, w64 (n := numN m * 60) (by omega) (by omega), w64 (n := numN h * 3600 + numN m * 60) (by omega) (by omega), w64 (n := numN x * 1) (by omega) (by omega), w64 (by omega) (by omega)]
            congr 2; omega
      | _ :: _ :: _ :: _, hl => exact absurd hl (by simp only [List.length_cons]; omega)

def glue (p : List UInt8) : List (List UInt8) → List (List UInt8)
  | q :: qs => (p ++ q) :: qs
  | [] => [p]

theorem map_last (init : List (List UInt8)) (p : List UInt8) : rdT tiStr ((init ++ [p]).map PV.str) init.length 0 = some (.str p) := rdT_str (by rw [List.getElem?_append_right (Nat.le_refl _), Nat.sub_self]; rfl)
theorem set_last (init : List (List UInt8)) (p q : List UInt8) : stC ((init ++ [p]).map PV.str) init.length 0 [.str q] = some ((init ++ [q]).map PV.str) := by
  rw [stC_str (by simp) (by intro v hv; obtain ⟨t, _, rfl⟩ := List.mem_map.1 hv; exact ⟨t, rfl⟩)]
  congr 1
  rw [List.map_append, List.map_append, List.set_append, if_neg (by simp)]
  simp

theorem c3_loop (s : List UInt8) (hs : s.length ≤ 10000000000) : ∀ (r : List UInt8) (i : Nat) (init : List (List UInt8)) (p : List UInt8), s.drop i = r → init.length ≤ i → p.length ≤ i →
    computusref07_sec_c3_1 s (i : Int) ((init ++ [p]).map PV.str) = finS ((init ++ glue p (splitB 58 r)).map PV.str)
  | [], i, init, p, h, hn, hp => by
    have := drop_nil h
    rw [computusref07_sec_c3_1_eq, c_ltF (by omega)]
    simp only [splitB, glue, List.append_nil]
    rfl
  | x :: r, i, init, p, h, hn, hp => by
    obtain ⟨hi, hg, hr⟩ := drop_cons h
    have hcast : ((i + 1 : Nat) : Int) = (i : Int) + 1 := by omega
    have hw : IntKind.i64.wrap ((i : Int) + 1) = ((i + 1 : Nat) : Int) := by rw [w64 (by omega) (by omega), hcast]
    have hlen : (((((init ++ [p]).map PV.str).length : Nat)) : Int) = ((init.length : Nat) : Int) + 1 := by simp
    have hlw : IntKind.i64.wrap (((((init ++ [p]).map PV.str).length : Nat) : Int) - 1) = ((init.length : Nat) : Int) := by rw [hlen, w64 (by omega) (by omega)]; omega
    rw [computusref07_sec_c3_1_eq, c_ltT (by omega), atS_ok hg]
    simp only [Option.bind_some]
    by_cases hx : x = 58
    · subst hx
      have e1 : splitB 58 (58 :: r) = [] :: splitB 58 r := by simp [splitB]
      rw [c_eqT (by rfl), appL_ok (by simp; omega)]
      simp only [Option.bind_some]
      rw [computusref07_sec_c4_1_eq, hw, show (init ++ [p]).map PV.str ++ [PV.str []] = ((init ++ [p]) ++ [[]]).map PV.str by simp,
        c3_loop s hs r (i + 1) (init ++ [p]) [] hr (by simp; omega) (by simp), e1]
      congr 2
      cases hsp : splitB 58 r with
      | nil => exact absurd hsp (splitB_ne 58 r)
      | cons q qs => simp [glue]
    · have hne : ¬ (x.toNat : Int) = 58 := by
        intro h; apply hx; apply UInt8.toNat_inj.1; show x.toNat = 58; omega
      have hsub : subS s (i : Int) ((i + 1 : Nat) : Int) = some [x] := by
        unfold subS
        rw [decide_eq_true (by omega)]
        simp only [cond_true, Option.some.injEq]
        rw [Int.toNat_natCast, Int.toNat_natCast, h]
        have : (i + 1 - i) = 1 := by omega
        rw [this]; rfl
      have hcat : catS p [x] = some (p ++ [x]) := catS_ok (by simp; omega)
      rw [c_eqF hne, hlw, c_inT (by omega), Int.toNat_natCast, map_last]
      simp only [Option.bind_some, toS_str]
      rw [hw, hsub]
      simp only [Option.bind_some]
      rw [hcat]
      simp only [Option.bind_some]
      rw [c_inT (by omega), set_last]
      simp only [Option.bind_some]
      rw [computusref07_sec_c4_1_eq, hw, c3_loop s hs r (i + 1) init (p ++ [x]) hr (by omega) (by simp; omega)]
      have e2 : splitB 58 (x :: r) = match splitB 58 r with | p :: ps => (x :: p) :: ps | [] => [[x]] := by rw [splitB, if_neg hx] <;> cases splitB 58 r <;> rfl
      rw [e2]
      congr 2
      cases hsp : splitB 58 r with
      | nil => exact absurd hsp (splitB_ne 58 r)
      | cons q qs => simp [glue]

theorem c3_first (s : List UInt8) (hs : s.length ≤ 10000000000) : ∀ (r : List UInt8) (i : Nat) (p : List UInt8), s.drop i = r → p.length ≤ i → i ≤ s.length →
    computusref07_sec_c3 s (i : Int) [PV.str p] 1 = finS ((glue p (splitB 58 r)).map PV.str)
  | [], i, p, h, hp, hil => by
    have := drop_nil h
    rw [computusref07_sec_c3_eq, c_ltF (by omega)]
    simp only [splitB, glue, List.append_nil]
    have e0 : rdT tiStr [PV.str p] 0 0 = some (.str p) := rfl
    have e1 : (((([PV.str p] : List PV).length : Nat)) : Int) = 1 := rfl
    unfold finS
    simp only [List.map_cons, List.map_nil, e0, e1, Option.bind_some, toS_str]
    rw [c_inT (by omega), c_inT (by omega), rshortn_s p (by unfold Small; omega)]
    simp only [Option.bind_some, toI_int]
    rw [c_ltF (a := 3) (by omega), c_ltF (a := 3) (by omega), computusref07_sec_c11_eq, computusref07_sec_c11_1_eq, computusref07_sec_c13_eq, computusref07_sec_c13_1_eq, e1, c_ltF (a := 1) (by omega), c_ltF (a := 1) (by omega)]
  | x :: r, i, p, h, hp, hil => by
    obtain ⟨hi, hg, hr⟩ := drop_cons h
    have hcast : ((i + 1 : Nat) : Int) = (i : Int) + 1 := by omega
    have hw : IntKind.i64.wrap ((i : Int) + 1) = ((i + 1 : Nat) : Int) := by rw [w64 (by omega) (by omega), hcast]
    have hlw : IntKind.i64.wrap (((([PV.str p] : List PV).length : Nat) : Int) - 1) = 0 := by
      show IntKind.i64.wrap (1 - 1) = 0
      decide
    rw [computusref07_sec_c3_eq, c_ltT (by omega), atS_ok hg]
    simp only [Option.bind_some]
    by_cases hx : x = 58
    · subst hx
      have e1 : splitB 58 (58 :: r) = [] :: splitB 58 r := by simp [splitB]
      rw [c_eqT (by rfl), appL_ok (by simp)]
      simp only [Option.bind_some]
      rw [c_lenF (by simp), computusref07_sec_c4_1_eq, hw, show [PV.str p] ++ [PV.str []] = (([p] ++ [[]]).map PV.str) by simp,
        c3_loop s hs r (i + 1) [p] [] hr (by simp) (by simp), e1]
      congr 2
      cases hsp : splitB 58 r with
      | nil => exact absurd hsp (splitB_ne 58 r)
      | cons q qs => simp [glue]
    · have hne : ¬ (x.toNat : Int) = 58 := by
        intro h; apply hx; apply UInt8.toNat_inj.1; show x.toNat = 58; omega
      have hsub : subS s (i : Int) ((i + 1 : Nat) : Int) = some [x] := by
        unfold subS
        rw [decide_eq_true (by omega)]
        simp only [cond_true, Option.some.injEq]
        rw [Int.toNat_natCast, Int.toNat_natCast, h]
        have : (i + 1 - i) = 1 := by omega
        rw [this]; rfl
      have hcat : catS p [x] = some (p ++ [x]) := catS_ok (by simp; omega)
      have e0 : rdT tiStr [PV.str p] 0 0 = some (.str p) := rfl
      have est : stC [PV.str p] 0 0 [.str (p ++ [x])] = some [PV.str (p ++ [x])] := rfl
      rw [c_eqF hne, hlw, c_inT (by simp), show (0 : Int).toNat = 0 from rfl, e0]
      simp only [Option.bind_some, toS_str]
      rw [hw, hsub]
      simp only [Option.bind_some]
      rw [hcat]
      simp only [Option.bind_some]
      rw [c_inT (by simp), est]
      simp only [Option.bind_some]
      rw [computusref07_sec_c4_eq, hw, c3_first s hs r (i + 1) (p ++ [x]) hr (by simp; omega) (by omega)]
      have e2 : splitB 58 (x :: r) = match splitB 58 r with | p :: ps => (x :: p) :: ps | [] => [[x]] := by rw [splitB, if_neg hx] <;> cases splitB 58 r <;> rfl
      rw [e2]
      congr 2
      cases hsp : splitB 58 r with
      | nil => exact absurd hsp (splitB_ne 58 r)
      | cons q qs => simp [glue]

theorem rsec_s (s : List UInt8) (hs : s.length ≤ 10000000000) : computusref07_sec s = some (.int .i64 (secI (splitB 58 s))) := by
  have hparts := splitB_parts 58 s
  rw [computusref07_sec_eq]
  have := c3_first s hs s 0 [] rfl (by simp) (by omega)
  rw [show ((0 : Nat) : Int) = 0 from rfl] at this
  rw [this]
  have e : glue [] (splitB 58 s) = splitB 58 s := by
    cases hsp : splitB 58 s with
    | nil => exact absurd hsp (splitB_ne 58 s)
    | cons q qs => simp [glue]
  rw [e]
  exact fin_s _ (splitB_ne 58 s) (fun t ht => by have := hparts t ht; unfold Small; omega)
end Dv

/- Days, times, shifts of texts: the program and the reference answer alike. -/
namespace Dv
open Go

/-! ### times -/
def rightAt (sec k : Int) : Bool := leB 0 sec && (leB sec 86400 && (eqB k 119 || (eqB k 115 || eqB k 117)))
theorem atRight_s (sec k : Int) : when_At_right sec k = some (.bool (rightAt sec k)) := by
  rw [when_At_right_eq]; unfold rightAt
  cases leB 0 sec <;> cases leB sec 86400 <;> cases eqB k 119 <;> cases eqB k 115 <;> rfl
theorem refRightAt_s (sec k : Int) : computusref07_RightAt sec k = some (.bool (rightAt sec k)) := by
  rw [computusref07_RightAt_eq]; unfold rightAt
  cases leB 0 sec <;> cases leB sec 86400 <;> cases eqB k 119 <;> cases eqB k 115 <;> rfl

def badAt : PV := .tuple [.agg [.int .i64 0, .int .u8 0], .int .i64 21]
def goodAt (sec k : Int) : PV := .tuple [.agg [.int .i64 sec, .int .u8 k], .int .i64 0]

/-- A time of its text without the letter, and the letter. -/
def atV (s : List UInt8) (k : Int) : PV := bif rightAt (secI (splitB 58 s)) k then goodAt (secI (splitB 58 s)) k else badAt

theorem secI_ok {l : List (List UInt8)} (h : okSec l = true) : secI l = secN l := if_pos h
theorem secI_no {l : List (List UInt8)} (h : okSec l = false) : secI l = -1 := by unfold secI; rw [h]; rfl

theorem at_end {s x5 : List UInt8} {x6 : Nat} (hs : s.length ≤ 10000000000) (h : x5.length ≤ x6) (a b c k : Int) : when_ReadAt_c5 s a b c k x5 x6 = some (atV s k) := by
  rw [when_ReadAt_c5_eq, c_ltnF (by omega), wseconds_s s hs]
  simp only [Option.bind_some, tn0, tn1, toI_int, toB_bool]
  unfold atV
  cases hok : okSec (splitB 58 s) with
  | false =>
    rw [secI_no hok]
    have : rightAt (-1) k = false := rfl
    rw [this]; rfl
  | true =>
    rw [secI_ok hok, c_not, c_true, atRight_s]
    simp only [Option.bind_some, toB_bool]
    cases rightAt (secN (splitB 58 s)) k <;> rfl

/-- The letter that a time's text ends with; the text ahead of it. -/
def letK (c : UInt8) : Int := if c = 103 ∨ c = 122 then 117 else if c = 119 ∨ c = 115 ∨ c = 117 then c.toNat else 0
def readAtV (s : List UInt8) : PV :=
  bif eqS s [45] then goodAt 0 119 else
  match s.getLast? with
  | none => atV s 119
  | some c => if letK c = 0 then atV s 119 else atV s.dropLast (letK c)

theorem u8_eq {c : UInt8} {n : Nat} (hn : n < 256) : (c.toNat : Int) = (n : Int) ↔ c = UInt8.ofNat n := by
  constructor
  · intro h
    apply UInt8.toNat_inj.1
    rw [UInt8.toNat_ofNat']
    omega
  · rintro rfl
    rw [UInt8.toNat_ofNat']
    omega

theorem wrap8 (c : UInt8) : IntKind.u8.wrap (c.toNat : Int) = (c.toNat : Int) := by
  have := UInt8.toNat_lt c
  exact wu8 (by omega) (by omega)

theorem decodeN_cover (n b0 b1 b2 b3 : Nat) (hn : 1 ≤ n) : 1 ≤ (Lib.decodeN n b0 b1 b2 b3).2 ∧ (Lib.decodeN n b0 b1 b2 b3).2 ≤ n ∧ ((Lib.decodeN n b0 b1 b2 b3).2 = 1 ∨ ((Lib.decodeN n b0 b1 b2 b3).2 = 2 ∧ 128 ≤ b1) ∨ ((Lib.decodeN n b0 b1 b2 b3).2 = 3 ∧ 128 ≤ b2) ∨ ((Lib.decodeN n b0 b1 b2 b3).2 = 4 ∧ 128 ≤ b3)) := by
  unfold Lib.decodeN
  split
  · exact ⟨Nat.le_refl _, hn, .inl rfl⟩
  split
  · rename_i h; split
    · exact ⟨by show 1 ≤ 2; omega, by show 2 ≤ n; omega, .inr (.inl ⟨rfl, by omega⟩)⟩
    · exact ⟨Nat.le_refl _, hn, .inl rfl⟩
  split
  · rename_i h; split
    · exact ⟨by show 1 ≤ 3; omega, by show 3 ≤ n; omega, .inr (.inr (.inl ⟨rfl, by omega⟩))⟩
    · exact ⟨Nat.le_refl _, hn, .inl rfl⟩
  split
  · rename_i h; split
    · exact ⟨by show 1 ≤ 4; omega, by show 4 ≤ n; omega, .inr (.inr (.inr ⟨rfl, by omega⟩))⟩
    · exact ⟨Nat.le_refl _, hn, .inl rfl⟩
  · exact ⟨Nat.le_refl _, hn, .inl rfl⟩

/-- What a rune covers: bytes behind the first are none of ASCII. -/
theorem decR_cover {s : List UInt8} {i : Nat} (hi : i < s.length) : 1 ≤ (decR s i).2 ∧ i + (decR s i).2 ≤ s.length ∧ ((decR s i).2 = 1 ∨ 128 ≤ (s.getD (i + (decR s i).2 - 1) 0).toNat) := by
  have e : decR s i = Lib.decodeN (s.length - i) (s.getD i 0).toNat (s.getD (i + 1) 0).toNat (s.getD (i + 2) 0).toNat (s.getD (i + 3) 0).toNat := by
    unfold decR; exact Lib.decode_N ⟨s.toArray⟩ i
  have h := decodeN_cover (s.length - i) (s.getD i 0).toNat (s.getD (i + 1) 0).toNat (s.getD (i + 2) 0).toNat (s.getD (i + 3) 0).toNat (by omega)
  rw [← e] at h
  obtain ⟨h1, h2, h3⟩ := h
  refine ⟨h1, by omega, ?_⟩
  rcases h3 with h3 | ⟨h3, h4⟩ | ⟨h3, h4⟩ | ⟨h3, h4⟩
  · exact .inl h3
  · right; rw [h3]; exact h4
  · right; rw [h3]; exact h4
  · right; rw [h3]; exact h4

theorem letK_high {c : UInt8} (h : 128 ≤ c.toNat) : letK c = 0 := by
  unfold letK
  rw [if_neg, if_neg]
  · rintro (rfl | rfl | rfl) <;> simp at h
  · rintro (rfl | rfl) <;> simp at h

/-- The walk over the runes: at the last byte, if it is one of the letters, it is told. -/
theorem at_loop (s : List UInt8) (hs : s.length ≤ 10000000000) {x : UInt8} (hxg : s[s.length - 1]? = some x) : ∀ (n i : Nat) (a b c : Int), s.length - i ≤ n → i < s.length →
    (when_ReadAt_c5 s a b c 119 s i = if letK x = 0 then some (atV s 119) else some (atV s.dropLast (letK x)))
  | 0, i, a, b, c, h, hi => by omega
  | n + 1, i, a, b, c, h, hi => by
    have hg : s[i]? = some s[i] := List.getElem?_eq_getElem hi
    obtain ⟨c1, c2, c3⟩ := decR_cover hi
    have hlw : IntKind.i64.wrap (((s.length : Nat) : Int) - 1) = ((s.length : Nat) : Int) - 1 := w64 (by omega) (by omega)
    rw [when_ReadAt_c5_eq, c_ltnT hi, hlw]
    by_cases hearly : i < s.length - 1
    · rw [c_ltT (by omega)]
      by_cases hnext : i + (decR s i).2 < s.length
      · exact at_loop s hs hxg n (i + (decR s i).2) a b c (by omega) hnext
      · -- a rune of many bytes covers the last one: that is no letter
        rw [at_end hs (by omega)]
        have hx : 128 ≤ x.toNat := by
          rcases c3 with c3 | c3
          · omega
          · have e : i + (decR s i).2 - 1 = s.length - 1 := by omega
            rw [e, List.getD_eq_getElem?_getD, hxg] at c3
            exact c3
        rw [if_pos (letK_high hx)]
    · have hi' : i = s.length - 1 := by omega
      have hx : s[i]? = some x := by rw [hi']; exact hxg
      have hend : s.length ≤ i + (decR s i).2 := by omega
      have hdl : takeS s (i : Int) = some s.dropLast := by rw [takeS_n (by omega), hi', ← List.dropLast_eq_take]
      have hdlen : s.dropLast.length ≤ 10000000000 := by simp; omega
      have fin : ∀ k : Int, 0 ≤ k → k ≤ 255 → when_ReadAt_c15 s (i : Int) k a b c 119 s (i + (decR s i).2) = some (atV s.dropLast k) := by
        intro k h0 h1
        rw [when_ReadAt_c15_eq, hdl]
        simp only [Option.bind_some]
        rw [wu8 h0 h1, at_end hdlen hend]
      rw [c_ltF (by omega), when_ReadAt_c14_eq, when_ReadAt_c11_eq, fin 117 (by omega) (by omega), at_end hs hend]
      by_cases hc : x.toNat < 128
      · have hdr : (decR s i).1 = x.toNat := by rw [decR_low hx hc]
        rw [hdr, fin (x.toNat : Int) (by omega) (by omega)]
        have q103 : (x.toNat : Int) = 103 ↔ x = 103 := u8_eq (n := 103) (by omega)
        have q122 : (x.toNat : Int) = 122 ↔ x = 122 := u8_eq (n := 122) (by omega)
        have q119 : (x.toNat : Int) = 119 ↔ x = 119 := u8_eq (n := 119) (by omega)
        have q115 : (x.toNat : Int) = 115 ↔ x = 115 := u8_eq (n := 115) (by omega)
        have q117 : (x.toNat : Int) = 117 ↔ x = 117 := u8_eq (n := 117) (by omega)
        clear hx hg hdr hxg fin
        by_cases h1 : x = 103
        · subst h1; rfl
        by_cases h2 : x = 122
        · subst h2; rfl
        by_cases h3 : x = 119
        · subst h3; rfl
        by_cases h4 : x = 115
        · subst h4; rfl
        by_cases h5 : x = 117
        · subst h5; rfl
        have hz : letK x = 0 := by
          unfold letK
          rw [if_neg (by rintro (h | h); exact h1 h; exact h2 h), if_neg (by rintro (h | h | h); exact h3 h; exact h4 h; exact h5 h)]
        rw [c_eqF (fun h => h1 (q103.1 h)), c_eqF (fun h => h2 (q122.1 h)), c_eqF (fun h => h3 (q119.1 h)), c_eqF (fun h => h4 (q115.1 h)), c_eqF (fun h => h5 (q117.1 h)), if_pos hz]
      · have hdr := (decR_high hx (by omega)).1
        rw [c_eqF (by omega), c_eqF (by omega), c_eqF (by omega), c_eqF (by omega), c_eqF (by omega), if_pos (letK_high (by omega))]

theorem readAt_s (s : List UInt8) (hs : s.length ≤ 10000000000) : when_ReadAt s = some (readAtV s) := by
  rw [when_ReadAt_eq]
  unfold readAtV
  by_cases h : s = [45]
  · rw [c_eqsT h, c_eqsT h]; rfl
  · rw [c_eqsF h, c_eqsF h]
    by_cases hn : s = []
    · subst hn
      exact at_end (by simp) (by simp) _ _ _ _
    · have hl : 0 < s.length := List.length_pos_iff.2 hn
      have hxg : s[s.length - 1]? = some s[s.length - 1] := List.getElem?_eq_getElem (by omega)
      rw [at_loop s hs hxg s.length 0 _ _ _ (by omega) hl]
      have : s.getLast? = some s[s.length - 1] := by rw [List.getLast?_eq_getElem?]; exact hxg
      rw [this]
      simp only
      split <;> rfl

theorem rat_c11 (s : List UInt8) (hs : s.length ≤ 10000000000) (a b c k : Int) : computusref07_ReadAt_c11 s a b c k = some (atV s k) := by
  rw [computusref07_ReadAt_c11_eq, rsec_s s hs]
  simp only [Option.bind_some, toI_int]
  rw [refRightAt_s]
  simp only [Option.bind_some, toB_bool]
  unfold atV
  cases rightAt (secI (splitB 58 s)) k <;> rfl

theorem rreadAt_s (s : List UInt8) (hs : s.length ≤ 10000000000) : computusref07_ReadAt s = some (readAtV s) := by
  rw [computusref07_ReadAt_eq]
  unfold readAtV
  by_cases h : s = [45]
  · rw [c_eqsT h, c_eqsT h]; rfl
  · rw [c_eqsF h, c_eqsF h]
    by_cases hn : s = []
    · subst hn
      rw [c_ltF (by simp), computusref07_ReadAt_c9_eq, c_eqF (by omega), c_eqF (by omega), rat_c11 _ (by simp)]; rfl
    · have hl : 0 < s.length := List.length_pos_iff.2 hn
      have hxg : s[s.length - 1]? = some s[s.length - 1] := List.getElem?_eq_getElem (by omega)
      have : s.getLast? = some s[s.length - 1] := by rw [List.getLast?_eq_getElem?]; exact hxg
      rw [this]
      simp only
      generalize s[s.length - 1] = x at hxg this
      have hlw : IntKind.i64.wrap (((s.length : Nat) : Int) - 1) = ((s.length - 1 : Nat) : Int) := by rw [w64 (by omega) (by omega)]; omega
      have hdl : takeS s ((s.length - 1 : Nat) : Int) = some s.dropLast := by rw [takeS_n (by omega), ← List.dropLast_eq_take]
      have hdlen : s.dropLast.length ≤ 10000000000 := by simp; omega
      rw [c_ltT (by omega), hlw, atS_ok hxg]
      simp only [Option.bind_some, computusref07_ReadAt_c7_eq, hlw, hdl, computusref07_ReadAt_c9_eq, computusref07_ReadAt_c10_eq, rat_c11 _ hdlen, rat_c11 _ hs]
      have q103 : (x.toNat : Int) = 103 ↔ x = 103 := u8_eq (n := 103) (by omega)
      have q122 : (x.toNat : Int) = 122 ↔ x = 122 := u8_eq (n := 122) (by omega)
      have q119 : (x.toNat : Int) = 119 ↔ x = 119 := u8_eq (n := 119) (by omega)
      have q115 : (x.toNat : Int) = 115 ↔ x = 115 := u8_eq (n := 115) (by omega)
      have q117 : (x.toNat : Int) = 117 ↔ x = 117 := u8_eq (n := 117) (by omega)
      clear hxg this
      by_cases h1 : x = 103
      · subst h1; rfl
      by_cases h2 : x = 122
      · subst h2; rfl
      by_cases h3 : x = 119
      · subst h3; rfl
      by_cases h4 : x = 115
      · subst h4; rfl
      by_cases h5 : x = 117
      · subst h5; rfl
      have hz : letK x = 0 := by
        unfold letK
        rw [if_neg (by rintro (h | h); exact h1 h; exact h2 h), if_neg (by rintro (h | h | h); exact h3 h; exact h4 h; exact h5 h)]
      rw [c_eqF (fun h => h3 (q119.1 h)), c_eqF (fun h => h4 (q115.1 h)), c_eqF (fun h => h5 (q117.1 h)), c_eqF (fun h => h1 (q103.1 h)), c_eqF (fun h => h2 (q122.1 h)), c_eqF (by omega), c_eqF (by omega), if_pos hz]

/-! ### shifts -/
def badSave : PV := .tuple [.int .i64 0, .int .i64 21]
def goodSave (n : Int) : PV := .tuple [.int .i64 n, .int .i64 0]
def saveV (s : List UInt8) (neg : Bool) : PV := if secI (splitB 58 s) < 0 ∨ 86400 < secI (splitB 58 s) then badSave else goodSave (if neg then 0 - secI (splitB 58 s) else secI (splitB 58 s))
def readSaveV (s : List UInt8) : PV :=
  bif eqS s [45] then goodSave 0 else
  match s with
  | [] => saveV [] false
  | c :: r => if c = 45 then saveV r true else saveV (c :: r) false

theorem wsave_sec (s : List UInt8) (hs : s.length ≤ 10000000000) (neg : Bool) :
    ((when_seconds s).bind fun v33 => (bif (!(PV.toB (PV.tnth v33 1))) then (some (PV.tuple [(PV.int IntKind.i64 (0 : Int)), (PV.int IntKind.i64 (21 : Int))])) else (bif (ltB (86400 : Int) (PV.toI (PV.tnth v33 0))) then (some (PV.tuple [(PV.int IntKind.i64 (0 : Int)), (PV.int IntKind.i64 (21 : Int))])) else (when_ReadSave_c7 neg (PV.toI (PV.tnth v33 0)))))) = some (saveV s neg) := by
  rw [wseconds_s s hs]
  simp only [Option.bind_some, tn0, tn1, toI_int, toB_bool]
  unfold saveV
  cases hok : okSec (splitB 58 s) with
  | false => rw [secI_no hok, if_pos (.inl (by omega))]; rfl
  | true =>
    have hr := secN_range hok
    rw [secI_ok hok, c_not, c_true]
    by_cases h : 86400 < secN (splitB 58 s)
    · rw [c_ltT h, if_pos (.inr h)]; rfl
    · rw [c_ltF h, if_neg (by omega), when_ReadSave_c7_eq]
      cases neg with
      | true => rw [cond_true, w64 (by omega) (by omega)]; rfl
      | false => rfl

theorem readSave_s (s : List UInt8) (hs : s.length ≤ 10000000000) : when_ReadSave s = some (readSaveV s) := by
  rw [when_ReadSave_eq]
  unfold readSaveV
  by_cases h : s = [45]
  · rw [c_eqsT h, c_eqsT h]; rfl
  · rw [c_eqsF h, c_eqsF h, strings_CutPrefix_eq, stringslite_CutPrefix_eq, stringslite_HasPrefix_eq]
    have e1 : (((List.length [(45 : UInt8)] : Nat)) : Int) = 1 := rfl
    rw [e1]
    cases s with
    | nil =>
      rw [c_leF (by simp)]
      simp only [Option.bind_some, toB_bool]
      rw [show (!false) = true from rfl, c_true]
      simp only [Option.bind_some, tn0, tn1, toS_str, toB_bool]
      exact wsave_sec [] (by simp) false
    | cons c r =>
      rw [c_leT (by simp only [List.length_cons]; omega), takeS_ok (by omega) (by simp only [List.length_cons]; omega), dropS_ok (by omega) (by simp only [List.length_cons]; omega)]
      have e2 : List.take (1 : Int).toNat (c :: r) = [c] := rfl
      have e3 : List.drop (1 : Int).toNat (c :: r) = r := rfl
      rw [e2, e3]
      simp only [Option.bind_some, toB_bool]
      by_cases hc : c = 45
      · subst hc
        rw [c_not, c_eqsT rfl, if_pos rfl]
        simp only [Option.bind_some, tn0, tn1, toS_str, toB_bool]
        exact wsave_sec r (by simp at hs; omega) true
      · rw [c_not, c_eqsF (by simpa using hc), if_neg hc]
        simp only [Option.bind_some, tn0, tn1, toS_str, toB_bool]
        exact wsave_sec (c :: r) hs false

theorem rsave_c6 (s : List UInt8) (hs : s.length ≤ 10000000000) (neg : Bool) : computusref07_ReadSave_c6 s neg = some (saveV s neg) := by
  rw [computusref07_ReadSave_c6_eq, rsec_s s hs, computusref07_ReadSave_c8_eq]
  simp only [Option.bind_some, toI_int]
  unfold saveV
  have hlo : -1 ≤ secI (splitB 58 s) ∧ secI (splitB 58 s) ≤ 400000 := by
    cases hok : okSec (splitB 58 s) with
    | false => rw [secI_no hok]; omega
    | true => have := secN_range hok; rw [secI_ok hok]; omega
  by_cases h1 : secI (splitB 58 s) < 0
  · rw [c_ltT h1, if_pos (.inl h1)]; rfl
  · rw [c_ltF h1]
    by_cases h2 : 86400 < secI (splitB 58 s)
    · rw [c_ltT h2, if_pos (.inr h2)]; rfl
    · rw [c_ltF h2, if_neg (by omega)]
      cases neg with
      | true => rw [cond_true, w64 (by omega) (by omega)]; rfl
      | false => rfl

theorem rreadSave_s (s : List UInt8) (hs : s.length ≤ 10000000000) : computusref07_ReadSave s = some (readSaveV s) := by
  rw [computusref07_ReadSave_eq]
  unfold readSaveV
  by_cases h : s = [45]
  · rw [c_eqsT h, c_eqsT h]; rfl
  · rw [c_eqsF h, c_eqsF h]
    cases s with
    | nil => rw [c_ltF (by simp), computusref07_ReadSave_c4_eq, cond_false, rsave_c6 _ hs]
    | cons c r =>
      rw [c_ltT (by simp only [List.length_cons]; omega), atS_z (c := c) rfl]
      simp only [Option.bind_some]
      rw [computusref07_ReadSave_c4_eq]
      by_cases hc : c = 45
      · subst hc
        rw [c_eqT (by rfl), dropS_ok (by omega) (by simp only [List.length_cons]; omega), if_pos rfl]
        have e3 : List.drop (1 : Int).toNat ((45 : UInt8) :: r) = r := rfl
        rw [e3]
        simp only [Option.bind_some]
        have : eqB (((45 : UInt8).toNat : Nat) : Int) 45 = true := rfl
        rw [this]
        exact rsave_c6 r (by simp at hs; omega) true
      · have hne : ¬ (c.toNat : Int) = 45 := fun h => hc ((u8_eq (n := 45) (by omega)).1 h)
        have : eqB (c.toNat : Int) 45 = false := decide_eq_false hne
        rw [this, cond_false, if_neg hc]
        exact rsave_c6 _ hs false
end Dv

/- Days of texts: the program and the reference answer alike. -/
namespace Dv
open Go

def badOn : PV := .tuple [.agg [.int .i64 0, .int .i64 0, .int .i64 0], .int .i64 21]
def goodOn (k wd n : Int) : PV := .tuple [.agg [.int .i64 k, .int .i64 wd, .int .i64 n], .int .i64 0]
def resOn (ok : Bool) (k wd n : Int) : PV := bif ok then goodOn k wd n else badOn

def wdN (wd : List UInt8) : Int := if wd = [] then 0 else shortI wd dayNames
def dnN (n : List UInt8) : Int := if n = [] then 0 else numN n
def dnOk (n : List UInt8) : Bool := if n = [] then true else okSh n

theorem onOf_s (k : Int) (wd n : List UInt8) (hw : Small wd) (hn : Small n) :
    when_onOf k wd n = some (.tuple [.agg [.int .i64 k, .int .i64 (wdN wd), .int .i64 (dnN n)], .bool (dnOk n && rightV k (wdN wd) (dnN n))]) := by
  have c5 : ∀ (x2 x3 x4 w : Int), when_onOf_c5 n true x2 x3 x4 k w 0 = some (.tuple [.agg [.int .i64 k, .int .i64 w, .int .i64 (dnN n)], .bool (dnOk n && rightV k w (dnN n))]) := by
    intro x2 x3 x4 w
    rw [when_onOf_c5_eq, c_not]
    unfold dnN dnOk
    by_cases h : n = []
    · rw [c_eqsT h, if_pos h, if_pos h, c_true, form_s]
      simp only [Option.bind_some, form_nil, Bool.not_not, Bool.true_and]
    · rw [c_eqsF h, if_neg h, if_neg h, wshortn_s n hn]
      simp only [Option.bind_some, tn0, tn1, toB_bool, toI_int]
      cases okSh n with
      | true => rw [c_true, form_s]; simp only [Option.bind_some, form_nil, Bool.not_not, Bool.true_and]
      | false => rfl
  rw [when_onOf_eq, c_not, c5]
  by_cases h : wd = []
  · rw [c_eqsT h]; unfold wdN; rw [if_pos h]
  · rw [c_eqsF h, wday_s wd hw]
    simp only [Option.bind_some, toI_int]
    rw [c5]; unfold wdN; rw [if_neg h]

theorem res_fin (k wd n : Int) (ok : Bool) : (bif (!(PV.toB (PV.tnth (.tuple [.agg [.int .i64 k, .int .i64 wd, .int .i64 n], .bool ok]) 1))) then (some (PV.tuple [(PV.agg [(PV.int IntKind.i64 (0 : Int)), (PV.int IntKind.i64 (0 : Int)), (PV.int IntKind.i64 (0 : Int))]), (PV.int IntKind.i64 (21 : Int))])) else
    (some (PV.tuple [(PV.agg [(PV.int IntKind.i64 (PV.toI (PV.nth (PV.tnth (.tuple [.agg [.int .i64 k, .int .i64 wd, .int .i64 n], .bool ok]) 0) 0))), (PV.int IntKind.i64 (PV.toI (PV.nth (PV.tnth (.tuple [.agg [.int .i64 k, .int .i64 wd, .int .i64 n], .bool ok]) 0) 1))), (PV.int IntKind.i64 (PV.toI (PV.nth (PV.tnth (.tuple [.agg [.int .i64 k, .int .i64 wd, .int .i64 n], .bool ok]) 0) 2)))]), (PV.int IntKind.i64 (0 : Int))]))) = some (resOn ok k wd n) := by
  cases ok <;> rfl

/-- A weekday and a day, neither empty. -/
def pairOn (k : Int) (wd n : List UInt8) : PV := resOn (rightV k (shortI wd dayNames) (shortN n)) k (shortI wd dayNames) (shortN n)

theorem right_wd {k wd n : Int} (h : wd < 0) : rightV k wd n = true → (k = 0 ∧ wd = 0) := by
  intro hr
  rcases right_cases hr with h1 | h1 | h1 <;> omega
theorem right_no_wd {k wd n : Int} (h : wd < 0) : rightV k wd n = false := by
  cases hr : rightV k wd n with
  | false => rfl
  | true => have := right_wd h hr; omega
theorem right_no_n {k wd n : Int} (hk : k = 0 ∨ k = 2 ∨ k = 3) (h : n < 1) : rightV k wd n = false := by
  cases hr : rightV k wd n with
  | false => rfl
  | true => rcases right_cases hr with h1 | h1 | h1 <;> omega

theorem pair_fin {k : Int} (hk : k = 2 ∨ k = 3) (wd n : List UInt8) (hw : Small wd) (hn : Small n) :
    ((when_pair k wd n).bind fun v21 => (bif (!(PV.toB (PV.tnth v21 1))) then (some (PV.tuple [(PV.agg [(PV.int IntKind.i64 (0 : Int)), (PV.int IntKind.i64 (0 : Int)), (PV.int IntKind.i64 (0 : Int))]), (PV.int IntKind.i64 (21 : Int))])) else
    (some (PV.tuple [(PV.agg [(PV.int IntKind.i64 (PV.toI (PV.nth (PV.tnth v21 0) 0))), (PV.int IntKind.i64 (PV.toI (PV.nth (PV.tnth v21 0) 1))), (PV.int IntKind.i64 (PV.toI (PV.nth (PV.tnth v21 0) 2)))]), (PV.int IntKind.i64 (0 : Int))])))) = some (pairOn k wd n) := by
  rw [when_pair_eq]
  unfold pairOn
  by_cases h1 : wd = []
  · rw [c_eqsT h1]
    simp only [Option.bind_some]
    have : rightV k (shortI wd dayNames) (shortN n) = false := right_no_wd (by rw [h1]; decide)
    rw [this]; rfl
  · rw [c_eqsF h1]
    by_cases h2 : n = []
    · rw [c_eqsT h2]
      simp only [Option.bind_some]
      have : rightV k (shortI wd dayNames) (shortN n) = false := right_no_n (.inr hk) (by rw [h2]; decide)
      rw [this]; rfl
    · rw [c_eqsF h2, onOf_s k wd n hw hn]
      simp only [Option.bind_some, tn0, tn1, toB_bool, toI_int, ag0, ag1, ag2]
      have e1 : wdN wd = shortI wd dayNames := if_neg h1
      have e2 : dnN n = numN n := if_neg h2
      have e3 : dnOk n = okSh n := if_neg h2
      rw [e1, e2, e3]
      cases hok : okSh n with
      | true => rw [shortN_ok hok]; cases rightV k (shortI wd dayNames) (numN n) <;> rfl
      | false =>
        have hz : rightV k (shortI wd dayNames) (-1) = false := right_no_n (.inr hk) (by omega)
        rw [shortN_no hok, hz]; rfl

def lastB : List UInt8 := [108, 97, 115, 116]
/-- Is the byte ahead of the first sign of equality this one? -/
def aheadB (s : List UInt8) (c : UInt8) : Bool := decide (0 < Lib.indexByte s 61) && decide (s[(Lib.indexByte s 61 - 1).toNat]? = some c)
def lastAt (s : List UInt8) : Bool := decide (4 < s.length) && sameB (s.take 4) lastB

def readOnV (s : List UInt8) : PV :=
  bif lastAt s then resOn (rightV 1 (shortI (s.drop 4) dayNames) 0) 1 (shortI (s.drop 4) dayNames) 0 else
  bif aheadB s 62 then pairOn 2 (s.take (Lib.indexByte s 61 - 1).toNat) (s.drop (Lib.indexByte s 61 + 1).toNat) else
  bif aheadB s 60 then pairOn 3 (s.take (Lib.indexByte s 61 - 1).toNat) (s.drop (Lib.indexByte s 61 + 1).toNat) else
  resOn (rightV 0 0 (shortN s)) 0 0 (shortN s)

theorem readOn_s (s : List UInt8) (hs : s.length ≤ 10000000000) : when_ReadOn s = some (readOnV s) := by
  have hsm : Small s := by unfold Small; omega
  have hge := Lib.indexByte_ge s 61
  have hlt := indexByte_lt s 61
  have plain : ∀ a b c d e f, when_ReadOn_c10 s a b c d e f = some (resOn (rightV 0 0 (shortN s)) 0 0 (shortN s)) := by
    intro a b c d e f
    rw [when_ReadOn_c10_eq, onOf_s 0 [] s (by simp [Small]) hsm]
    simp only [Option.bind_some]
    rw [res_fin]
    have e1 : wdN [] = 0 := rfl
    rw [e1]
    by_cases h : s = []
    · subst h; rfl
    · have e2 : dnN s = numN s := if_neg h
      have e3 : dnOk s = okSh s := if_neg h
      rw [e2, e3]
      cases hok : okSh s with
      | true => rw [shortN_ok hok, Bool.true_and]
      | false => rw [shortN_no hok, Bool.false_and, right_no_n (.inl rfl) (by omega)]; rfl
  have c5 : ∀ a b c d e f, when_ReadOn_c5 s a b c d e f = some (bif aheadB s 62 then pairOn 2 (s.take (Lib.indexByte s 61 - 1).toNat) (s.drop (Lib.indexByte s 61 + 1).toNat) else
      bif aheadB s 60 then pairOn 3 (s.take (Lib.indexByte s 61 - 1).toNat) (s.drop (Lib.indexByte s 61 + 1).toNat) else resOn (rightV 0 0 (shortN s)) 0 0 (shortN s)) := by
    intro a b c d e f
    rw [when_ReadOn_c5_eq, show (61 : Int) = (((61 : UInt8).toNat : Nat) : Int) from rfl, indexByte_s]
    simp only [Option.bind_some, toI_int]
    unfold aheadB
    generalize hk : Lib.indexByte s 61 = k at *
    by_cases hpos : 0 < k
    · obtain ⟨m, rfl⟩ : ∃ m : Nat, k = (m : Int) + 1 := ⟨(k - 1).toNat, by omega⟩
      have hm : m < s.length := by omega
      have hg : s[m]? = some s[m] := List.getElem?_eq_getElem hm
      have e0 : IntKind.i64.wrap ((m : Int) + 1 - 1) = (m : Int) := by rw [w64 (by omega) (by omega)]; omega
      have e1 : ((m : Int) + 1 - 1).toNat = m := by omega
      have e2 : IntKind.i64.wrap ((m : Int) + 1 + 1) = ((m + 2 : Nat) : Int) := by rw [w64 (by omega) (by omega)]; omega
      have e3 : ((m : Int) + 1 + 1).toNat = m + 2 := by omega
      have hd : dropS s ((m + 2 : Nat) : Int) = some (s.drop (m + 2)) := dropS_n (by omega)
      have ht : takeS s (m : Int) = some (s.take m) := takeS_n (by omega)
      have q62 : ((s[m]).toNat : Int) = 62 ↔ s[m] = 62 := u8_eq (n := 62) (by omega)
      have q60 : ((s[m]).toNat : Int) = 60 ↔ s[m] = 60 := u8_eq (n := 60) (by omega)
      have hsd : Small (s.drop (m + 2)) := by unfold Small; simp; omega
      have hst : Small (s.take m) := by unfold Small; simp; omega
      rw [c_ltT (by omega), e0, atS_ok hg, e1, e3, hg, decide_eq_true (by omega : (0 : Int) < (m : Int) + 1)]
      simp only [Option.bind_some, Bool.true_and, Option.some.injEq]
      by_cases h62 : s[m] = 62
      · rw [c_eqT (q62.2 h62), when_ReadOn_c7_eq, e0, e2, ht]
        simp only [Option.bind_some]
        rw [hd]
        simp only [Option.bind_some]
        rw [pair_fin (.inl rfl) _ _ hst hsd, decide_eq_true h62, cond_true]
      · rw [c_eqF (fun h => h62 (q62.1 h)), decide_eq_false h62, cond_false, when_ReadOn_c8_eq, c_ltT (by omega), e0, atS_ok hg]
        simp only [Option.bind_some]
        by_cases h60 : s[m] = 60
        · rw [c_eqT (q60.2 h60), when_ReadOn_c9_eq, e0, e2, ht]
          simp only [Option.bind_some]
          rw [hd]
          simp only [Option.bind_some]
          rw [pair_fin (.inr rfl) _ _ hst hsd, decide_eq_true h60, cond_true]
        · rw [c_eqF (fun h => h60 (q60.1 h)), decide_eq_false h60, cond_false, plain]
    · rw [c_ltF hpos, when_ReadOn_c8_eq, c_ltF hpos, plain, decide_eq_false hpos]
      simp
  rw [when_ReadOn_eq, c5]
  unfold readOnV lastAt
  by_cases hl : 4 < s.length
  · rw [c_ltT (by omega), decide_eq_true hl, takeS_ok (by omega) (by omega), Bool.true_and]
    simp only [Option.bind_some]
    have e4 : (4 : Int).toNat = 4 := rfl
    have hst : Small (s.take 4) := by unfold Small; simp; omega
    rw [e4, wsame_s _ _ hst (by simp [Small])]
    simp only [Option.bind_some, toB_bool]
    unfold lastB
    cases sameB (s.take 4) [108, 97, 115, 116] with
    | false => rfl
    | true =>
      simp only [cond_true]
      have hsd : Small (s.drop 4) := by unfold Small; simp; omega
      rw [when_ReadOn_c4_eq, dropS_ok (by omega) (by omega), e4]
      simp only [Option.bind_some]
      rw [onOf_s 1 _ [] hsd (by simp [Small])]
      simp only [Option.bind_some]
      rw [res_fin]
      have hne : s.drop 4 ≠ [] := by intro h; have := congrArg List.length h; simp at this; omega
      have e1 : wdN (s.drop 4) = shortI (s.drop 4) dayNames := if_neg hne
      rw [e1]
      rfl
  · rw [c_ltF (by omega), decide_eq_false hl]
    rfl

/-! ### the reference -/
theorem c13_s (a b c k wd n : Int) : computusref07_ReadOn_c13 a b c k wd n = some (resOn (rightV k wd n) k wd n) := by
  rw [computusref07_ReadOn_c13_eq, right_s]
  simp only [Option.bind_some, toB_bool]
  cases rightV k wd n <;> rfl

theorem low61 : lowB 61 = 61 := by decide

theorem day_has61 {t : List UInt8} (h : 61 ∈ t) : shortI t dayNames = -1 := by
  have hb : ∀ nm ∈ dayNames, begB t nm = false := by
    intro nm hnm
    cases hbg : begB t nm with
    | false => rfl
    | true =>
      exfalso
      unfold begB at hbg
      simp only [Bool.and_eq_true] at hbg
      have he : lowS t = lowS (nm.take t.length) := of_decide_eq_true hbg.2
      have h1 : (61 : UInt8) ∈ lowS t := by
        unfold lowS
        exact List.mem_map.2 ⟨61, h, low61⟩
      rw [he] at h1
      obtain ⟨y, hy, hy2⟩ := List.mem_map.1 h1
      have hy := List.mem_of_mem_take hy
      have hall : ∀ nm ∈ dayNames, ∀ y ∈ nm, lowB y ≠ 61 := by decide
      exact hall nm hnm y hy hy2
  unfold shortI
  split
  · rfl
  · have : ∀ (l : List (List UInt8)) (i : Nat), (∀ nm ∈ l, begB t nm = false) → findI t i l = -1 := by
      intro l
      induction l with
      | nil => intro i _; rfl
      | cons x l ih =>
        intro i hx
        unfold findI
        rw [hx x (by simp), cond_false]
        exact ih _ (fun nm hnm => hx nm (by simp [hnm]))
    exact this _ _ hb

theorem dig61 : digB 61 = false := by decide

/-- What the search of the reference answers where it meets the sign. -/
theorem ron_hit {s : List UInt8} (hs : s.length ≤ 10000000000) {i : Nat} (h1 : s[i + 1]? = some 61) {c : UInt8} (hc : s[i]? = some c) (hcc : c = 62 ∨ c = 60) (a b cc d e f : Int) :
    computusref07_ReadOn_c7 s (i : Int) a b cc d e f = some (pairOn (if c = 60 then 3 else 2) (s.take i) (s.drop (i + 2))) := by
  have hi : i + 1 < s.length := (List.getElem?_eq_some_iff.1 h1).1
  have hw : IntKind.i64.wrap ((i : Int) + 1) = ((i + 1 : Nat) : Int) := by rw [w64 (by omega) (by omega)]; omega
  have hw2 : IntKind.i64.wrap ((i : Int) + 2) = ((i + 2 : Nat) : Int) := by rw [w64 (by omega) (by omega)]; omega
  have e61 : (((61 : UInt8).toNat : Nat) : Int) = 61 := rfl
  have q62 : (c.toNat : Int) = 62 ↔ c = 62 := u8_eq (n := 62) (by omega)
  have q60 : (c.toNat : Int) = 60 ↔ c = 60 := u8_eq (n := 60) (by omega)
  have c10 : computusref07_ReadOn_c10 s (i : Int) a b cc d e f = some (pairOn (if c = 60 then 3 else 2) (s.take i) (s.drop (i + 2))) := by
    rw [computusref07_ReadOn_c10_eq, hw2, takeS_n (by omega), dropS_n (by omega)]
    simp only [Option.bind_some]
    rw [rday05_s _ (by unfold Small; simp; omega), rshortn_s _ (by unfold Small; simp; omega), atS_ok hc]
    simp only [Option.bind_some, toI_int, c13_s]
    by_cases h60 : c = 60
    · rw [c_eqT (q60.2 h60), if_pos h60]; rfl
    · rw [c_eqF (fun h => h60 (q60.1 h)), if_neg h60]; rfl
  rw [computusref07_ReadOn_c7_eq, hw, c_ltT (by omega), atS_ok h1]
  simp only [Option.bind_some]
  rw [e61, c_eqT rfl, atS_ok hc]
  simp only [Option.bind_some]
  rw [c10]
  rcases hcc with rfl | rfl
  · rw [c_eqT (by rfl)]
  · rw [c_eqF (by decide), c_eqT (by rfl)]

theorem ron_next {s : List UInt8} (hs : s.length ≤ 10000000000) {i : Nat} (hi : i + 1 < s.length) (hno : ¬ (s[i + 1]? = some 61 ∧ (s[i]? = some 62 ∨ s[i]? = some 60))) (a b cc d e f : Int) :
    computusref07_ReadOn_c7 s (i : Int) a b cc d e f = computusref07_ReadOn_c7 s ((i + 1 : Nat) : Int) a b cc d e f := by
  have hw : IntKind.i64.wrap ((i : Int) + 1) = ((i + 1 : Nat) : Int) := by rw [w64 (by omega) (by omega)]; omega
  have hg1 : s[i + 1]? = some s[i + 1] := List.getElem?_eq_getElem hi
  have hg0 : s[i]? = some s[i] := List.getElem?_eq_getElem (by omega)
  rw [computusref07_ReadOn_c7_eq, hw, c_ltT (by omega), atS_ok hg1]
  simp only [Option.bind_some]
  have q61 : ((s[i + 1]).toNat : Int) = 61 ↔ s[i + 1] = 61 := u8_eq (n := 61) (by omega)
  have q62 : ((s[i]).toNat : Int) = 62 ↔ s[i] = 62 := u8_eq (n := 62) (by omega)
  have q60 : ((s[i]).toNat : Int) = 60 ↔ s[i] = 60 := u8_eq (n := 60) (by omega)
  by_cases h61 : s[i + 1] = 61
  · rw [c_eqT (q61.2 h61), atS_ok hg0]
    simp only [Option.bind_some]
    rw [c_eqF (fun h => hno ⟨by rw [hg1, h61], .inl (by rw [hg0, q62.1 h])⟩), c_eqF (fun h => hno ⟨by rw [hg1, h61], .inr (by rw [hg0, q60.1 h])⟩), computusref07_ReadOn_c8_eq, hw]
  · rw [c_eqF (fun h => h61 (q61.1 h)), computusref07_ReadOn_c8_eq, hw]

theorem resOn_bad {k wd n : Int} (h : rightV k wd n = false) : resOn (rightV k wd n) k wd n = badOn := by rw [h]; rfl

/-- Where no such sign is met first, the search ends without an answer. -/
theorem ron_none {s : List UInt8} (hs : s.length ≤ 10000000000) (hbad : ∀ i c, s[i + 1]? = some 61 → s[i]? = some c → c = 62 ∨ c = 60 → 61 ∈ s.take i) (a b cc : Int) : ∀ (n i : Nat), s.length - i ≤ n → i ≤ s.length →
    computusref07_ReadOn_c7 s (i : Int) a b cc (-1) 0 0 = some badOn
  | n, i, h, hil => by
    by_cases hi : i + 1 < s.length
    · by_cases hhit : s[i + 1]? = some 61 ∧ (s[i]? = some 62 ∨ s[i]? = some 60)
      · obtain ⟨h1, h2⟩ := hhit
        obtain ⟨c, hc, hcc⟩ : ∃ c, s[i]? = some c ∧ (c = 62 ∨ c = 60) := by
          rcases h2 with h2 | h2
          · exact ⟨_, h2, .inl rfl⟩
          · exact ⟨_, h2, .inr rfl⟩
        rw [ron_hit hs h1 hc hcc]
        unfold pairOn
        rw [resOn_bad]
        apply right_no_wd
        rw [day_has61 (hbad i c h1 hc hcc)]; decide
      · cases n with
        | zero => omega
        | succ n =>
          rw [ron_next hs hi hhit]
          exact ron_none hs hbad a b cc n (i + 1) (by omega) (by omega)
    · rw [computusref07_ReadOn_c7_eq, w64 (by omega) (by omega), c_ltF (by omega), c13_s, resOn_bad]
      decide

/-- Up to the first sign, the search goes on. -/
theorem ron_skip {s : List UInt8} (hs : s.length ≤ 10000000000) {m : Nat} (hm : m + 1 < s.length) (hno : ∀ j, j ≤ m → s[j]? ≠ some 61) (a b cc d e f : Int) : ∀ (n i : Nat), i + n = m →
    computusref07_ReadOn_c7 s (i : Int) a b cc d e f = computusref07_ReadOn_c7 s (m : Int) a b cc d e f
  | 0, i, h => by rw [show i = m by omega]
  | n + 1, i, h => by
    rw [ron_next hs (by omega) (fun hh => hno (i + 1) (by omega) hh.1)]
    exact ron_skip hs hm hno a b cc d e f n (i + 1) (by omega)

theorem rreadOn_s (s : List UInt8) (hs : s.length ≤ 10000000000) : computusref07_ReadOn s = some (readOnV s) := by
  have hsm : Small s := by unfold Small; omega
  have hge := Lib.indexByte_ge s 61
  have hlt := indexByte_lt s 61
  have hrng := shortN_range s
  rw [computusref07_ReadOn_eq, rshortn_s s hsm]
  simp only [Option.bind_some, toI_int]
  -- a number, or a search
  have plain : shortN s < 0 → resOn (rightV 0 0 (shortN s)) 0 0 (shortN s) = badOn := fun h => resOn_bad (right_no_n (.inl rfl) (by omega))
  have c6 : shortN s < 0 → ∀ a b c, computusref07_ReadOn_c6 s a b c (-1) 0 0 = some (bif aheadB s 62 then pairOn 2 (s.take (Lib.indexByte s 61 - 1).toNat) (s.drop (Lib.indexByte s 61 + 1).toNat) else
      bif aheadB s 60 then pairOn 3 (s.take (Lib.indexByte s 61 - 1).toNat) (s.drop (Lib.indexByte s 61 + 1).toNat) else resOn (rightV 0 0 (shortN s)) 0 0 (shortN s)) := by
    intro hneg a b c
    rw [computusref07_ReadOn_c6_eq, plain hneg]
    -- the first sign, if there is one
    have none_case : (∀ c, Lib.indexByte s 61 = c → ∀ m : Nat, c = m → ¬ (0 < m ∧ (s[m - 1]? = some 62 ∨ s[m - 1]? = some 60))) → ∀ a b c, computusref07_ReadOn_c7 s 0 a b c (-1) 0 0 = some badOn := by
      intro hno a b c
      refine ron_none hs ?_ a b c s.length 0 (by omega) (by omega)
      intro i x h1 h2 h3
      rcases Int.lt_or_le (Lib.indexByte s 61) 0 with hk | hk
      · exact absurd h1 (Lib.indexByte_none (by omega) (i + 1))
      · obtain ⟨m, hm⟩ := Int.eq_ofNat_of_zero_le hk
        obtain ⟨hm1, hm2⟩ := Lib.indexByte_some hm
        have hle : m ≤ i + 1 := by
          rcases Nat.lt_or_ge (i + 1) m with h' | h'
          · exact absurd h1 (hm2 (i + 1) h')
          · exact h'
        have hne : m ≠ i + 1 := by
          intro he
          refine hno _ rfl m hm ⟨by omega, ?_⟩
          rw [he, Nat.add_sub_cancel, h2]
          rcases h3 with rfl | rfl
          · exact .inl rfl
          · exact .inr rfl
        have hmi : m < i ∨ m = i := by omega
        rcases hmi with hmi | hmi
        · exact List.mem_of_getElem? (show (s.take i)[m]? = some 61 by rw [List.getElem?_take_of_lt hmi]; exact hm1)
        · subst hmi
          rw [hm1] at h2
          simp only [Option.some.injEq] at h2
          subst h2
          rcases h3 with h3 | h3 <;> cases h3
    unfold aheadB
    by_cases hpos : 0 < Lib.indexByte s 61
    · obtain ⟨k, hk⟩ := Int.eq_ofNat_of_zero_le (show 0 ≤ Lib.indexByte s 61 by omega)
      obtain ⟨m, rfl⟩ : ∃ m, k = m + 1 := ⟨k - 1, by omega⟩
      obtain ⟨hk1, hk2⟩ := Lib.indexByte_some hk
      have hml : m + 1 < s.length := by omega
      have hg : s[m]? = some s[m] := List.getElem?_eq_getElem (by omega)
      have e1 : (Lib.indexByte s 61 - 1).toNat = m := by omega
      have e3 : (Lib.indexByte s 61 + 1).toNat = m + 2 := by omega
      have hskip := ron_skip hs hml (fun j hj => hk2 j (by omega)) a b c (-1) 0 0 m 0 (by omega)
      rw [show ((0 : Nat) : Int) = 0 from rfl] at hskip
      rw [decide_eq_true hpos, e1, e3, hg]
      simp only [Bool.true_and, Option.some.injEq]
      by_cases h62 : s[m] = 62
      · rw [decide_eq_true h62, cond_true, hskip, ron_hit hs hk1 hg (.inl h62), if_neg (by rw [h62]; decide)]
      · rw [decide_eq_false h62, cond_false]
        by_cases h60 : s[m] = 60
        · rw [decide_eq_true h60, cond_true, hskip, ron_hit hs hk1 hg (.inr h60), if_pos h60]
        · rw [decide_eq_false h60, cond_false]
          apply none_case
          intro c hc m' hm'
          have : m' = m + 1 := by omega
          subst this
          rw [Nat.add_sub_cancel, hg]
          rintro ⟨_, h | h⟩
          · exact h62 (Option.some.inj h)
          · exact h60 (Option.some.inj h)
    · rw [decide_eq_false hpos]
      simp only [Bool.false_and, cond_false]
      apply none_case
      intro c hc m' hm'
      omega
  unfold readOnV lastAt
  by_cases hneg : shortN s < 0
  · rw [c_ltT hneg, c6 hneg]
    by_cases hl : 4 < s.length
    · rw [c_ltT (by omega), decide_eq_true hl, takeS_ok (by omega) (by omega), Bool.true_and]
      simp only [Option.bind_some]
      have e4 : (4 : Int).toNat = 4 := rfl
      have hst : Small (s.take 4) := by unfold Small; simp; omega
      rw [e4, rsame_s _ _ hst (by simp [Small])]
      simp only [Option.bind_some, toB_bool]
      unfold lastB
      cases sameB (s.take 4) [108, 97, 115, 116] with
      | false => rfl
      | true =>
        simp only [cond_true]
        rw [computusref07_ReadOn_c5_eq, dropS_ok (by omega) (by omega), e4]
        simp only [Option.bind_some]
        rw [rday05_s _ (by unfold Small; simp; omega)]
        simp only [Option.bind_some, toI_int, c13_s]
    · rw [c_ltF (by omega), decide_eq_false hl]
      rfl
  · have hok : okSh s = true := by
      cases h : okSh s with
      | true => rfl
      | false => rw [shortN_no h] at hneg; omega
    have hlen : s.length ≤ 2 := by
      unfold okSh at hok
      simp only [Bool.and_eq_true] at hok
      have := of_decide_eq_true hok.2
      omega
    have hno61 : Lib.indexByte s 61 = -1 := by
      rcases Int.lt_or_le (Lib.indexByte s 61) 0 with h | h
      · omega
      · obtain ⟨m, hm⟩ := Int.eq_ofNat_of_zero_le h
        have := (Lib.indexByte_some hm).1
        have := okSh_has dig61 (List.mem_of_getElem? this)
        rw [hok] at this; cases this
    rw [c_ltF hneg, c13_s, decide_eq_false (by omega)]
    unfold aheadB
    rw [hno61, decide_eq_false (by omega)]
    rfl
end Dv

/- Layer 7: what fixed calls give; days, texts that are read. -/
namespace Dv
open Go

theorem eqB_self (a : Int) : eqB a a = true := decide_eq_true rfl
theorem eqS_self (a : List UInt8) : eqS a a = true := decide_eq_true rfl

theorem k_on : readOnV [108, 97, 115, 116, 83, 117, 110] = goodOn 1 0 0 := by kernel_rfl
theorem k_at : readAtV [50, 58, 48, 48, 115] = goodAt 7200 115 := by kernel_rfl
theorem k_save : readSaveV [45, 49, 58, 48, 48] = goodSave (-3600) := by kernel_rfl
theorem k_day : dayV 2024 3 1 0 0 = .tuple [.int .i64 8856, .int .i64 0] := by kernel_rfl
theorem k_days : daysV 2024 3 31 = .tuple [.int .i64 8856, .int .i64 0] := by kernel_rfl

theorem known_s : computuslaw07_known = some (.bool true) := by
  rw [computuslaw07_known_eq, readOn_s _ (by simp), k_on]
  simp only [Option.bind_some, goodOn, tn0, tn1, ag0, ag1, ag2, toI_int]
  rw [day_s, k_day]
  simp only [Option.bind_some, tn0, tn1, toI_int]
  rw [ref_days, k_days]
  simp only [Option.bind_some, tn0, tn1, toI_int]
  rw [readAt_s _ (by simp), k_at]
  simp only [Option.bind_some, goodAt, tn0, tn1, ag0, ag1, toI_int]
  rw [readSave_s _ (by simp), k_save]
  simp only [Option.bind_some, goodSave, tn0, tn1, toI_int, computuslaw07_taken_eq, ag0, ag1, ag2, eqB_self, Bool.and_self, cond_true]

theorem whenReads_s (s : List UInt8) (hs : s.length ≤ 10000000000) : computuslaw07_WhenReads s = some (.bool true) := by
  rw [computuslaw07_WhenReads_eq, readOn_s s hs, rreadOn_s s hs, readAt_s s hs, rreadAt_s s hs, readSave_s s hs, rreadSave_s s hs, known_s]
  simp only [Option.bind_some, computuslaw07_taken_eq, ag0, ag1, ag2, toI_int, eqB_self, Bool.and_self, cond_true, toB_bool]

theorem whenDays_s (y m k wd n : Int) : computuslaw07_WhenDays y m k wd n = some (.bool true) := by
  rw [computuslaw07_WhenDays_eq, computuslaw07_given_eq, rday_s, known_s]
  simp only [Option.bind_some, ag0, ag1, ag2, toI_int, day_s, eqB_self, cond_true, toB_bool]

/-! ### near -/
theorem back_near (n : Int) {wd : Int} (h0 : 0 ≤ wd) (h6 : wd ≤ 6) : backI n wd ≤ n ∧ n - 7 < backI n wd ∧ wkI (backI n wd) = wd := by
  unfold backI wkI
  refine ⟨?_, ?_, ?_⟩ <;> omega
theorem on_near (n : Int) {wd : Int} (h0 : 0 ≤ wd) (h6 : wd ≤ 6) : n ≤ onI n wd ∧ onI n wd < n + 7 ∧ wkI (onI n wd) = wd := by
  unfold onI wkI
  refine ⟨?_, ?_, ?_⟩ <;> omega

theorem canB_spec {y m k wd n : Int} (h : canB y m k wd n = true) : rightV k wd n = true ∧ 1 ≤ m ∧ m ≤ 12 := by
  unfold canB at h
  simp only [Bool.and_eq_true] at h
  exact ⟨h.1, of_decide_eq_true h.2.1, of_decide_eq_true h.2.2⟩

/-- The three answers. -/
theorem dayV_cases (y m k wd n : Int) :
    (dayV y m k wd n = .tuple [.int .i64 0, .int .i64 1]) ∨ (dayV y m k wd n = .tuple [.int .i64 0, .int .i64 10]) ∨
      (dayV y m k wd n = .tuple [.int .i64 (dayK y m k wd n), .int .i64 0] ∧ canB y m k wd n = true ∧ yearB y = true) := by
  unfold dayV
  cases h1 : canB y m k wd n with
  | false => exact .inl rfl
  | true =>
    cases h2 : yearB y with
    | false => exact .inr (.inl rfl)
    | true => exact .inr (.inr ⟨rfl, rfl, rfl⟩)

theorem whenNear_s (y m k wd n : Int) : computuslaw07_WhenNear y m k wd n = some (.bool true) := by
  rw [computuslaw07_WhenNear_eq, computuslaw07_given_eq, known_s]
  simp only [Option.bind_some, ag0, ag1, ag2, toI_int, day_s, toB_bool]
  rcases dayV_cases y m k wd n with h | h | ⟨h, hc, hy⟩
  · rw [h]; rfl
  · rw [h]; rfl
  · rw [h]
    obtain ⟨hr, hm1, hm2⟩ := canB_spec hc
    have hy := (yearB_iff y).1 hy
    have hf := dayI_first hy hm1 hm2
    have hl := lenI_range y m hm1 hm2
    simp only [tn0, tn1, toI_int]
    rw [c_not, c_eqT rfl, ref_days, daysV, right_first hy hm1 hm2, ref_len hm1 hm2]
    simp only [cond_true, Option.bind_some, tn0, toI_int]
    generalize hdf : dayI y m 1 = f at *
    rcases right_cases hr with ⟨rfl, rfl, h1, h2⟩ | ⟨rfl, rfl, h1, h2⟩ | ⟨hk, h1, h2, h3, h4⟩
    · have e : dayK y m 0 0 n = f + n - 1 := by unfold dayK; rw [if_pos rfl, hdf]
      rw [c_eqT rfl, e, w64 (n := f + n) (by omega) (by omega), w64 (n := f + n - 1) (by omega) (by omega), c_eqT rfl]
    · have e : dayK y m 1 wd 0 = backI (f + lenI y m - 1) wd := by unfold dayK; rw [if_neg (by omega), if_pos rfl, hdf]
      have hb := back_near (f + lenI y m - 1) h1 h2
      rw [c_eqF (by omega), c_eqT rfl, e, w64 (n := f + lenI y m) (by omega) (by omega), w64 (n := f + lenI y m - 1) (by omega) (by omega), w64 (n := f + lenI y m - 1 - 7) (by omega) (by omega),
        c_leT (by omega), c_ltT (by omega), ref_weekday]
      simp only [Option.bind_some, toI_int]
      rw [c_eqT hb.2.2]
    · rcases hk with rfl | rfl
      · have e : dayK y m 2 wd n = onI (f + n - 1) wd := by unfold dayK; rw [if_neg (by omega), if_neg (by omega), if_pos rfl, hdf]
        have hb := on_near (f + n - 1) h1 h2
        rw [c_eqF (by omega), c_eqF (by omega), c_eqT rfl, e, w64 (n := f + n) (by omega) (by omega), w64 (n := f + n - 1) (by omega) (by omega), w64 (n := f + n + 6) (by omega) (by omega),
          c_leT (by omega), c_ltT (by omega), ref_weekday]
        simp only [Option.bind_some, toI_int]
        rw [c_eqT hb.2.2]
      · have e : dayK y m 3 wd n = backI (f + n - 1) wd := by unfold dayK; rw [if_neg (by omega), if_neg (by omega), if_neg (by omega), hdf]
        have hb := back_near (f + n - 1) h1 h2
        rw [c_eqF (by omega), c_eqF (by omega), c_eqF (by omega), e, w64 (n := f + n) (by omega) (by omega), w64 (n := f + n - 1) (by omega) (by omega), w64 (n := f + n - 8) (by omega) (by omega),
          c_leT (by omega), c_ltT (by omega), ref_weekday]
        simp only [Option.bind_some, toI_int]
        rw [c_eqT hb.2.2]

/-! ### a week -/
theorem dayV_ok {y m k wd n : Int} (hr : rightV k wd n = true) (hm1 : 1 ≤ m) (hm2 : m ≤ 12) (hy : yearB y = true) : dayV y m k wd n = .tuple [.int .i64 (dayK y m k wd n), .int .i64 0] := by
  unfold dayV canB
  have e1 : leB 1 m = true := decide_eq_true hm1
  have e2 : leB m 12 = true := decide_eq_true hm2
  rw [hr, e1, e2, hy]; rfl

theorem right_mk {k wd n : Int} (hk : k = 2 ∨ k = 3) (h1 : 0 ≤ wd) (h2 : wd ≤ 6) (h3 : 1 ≤ n) (h4 : n ≤ 31) : rightV k wd n = true := by
  unfold rightV
  have e1 := (wdOk_iff wd).2 ⟨h1, h2⟩
  have e2 := (dayOk_iff n).2 ⟨h3, h4⟩
  rw [e1, e2]
  rcases hk with rfl | rfl <;> rfl

theorem whenWeek_s (y m k wd n : Int) : computuslaw07_WhenWeek y m k wd n = some (.bool true) := by
  have hk3 : computuslaw07_WhenWeek_c3 = some (.bool true) := by rw [computuslaw07_WhenWeek_c3_eq, known_s]; rfl
  have hk12 : computuslaw07_WhenWeek_c12 = some (.bool true) := by rw [computuslaw07_WhenWeek_c12_eq, known_s]; rfl
  rw [computuslaw07_WhenWeek_eq, computuslaw07_given_eq, hk3]
  simp only [Option.bind_some, ag0, ag1, ag2, toI_int, day_s]
  rcases dayV_cases y m k wd n with h | h | ⟨h, hc, hy⟩
  · rw [h]; rfl
  · rw [h]; rfl
  · rw [h]
    obtain ⟨hr, hm1, hm2⟩ := canB_spec hc
    have hy' := (yearB_iff y).1 hy
    have hf := dayI_first hy' hm1 hm2
    simp only [tn0, tn1, toI_int]
    rw [c_not, c_eqT rfl]
    by_cases hk : k < 2
    · rw [c_ltT hk]
    · rw [c_ltF hk]
      obtain ⟨hk', h1, h2, h3, h4⟩ : (k = 2 ∨ k = 3) ∧ 0 ≤ wd ∧ wd ≤ 6 ∧ 1 ≤ n ∧ n ≤ 31 := by
        rcases right_cases hr with h | h | h <;> omega
      have e2 : ∀ q, dayK y m 2 wd q = onI (dayI y m 1 + q - 1) wd := fun q => by unfold dayK; rw [if_neg (by omega), if_neg (by omega), if_pos rfl]
      have e3 : ∀ q, dayK y m 3 wd q = backI (dayI y m 1 + q - 1) wd := fun q => by unfold dayK; rw [if_neg (by omega), if_neg (by omega), if_neg (by omega)]
      generalize hdf : dayI y m 1 = f at *
      have c10 : ∀ z, computuslaw07_WhenWeek_c10 y m (dayK y m k wd n) k wd n k wd z = some (.bool true) := by
        intro z
        rw [computuslaw07_WhenWeek_c10_eq, hk12, w64 (by omega) (by omega), c_not]
        rcases hk' with rfl | rfl
        · rw [c_eqF (by omega)]
        · rw [c_eqT rfl]
          by_cases h6 : n - 6 < 1
          · rw [c_ltT h6]
          · rw [c_ltF h6, computuslaw07_WhenWeek_c13_eq, computuslaw07_given_eq, known_s]
            simp only [Option.bind_some, ag0, ag1, ag2, toI_int, day_s, toB_bool]
            rw [dayV_ok (right_mk (.inl rfl) h1 h2 (by omega) (by omega)) hm1 hm2 hy, e2, e3]
            simp only [tn0, tn1, toI_int]
            rw [c_eqT rfl, c_eqT (by unfold onI backI wkI; omega)]
      rw [computuslaw07_WhenWeek_c4_eq, c10, w64 (n := n + 7) (by omega) (by omega), computuslaw07_WhenWeek_c9_eq]
      by_cases h7 : n + 7 ≤ 31
      · rw [c_leT h7, computuslaw07_given_eq]
        simp only [Option.bind_some, ag0, ag1, ag2, toI_int, day_s]
        rw [dayV_ok (right_mk hk' h1 h2 (by omega) (by omega)) hm1 hm2 hy]
        simp only [tn0, tn1, toI_int]
        have heq : dayK y m k wd (n + 7) = dayK y m k wd n + 7 ∧ -5000000 ≤ dayK y m k wd n ∧ dayK y m k wd n ≤ 200000000 := by
          rcases hk' with rfl | rfl
          · rw [e2, e2]; unfold onI wkI; omega
          · rw [e3, e3]; unfold backI wkI; omega
        rw [c_not, c_eqT rfl, w64 (by omega) (by omega), c_not, c_eqT heq.1]
      · rw [c_leF h7]
end Dv

/- Days and times as texts, there and back. -/
namespace Dv
open Go

/-! ### two digits -/
def dgB (n : Int) : UInt8 := UInt8.ofNat (48 + n).toNat
def twoB (n : Int) : List UInt8 := [dgB (n / 10), dgB (n % 10)]
def oneTwo (n : Int) : List UInt8 := if n < 10 then [dgB n] else twoB n

theorem dgB_val {n : Int} (h0 : 0 ≤ n) (h1 : n ≤ 9) : (PV.int .u8 (IntKind.u8.wrap (IntKind.u64.wrap (48 + n)))) = byteV (dgB n) := by
  rw [wu64 (by omega) (by omega), wu8 (by omega) (by omega)]
  unfold byteV dgB
  congr 1
  rw [UInt8.toNat_ofNat']
  omega

def zeros (k : Nat) : List PV := List.replicate k (.int .u8 0)

theorem digits2 {a : Int} (h0 : 0 ≤ a) (h1 : a < 100) : clock_digits a 2 = some (.str (twoB a)) := by
  rw [clock_digits_eq]
  have e20 : IntKind.i64.wrap (20 - 1) = 19 := by decide
  have e19 : IntKind.i64.wrap (19 - 1) = 18 := by decide
  have e18 : IntKind.i64.wrap (20 - 2) = 18 := by decide
  have c5a : ∀ l x4, clock_digits_c5 a 2 20 l x4 = (stC l 19 0 [byteV (dgB (a % 10))]).bind fun v => clock_digits_c3 (a / 10) 2 19 v x4 := by
    intro l x4
    rw [clock_digits_c5_eq, e20, c_inT (by omega), tmod_pos h0, tdiv_pos h0, dgB_val (by omega) (by omega), wu64 (n := a / 10) (by omega) (by omega)]; rfl
  have c5b : ∀ l x4, clock_digits_c5 (a / 10) 2 19 l x4 = (stC l 18 0 [byteV (dgB (a / 10))]).bind fun v => clock_digits_c3 0 2 18 v x4 := by
    intro l x4
    have h2 : a / 10 % 10 = a / 10 := by omega
    have h3 : a / 10 / 10 = 0 := by omega
    rw [clock_digits_c5_eq, e19, c_inT (by omega), tmod_pos (by omega), tdiv_pos (by omega), h2, h3, dgB_val (by omega) (by omega)]; rfl
  have c3a : ∀ l x4, clock_digits_c3 a 2 20 l x4 = clock_digits_c5 a 2 20 l x4 := by
    intro l x4
    rw [clock_digits_c3_eq, e18]
    by_cases h : 0 < a
    · rw [c_ltT h]
    · rw [c_ltF h, c_ltT (by omega)]
  have c3b : ∀ l x4, clock_digits_c3 (a / 10) 2 19 l x4 = clock_digits_c5 (a / 10) 2 19 l x4 := by
    intro l x4
    rw [clock_digits_c3_eq, e18]
    by_cases h : 0 < a / 10
    · rw [c_ltT h]
    · rw [c_ltF h, c_ltT (by omega)]
  rw [c3a, c5a]
  have s1 : ∀ v, stC [PV.int .u8 0, PV.int .u8 0, PV.int .u8 0, PV.int .u8 0, PV.int .u8 0, PV.int .u8 0, PV.int .u8 0, PV.int .u8 0, PV.int .u8 0, PV.int .u8 0, PV.int .u8 0, PV.int .u8 0, PV.int .u8 0, PV.int .u8 0, PV.int .u8 0, PV.int .u8 0, PV.int .u8 0, PV.int .u8 0, PV.int .u8 0, PV.int .u8 0] 19 0 [v] =
    some [PV.int .u8 0, PV.int .u8 0, PV.int .u8 0, PV.int .u8 0, PV.int .u8 0, PV.int .u8 0, PV.int .u8 0, PV.int .u8 0, PV.int .u8 0, PV.int .u8 0, PV.int .u8 0, PV.int .u8 0, PV.int .u8 0, PV.int .u8 0, PV.int .u8 0, PV.int .u8 0, PV.int .u8 0, PV.int .u8 0, PV.int .u8 0, v] := fun _ => rfl
  rw [s1]
  simp only [Option.bind_some]
  rw [c3b, c5b]
  have s2 : ∀ u v, stC [PV.int .u8 0, PV.int .u8 0, PV.int .u8 0, PV.int .u8 0, PV.int .u8 0, PV.int .u8 0, PV.int .u8 0, PV.int .u8 0, PV.int .u8 0, PV.int .u8 0, PV.int .u8 0, PV.int .u8 0, PV.int .u8 0, PV.int .u8 0, PV.int .u8 0, PV.int .u8 0, PV.int .u8 0, PV.int .u8 0, PV.int .u8 0, u] 18 0 [v] =
    some [PV.int .u8 0, PV.int .u8 0, PV.int .u8 0, PV.int .u8 0, PV.int .u8 0, PV.int .u8 0, PV.int .u8 0, PV.int .u8 0, PV.int .u8 0, PV.int .u8 0, PV.int .u8 0, PV.int .u8 0, PV.int .u8 0, PV.int .u8 0, PV.int .u8 0, PV.int .u8 0, PV.int .u8 0, PV.int .u8 0, v, u] := fun _ _ => rfl
  rw [s2]
  simp only [Option.bind_some]
  rw [clock_digits_c3_eq, e18, c_ltF (by omega), c_ltF (by omega), c_eqnT (by rfl), c_eqnT (by rfl), decide_eq_true (by omega), cond_true]
  have e : bytesOf (List.take (20 - (18 : Int).toNat) (List.drop (18 : Int).toNat [PV.int .u8 0, PV.int .u8 0, PV.int .u8 0, PV.int .u8 0, PV.int .u8 0, PV.int .u8 0, PV.int .u8 0, PV.int .u8 0, PV.int .u8 0, PV.int .u8 0, PV.int .u8 0, PV.int .u8 0, PV.int .u8 0, PV.int .u8 0, PV.int .u8 0, PV.int .u8 0, PV.int .u8 0, PV.int .u8 0, byteV (dgB (a / 10)), byteV (dgB (a % 10))])) = some (twoB a) := bytes_byteV (twoB a)
  rw [e]; rfl

theorem two_s {a : Int} (h0 : 0 ≤ a) (h1 : a < 100) : clock_Two a = some (.str (twoB a)) := by
  rw [clock_Two_eq, c_leT h0, wu64 h0 (by omega), digits2 h0 h1]; rfl

theorem rev_byte1 (x : UInt8) : computusref03_Digits_c11 [byteV x] = some (.str [x]) := by
  rw [computusref03_Digits_c11_eq]
  have e0 : IntKind.i64.wrap (((([byteV x].length : Nat)) : Int) - 1) = 0 := by show IntKind.i64.wrap (1 - 1) = 0; decide
  have e1 : IntKind.i64.wrap (0 - 1) = -1 := by decide
  rw [e0, computusref03_Digits_c13_eq, c_leT (by omega), c_inT (by simp)]
  have r : rdT (tiInt .u8) [byteV x] (0 : Int).toNat 0 = some (byteV x) := rfl
  rw [r]
  simp only [Option.bind_some]
  rw [appL_ok (by simp)]
  simp only [Option.bind_some]
  rw [e1, computusref03_Digits_c13_eq, c_leF (by omega)]
  have e : bytesOf ([] ++ [PV.int .u8 (byteV x).toI]) = some [x] := bytes_byteV [x]
  rw [e]; rfl
theorem rev_byte2 (x y : UInt8) : computusref03_Digits_c11 [byteV x, byteV y] = some (.str [y, x]) := by
  rw [computusref03_Digits_c11_eq]
  have e0 : IntKind.i64.wrap (((([byteV x, byteV y].length : Nat)) : Int) - 1) = 1 := by show IntKind.i64.wrap (2 - 1) = 1; decide
  have e1 : IntKind.i64.wrap (1 - 1) = 0 := by decide
  have e2 : IntKind.i64.wrap (0 - 1) = -1 := by decide
  rw [e0, computusref03_Digits_c13_eq, c_leT (by omega), c_inT (by simp)]
  have r1 : rdT (tiInt .u8) [byteV x, byteV y] (1 : Int).toNat 0 = some (byteV y) := rfl
  have r0 : rdT (tiInt .u8) [byteV x, byteV y] (0 : Int).toNat 0 = some (byteV x) := rfl
  rw [r1]
  simp only [Option.bind_some]
  rw [appL_ok (by simp)]
  simp only [Option.bind_some]
  rw [e1, computusref03_Digits_c13_eq, c_leT (by omega), c_inT (by simp), r0]
  simp only [Option.bind_some]
  rw [appL_ok (by simp)]
  simp only [Option.bind_some]
  rw [e2, computusref03_Digits_c13_eq, c_leF (by omega)]
  have e : bytesOf ([] ++ [PV.int .u8 (byteV y).toI] ++ [PV.int .u8 (byteV x).toI]) = some [y, x] := bytes_byteV [y, x]
  rw [e]; rfl

theorem rdigits_s {a : Int} (h0 : 0 ≤ a) (h1 : a < 100) : computusref03_Digits a = some (.str (oneTwo a)) := by
  rw [computusref03_Digits_eq, c_ltF (by omega), wu64 h0 (by omega), computusref03_Digits_c4_eq, computusref03_Digits_c5_eq]
  unfold oneTwo
  by_cases h : a < 10
  · rw [c_leF (by omega), if_pos h, dgB_val h0 (by omega), appL_ok (by simp)]
    simp only [Option.bind_some]
    rw [c_ltF (by omega)]
    exact rev_byte1 _
  · rw [c_leT (by omega), if_neg h, tmod_pos h0, tdiv_pos h0, dgB_val (by omega) (by omega), appL_ok (by simp), wu64 (n := a / 10) (by omega) (by omega)]
    simp only [Option.bind_some]
    rw [computusref03_Digits_c5_eq, c_leF (by omega), dgB_val (by omega) (by omega), appL_ok (by simp)]
    simp only [Option.bind_some]
    rw [c_ltF (by omega)]
    exact rev_byte2 _ _

theorem rtwo_s {a : Int} (h0 : 0 ≤ a) (h1 : a < 100) : computusref03_Two a = some (.str (twoB a)) := by
  rw [computusref03_Two_eq, c_leT h0]
  by_cases h : a < 10
  · rw [c_ltT h, computusref03_Two_c2_eq, rdigits_s h0 h1]
    simp only [Option.bind_some, toS_str]
    have e : oneTwo a = [dgB a] := if_pos h
    rw [e, catS_ok (by simp)]
    simp only [Option.bind_some]
    have e1 : a / 10 = 0 := by omega
    have e2 : a % 10 = a := by omega
    unfold twoB
    rw [e1, e2]; rfl
  · rw [c_ltF h, computusref03_Two_c3_eq, c_ltF (by omega), rdigits_s h0 h1]
    have e : oneTwo a = twoB a := if_neg h
    rw [e]; rfl
end Dv

/- Days and times as texts: alike, and there and back. -/
namespace Dv
open Go

/-! ### days -/
def dayN3 (wd : Int) : List UInt8 := nthD [] [[83, 117, 110], [77, 111, 110], [84, 117, 101], [87, 101, 100], [84, 104, 117], [70, 114, 105], [83, 97, 116]] wd.toNat
def txtOn (k wd n : Int) : List UInt8 :=
  if k = 1 then [108, 97, 115, 116] ++ dayN3 wd else if k = 2 then dayN3 wd ++ [62, 61] ++ oneTwo n else if k = 3 then dayN3 wd ++ [60, 61] ++ oneTwo n else oneTwo n
def textOnV (k wd n : Int) : PV := bif rightV k wd n then .tuple [.str (txtOn k wd n), .int .i64 0] else .tuple [.str [], .int .i64 1]

theorem wdcases {wd : Int} (h0 : 0 ≤ wd) (h6 : wd ≤ 6) : wd = 0 ∨ wd = 1 ∨ wd = 2 ∨ wd = 3 ∨ wd = 4 ∨ wd = 5 ∨ wd = 6 := by omega
theorem dayN3_len {wd : Int} (h0 : 0 ≤ wd) (h6 : wd ≤ 6) : (dayN3 wd).length = 3 := by
  rcases wdcases h0 h6 with rfl | rfl | rfl | rfl | rfl | rfl | rfl <;> rfl
theorem oneTwo_len (n : Int) : (oneTwo n).length ≤ 2 := by unfold oneTwo; split <;> simp [twoB]

theorem dgB_48 {n : Int} (h0 : 0 ≤ n) (h9 : n ≤ 9) : dgB n = 48 ↔ n = 0 := by
  constructor
  · intro h
    have := congrArg UInt8.toNat h
    unfold dgB at this
    rw [UInt8.toNat_ofNat'] at this
    have e : (48 : UInt8).toNat = 48 := rfl
    omega
  · rintro rfl; rfl

theorem trim_two {n : Int} (h0 : 0 ≤ n) (h1 : n < 100) : strings_TrimPrefix (twoB n) [48] = some (.str (oneTwo n)) := by
  rw [strings_TrimPrefix_eq, stringslite_TrimPrefix_eq, stringslite_HasPrefix_eq]
  have e1 : (((List.length [(48 : UInt8)] : Nat)) : Int) = 1 := rfl
  have e2 : ((((twoB n).length : Nat)) : Int) = 2 := rfl
  have e3 : List.take (1 : Int).toNat (twoB n) = [dgB (n / 10)] := rfl
  have e4 : List.drop (1 : Int).toNat (twoB n) = [dgB (n % 10)] := rfl
  rw [e1, e2, c_leT (by omega), takeS_ok (by omega) (by rw [e2]; omega), dropS_ok (by omega) (by rw [e2]; omega), e3, e4]
  simp only [Option.bind_some, toB_bool]
  unfold oneTwo
  by_cases h : n < 10
  · have hd : n / 10 = 0 := by omega
    have hm : n % 10 = n := by omega
    rw [if_pos h, hd, hm, c_eqsT (by rfl)]; rfl
  · have hne : ¬ [dgB (n / 10)] = [(48 : UInt8)] := by
      intro he
      have he := List.head_eq_of_cons_eq he
      have := (dgB_48 (by omega) (by omega)).1 he
      omega
    rw [if_neg h, c_eqsF hne]; rfl

theorem textOn_s (k wd n : Int) : when_TextOn k wd n = some (textOnV k wd n) := by
  rw [when_TextOn_eq, form_s]
  simp only [Option.bind_some, form_nil]
  unfold textOnV
  cases hr : rightV k wd n with
  | false => rfl
  | true =>
  simp only [Bool.not_true, cond_false, cond_true]
  have hb : 0 ≤ wd ∧ wd ≤ 6 ∧ 0 ≤ n ∧ n ≤ 31 ∧ (k = 0 ∨ k = 1 ∨ k = 2 ∨ k = 3) := by rcases right_cases hr with h | h | h <;> omega
  obtain ⟨h0, h6, n0, n1, hk⟩ := hb
  have hrd : rdC tiStr [(PV.str [(83 : UInt8), (117 : UInt8), (110 : UInt8)]), (PV.str [(77 : UInt8), (111 : UInt8), (110 : UInt8)]), (PV.str [(84 : UInt8), (117 : UInt8), (101 : UInt8)]), (PV.str [(87 : UInt8), (101 : UInt8), (100 : UInt8)]), (PV.str [(84 : UInt8), (104 : UInt8), (117 : UInt8)]), (PV.str [(70 : UInt8), (114 : UInt8), (105 : UInt8)]), (PV.str [(83 : UInt8), (97 : UInt8), (116 : UInt8)])] wd.toNat = some (.str (dayN3 wd)) := by
    rcases wdcases h0 h6 with rfl | rfl | rfl | rfl | rfl | rfl | rfl <;> rfl
  have hl := dayN3_len h0 h6
  have hl2 := oneTwo_len n
  rw [c_inT ⟨h0, by omega⟩, hrd, two_s n0 (by omega)]
  simp only [Option.bind_some, toS_str]
  rw [trim_two n0 (by omega)]
  simp only [Option.bind_some, toS_str]
  unfold txtOn
  rw [catS_ok (by simp [hl]), catS_ok (by simp [hl]), catS_ok (by simp [hl])]
  simp only [Option.bind_some]
  rw [catS_ok (by simp only [List.length_append, hl]; simp <;> omega), catS_ok (by simp only [List.length_append, hl]; simp <;> omega)]
  simp only [Option.bind_some]
  rcases hk with rfl | rfl | rfl | rfl
  · rw [c_eqF (by omega), c_eqF (by omega), c_eqF (by omega), if_neg (by omega), if_neg (by omega), if_neg (by omega)]
  · rw [c_eqT rfl, if_pos rfl]
  · rw [c_eqF (by omega), c_eqT rfl, if_neg (by omega), if_pos rfl]
  · rw [c_eqF (by omega), c_eqF (by omega), c_eqT rfl, if_neg (by omega), if_neg (by omega), if_pos rfl]

theorem rtextOn_s (k wd n : Int) : computusref07_TextOn k wd n = some (textOnV k wd n) := by
  rw [computusref07_TextOn_eq, right_s]
  simp only [Option.bind_some, toB_bool]
  unfold textOnV
  cases hr : rightV k wd n with
  | false => rfl
  | true =>
  simp only [Bool.not_true, cond_false, cond_true]
  have hb : 0 ≤ wd ∧ wd ≤ 6 ∧ 0 ≤ n ∧ n ≤ 31 ∧ (k = 0 ∨ k = 1 ∨ k = 2 ∨ k = 3) := by rcases right_cases hr with h | h | h <;> omega
  obtain ⟨h0, h6, n0, n1, hk⟩ := hb
  have hrd : rdT tiStr [(PV.str [(83 : UInt8), (117 : UInt8), (110 : UInt8)]), (PV.str [(77 : UInt8), (111 : UInt8), (110 : UInt8)]), (PV.str [(84 : UInt8), (117 : UInt8), (101 : UInt8)]), (PV.str [(87 : UInt8), (101 : UInt8), (100 : UInt8)]), (PV.str [(84 : UInt8), (104 : UInt8), (117 : UInt8)]), (PV.str [(70 : UInt8), (114 : UInt8), (105 : UInt8)]), (PV.str [(83 : UInt8), (97 : UInt8), (116 : UInt8)])] wd.toNat 0 = some (.str (dayN3 wd)) := by
    rcases wdcases h0 h6 with rfl | rfl | rfl | rfl | rfl | rfl | rfl <;> rfl
  have hl := dayN3_len h0 h6
  have hl2 := oneTwo_len n
  rw [c_inT ⟨h0, by omega⟩, hrd, rdigits_s n0 (by omega)]
  simp only [Option.bind_some, toS_str]
  unfold txtOn
  rw [catS_ok (by simp [hl]), catS_ok (by simp [hl]), catS_ok (by simp [hl])]
  simp only [Option.bind_some]
  rw [catS_ok (by simp only [List.length_append, hl]; simp <;> omega), catS_ok (by simp only [List.length_append, hl]; simp <;> omega)]
  simp only [Option.bind_some]
  rcases hk with rfl | rfl | rfl | rfl
  · rw [c_eqF (by omega), c_eqF (by omega), c_eqF (by omega), if_neg (by omega), if_neg (by omega), if_neg (by omega)]
  · rw [c_eqT rfl, if_pos rfl]
  · rw [c_eqF (by omega), c_eqT rfl, if_neg (by omega), if_pos rfl]
  · rw [c_eqF (by omega), c_eqF (by omega), c_eqT rfl, if_neg (by omega), if_neg (by omega), if_pos rfl]

/-- It is read as it was: all of them. -/
def isOn (v : PV) (k wd n : Int) : Bool :=
  match v with
  | .tuple [.agg [.int .i64 a, .int .i64 b, .int .i64 c], .int .i64 e] => eqB a k && (eqB b wd && (eqB c n && eqB e 0))
  | _ => false
theorem isOn_eq {v : PV} {k wd n : Int} (h : isOn v k wd n = true) : v = goodOn k wd n := by
  unfold isOn at h
  split at h
  · simp only [Bool.and_eq_true] at h
    obtain ⟨h1, h2, h3, h4⟩ := h
    rw [of_decide_eq_true h1, of_decide_eq_true h2, of_decide_eq_true h3, of_decide_eq_true h4]; rfl
  · cases h
def backOn (k wd n : Nat) : Bool := isOn (readOnV (txtOn k wd n)) k wd n
theorem back_all : (allB (fun n => backOn 0 0 (n + 1)) (List.range 31) && (allB (fun wd => backOn 1 wd 0) (List.range 7) && (allB (fun wd => allB (fun n => backOn 2 wd (n + 1) && backOn 3 wd (n + 1)) (List.range 31)) (List.range 7)))) = true := by kernel_rfl

theorem back_on {k wd n : Int} (hr : rightV k wd n = true) : readOnV (txtOn k wd n) = goodOn k wd n := by
  have h := back_all
  simp only [Bool.and_eq_true] at h
  obtain ⟨h1, h2, h3⟩ := h
  rcases right_cases hr with ⟨rfl, rfl, a, b⟩ | ⟨rfl, rfl, a, b⟩ | ⟨hk, a, b, c, d⟩
  · obtain ⟨m, rfl⟩ : ∃ m : Nat, n = ((m + 1 : Nat) : Int) := ⟨(n - 1).toNat, by omega⟩
    exact isOn_eq (allB_spec h1 m (List.mem_range.2 (by omega)))
  · obtain ⟨w, rfl⟩ := Int.eq_ofNat_of_zero_le a
    exact isOn_eq (allB_spec h2 w (List.mem_range.2 (by omega)))
  · obtain ⟨w, rfl⟩ := Int.eq_ofNat_of_zero_le a
    obtain ⟨m, rfl⟩ : ∃ m : Nat, n = ((m + 1 : Nat) : Int) := ⟨(n - 1).toNat, by omega⟩
    have := allB_spec (allB_spec h3 w (List.mem_range.2 (by omega))) m (List.mem_range.2 (by omega))
    simp only [Bool.and_eq_true] at this
    rcases hk with rfl | rfl
    · exact isOn_eq this.1
    · exact isOn_eq this.2

theorem txtOn_len {k wd n : Int} (hr : rightV k wd n = true) : (txtOn k wd n).length ≤ 10 := by
  have hb : 0 ≤ wd ∧ wd ≤ 6 := by rcases right_cases hr with h | h | h <;> omega
  have hl := dayN3_len hb.1 hb.2
  have hl2 := oneTwo_len n
  unfold txtOn
  repeat' split
  all_goals simp [hl]
  all_goals omega

/-! ### times -/
def txtAt (sec k : Int) : List UInt8 :=
  oneTwo (sec / 3600) ++ ([58] ++ (twoB (sec / 60 % 60) ++ ((if sec % 60 = 0 then [] else [58] ++ twoB (sec % 60)) ++ (if k = 119 then [] else [UInt8.ofNat k.toNat]))))
def textAtV (sec k : Int) : PV := bif rightAt sec k then .tuple [.str (txtAt sec k), .int .i64 0] else .tuple [.str [], .int .i64 1]

theorem rightAt_spec {sec k : Int} (h : rightAt sec k = true) : 0 ≤ sec ∧ sec ≤ 86400 ∧ (k = 119 ∨ k = 115 ∨ k = 117) := by
  unfold rightAt at h
  simp only [Bool.and_eq_true, Bool.or_eq_true] at h
  obtain ⟨h1, h2, h3⟩ := h
  exact ⟨of_decide_eq_true h1, of_decide_eq_true h2, h3.imp of_decide_eq_true (Or.imp of_decide_eq_true of_decide_eq_true)⟩

/-- What is left to do behind the minutes. -/
theorem at_c8 (x : List UInt8) (hx : x.length ≤ 100) (sec k : Int) (hk : k = 119 ∨ k = 115 ∨ k = 117) : when_TextAt_c8 x sec k = some (.tuple [.str (x ++ (if k = 119 then [] else [UInt8.ofNat k.toNat])), .int .i64 0]) := by
  rw [when_TextAt_c8_eq, c_not]
  rcases hk with rfl | rfl | rfl
  · rw [c_eqT rfl, if_pos rfl, List.append_nil]
  · have e : encR (IntKind.i32.wrap 115) = [115] := by kernel_rfl
    rw [c_eqF (by omega), if_neg (by omega), e, catS_ok (by simp; omega)]; rfl
  · have e : encR (IntKind.i32.wrap 117) = [117] := by kernel_rfl
    rw [c_eqF (by omega), if_neg (by omega), e, catS_ok (by simp; omega)]; rfl

theorem at_c6 (x : List UInt8) (hx : x.length ≤ 90) {sec k : Int} (h0 : 0 ≤ sec) (hk : k = 119 ∨ k = 115 ∨ k = 117) :
    when_TextAt_c6 x sec k = some (.tuple [.str (x ++ ((if sec % 60 = 0 then [] else [58] ++ twoB (sec % 60)) ++ (if k = 119 then [] else [UInt8.ofNat k.toNat]))), .int .i64 0]) := by
  have l2 : (twoB (sec % 60)).length = 2 := rfl
  rw [when_TextAt_c6_eq, c_not, tmod_pos h0]
  by_cases h : sec % 60 = 0
  · rw [c_eqT h, if_pos h, at_c8 x (by omega) sec k hk, List.nil_append]
  · rw [c_eqF h, if_neg h, two_s (by omega) (by omega)]
    simp only [Option.bind_some, toS_str]
    rw [catS_ok (by rw [l2]; simp)]
    simp only [Option.bind_some]
    rw [catS_ok (by simp [l2]; omega)]
    simp only [Option.bind_some]
    rw [at_c8 _ (by simp [l2]; omega) sec k hk, List.append_assoc]

theorem textAt_s {sec k : Int} (hs : In64 sec) : when_TextAt sec k = some (textAtV sec k) := by
  rw [when_TextAt_eq, atRight_s]
  simp only [Option.bind_some, toB_bool]
  unfold textAtV
  cases hr : rightAt sec k with
  | false => rfl
  | true =>
  obtain ⟨h0, h1, hk⟩ := rightAt_spec hr
  have l2 : ∀ n, (twoB n).length = 2 := fun _ => rfl
  simp only [Bool.not_true, cond_false, cond_true]
  rw [tdiv_pos h0, tdiv_pos h0, w64 (n := sec / 3600) (by omega) (by omega), w64 (n := sec / 60) (by omega) (by omega), tmod_pos (by omega), two_s (by omega) (by omega), two_s (by omega) (by omega)]
  simp only [Option.bind_some, toS_str]
  rw [catS_ok (by simp [l2])]
  simp only [Option.bind_some]
  rw [catS_ok (by simp [l2])]
  simp only [Option.bind_some]
  have hat : atS (twoB (sec / 3600) ++ [58] ++ twoB (sec / 60 % 60)) 0 = some (((dgB (sec / 3600 / 10)).toNat : Nat) : Int) := atS_z rfl
  rw [hat]
  simp only [Option.bind_some]
  have q : ((dgB (sec / 3600 / 10)).toNat : Int) = 48 ↔ dgB (sec / 3600 / 10) = 48 := u8_eq (n := 48) (by omega)
  have hq := dgB_48 (n := sec / 3600 / 10) (by omega) (by omega)
  unfold txtAt oneTwo
  by_cases h : sec / 3600 < 10
  · rw [c_eqT (q.2 (hq.2 (by omega))), if_pos h, dropS_ok (by omega) (by simp [l2])]
    simp only [Option.bind_some]
    have e : List.drop (1 : Int).toNat (twoB (sec / 3600) ++ [58] ++ twoB (sec / 60 % 60)) = [dgB (sec / 3600)] ++ ([58] ++ twoB (sec / 60 % 60)) := by
      have : sec / 3600 % 10 = sec / 3600 := by omega
      show [dgB (sec / 3600 % 10)] ++ ([58] ++ twoB (sec / 60 % 60)) = _
      rw [this]
    rw [e, at_c6 _ (by simp [l2]) h0 hk]
    simp only [List.append_assoc]
  · rw [c_eqF (fun hh => by have := hq.1 (q.1 hh); omega), if_neg h, at_c6 _ (by simp [l2]) h0 hk]
    simp only [List.append_assoc]

theorem rtextAt_s {sec k : Int} (hs : In64 sec) : computusref07_TextAt sec k = some (textAtV sec k) := by
  rw [computusref07_TextAt_eq, refRightAt_s]
  simp only [Option.bind_some, toB_bool]
  unfold textAtV
  cases hr : rightAt sec k with
  | false => rfl
  | true =>
  obtain ⟨h0, h1, hk⟩ := rightAt_spec hr
  have l2 : ∀ n, (twoB n).length = 2 := fun _ => rfl
  have lo := oneTwo_len (sec / 3600)
  have c6 : ∀ x : List UInt8, x.length ≤ 100 → computusref07_TextAt_c6 x sec k = some (.tuple [.str (x ++ (if k = 119 then [] else [UInt8.ofNat k.toNat])), .int .i64 0]) := by
    intro x hx
    rw [computusref07_TextAt_c6_eq, c_not]
    by_cases hw : k = 119
    · rw [c_eqT hw, if_pos hw, List.append_nil]
    · rw [c_eqF hw, if_neg hw, catS_ok (by simp; omega)]; rfl
  simp only [Bool.not_true, cond_false, cond_true]
  rw [tdiv_pos h0, tdiv_pos h0, w64 (n := sec / 3600) (by omega) (by omega), w64 (n := sec / 60) (by omega) (by omega), tmod_pos (by omega), tmod_pos h0, rdigits_s (by omega) (by omega), rtwo_s (by omega) (by omega)]
  simp only [Option.bind_some, toS_str]
  rw [catS_ok (by simp; omega)]
  simp only [Option.bind_some]
  rw [catS_ok (by simp [l2]; omega)]
  simp only [Option.bind_some]
  unfold txtAt
  rw [c_not]
  by_cases h : sec % 60 = 0
  · rw [c_eqT h, if_pos h, c6 _ (by simp [l2]; omega)]
    simp only [List.append_assoc, List.nil_append]
  · rw [c_eqF h, if_neg h, catS_ok (by simp [l2]; omega), rtwo_s (by omega) (by omega)]
    simp only [Option.bind_some, toS_str]
    rw [catS_ok (by simp [l2]; omega)]
    simp only [Option.bind_some]
    rw [c6 _ (by simp [l2]; omega)]
    simp only [List.append_assoc]
/-! ### a time is read as it was -/
theorem splitB_app {c : UInt8} {p q : List UInt8} (h : c ∉ p) : splitB c (p ++ c :: q) = p :: splitB c q := by
  induction p with
  | nil => simp [splitB]
  | cons x p ih =>
    have hx : x ≠ c := fun e => h (by simp [e])
    have ih := ih (fun hc => h (by simp [hc]))
    rw [List.cons_append, splitB, if_neg hx, ih]
theorem splitB_one {c : UInt8} {p : List UInt8} (h : c ∉ p) : splitB c p = [p] := by
  induction p with
  | nil => rfl
  | cons x p ih =>
    have hx : x ≠ c := fun e => h (by simp [e])
    have ih := ih (fun hc => h (by simp [hc]))
    rw [splitB, if_neg hx, ih]

def numIs (s : List UInt8) (n : Nat) : Bool := okSh s && eqB (numN s) n && allB (fun c => !(c == 58) && !(c == 45)) s
theorem two_all : allB (fun n => numIs (twoB (n : Nat)) n && numIs (oneTwo (n : Nat)) n) (List.range 100) = true := by kernel_rfl
theorem numIs_spec {s : List UInt8} {n : Nat} (h : numIs s n = true) : okSh s = true ∧ numN s = n ∧ 58 ∉ s ∧ 45 ∉ s := by
  unfold numIs at h
  simp only [Bool.and_eq_true] at h
  obtain ⟨⟨h1, h2⟩, h3⟩ := h
  refine ⟨h1, of_decide_eq_true h2, fun hm => ?_, fun hm => ?_⟩
  · have := allB_spec h3 _ hm; simp at this
  · have := allB_spec h3 _ hm; simp at this
theorem two_num {n : Int} (h0 : 0 ≤ n) (h1 : n < 100) : okSh (twoB n) = true ∧ numN (twoB n) = n ∧ 58 ∉ twoB n ∧ 45 ∉ twoB n := by
  obtain ⟨m, rfl⟩ := Int.eq_ofNat_of_zero_le h0
  have := allB_spec two_all m (List.mem_range.2 (by omega))
  simp only [Bool.and_eq_true] at this
  exact numIs_spec this.1
theorem oneTwo_num {n : Int} (h0 : 0 ≤ n) (h1 : n < 100) : okSh (oneTwo n) = true ∧ numN (oneTwo n) = n ∧ 58 ∉ oneTwo n ∧ 45 ∉ oneTwo n := by
  obtain ⟨m, rfl⟩ := Int.eq_ofNat_of_zero_le h0
  have := allB_spec two_all m (List.mem_range.2 (by omega))
  simp only [Bool.and_eq_true] at this
  exact numIs_spec this.2

def bodyAt (sec : Int) : List UInt8 := oneTwo (sec / 3600) ++ ([58] ++ (twoB (sec / 60 % 60) ++ (if sec % 60 = 0 then [] else [58] ++ twoB (sec % 60))))
theorem txtAt_body (sec k : Int) : txtAt sec k = bodyAt sec ++ (if k = 119 then [] else [UInt8.ofNat k.toNat]) := by
  unfold txtAt bodyAt; simp only [List.append_assoc]

theorem body_sec {sec : Int} (h0 : 0 ≤ sec) (h1 : sec ≤ 86400) : secI (splitB 58 (bodyAt sec)) = sec := by
  have a := oneTwo_num (n := sec / 3600) (by omega) (by omega)
  have b := two_num (n := sec / 60 % 60) (by omega) (by omega)
  have c := two_num (n := sec % 60) (by omega) (by omega)
  have l2 : ∀ n, (twoB n).length = 2 := fun _ => rfl
  have ms : ∀ n, okSh (twoB n) = true → numN (twoB n) < 60 → okMS (twoB n) = true := fun n h h' => (okMS_iff _).2 ⟨h, rfl, h'⟩
  unfold bodyAt
  have e1 : splitB 58 (oneTwo (sec / 3600) ++ ([58] ++ (twoB (sec / 60 % 60) ++ (if sec % 60 = 0 then [] else [58] ++ twoB (sec % 60))))) =
      oneTwo (sec / 3600) :: splitB 58 (twoB (sec / 60 % 60) ++ (if sec % 60 = 0 then [] else [58] ++ twoB (sec % 60))) := splitB_app a.2.2.1
  rw [e1]
  have w1 : IntKind.i64.wrap (numN (oneTwo (sec / 3600)) * 3600) = sec / 3600 * 3600 := by rw [a.2.1, w64 (by omega) (by omega)]
  by_cases h : sec % 60 = 0
  · rw [if_pos h, List.append_nil, splitB_one b.2.2.1]
    have hok : okSec [oneTwo (sec / 3600), twoB (sec / 60 % 60)] = true := by
      have hm := ms _ b.1 (by rw [b.2.1]; omega)
      simp only [okSec, allOk, a.1, hm, Bool.and_self]; rfl
    rw [secI_ok hok]
    simp only [secN, accN]
    rw [w1, b.2.1, w64 (n := sec / 60 % 60 * 60) (by omega) (by omega), w64 (by omega) (by omega)]
    omega
  · rw [if_neg h]
    have e2 : splitB 58 (twoB (sec / 60 % 60) ++ ([58] ++ twoB (sec % 60))) = twoB (sec / 60 % 60) :: splitB 58 (twoB (sec % 60)) := splitB_app b.2.2.1
    rw [e2, splitB_one c.2.2.1]
    have hok : okSec [oneTwo (sec / 3600), twoB (sec / 60 % 60), twoB (sec % 60)] = true := by
      have hm := ms _ b.1 (by rw [b.2.1]; omega)
      have hs := ms _ c.1 (by rw [c.2.1]; omega)
      simp only [okSec, allOk, a.1, hm, hs, Bool.and_self]; rfl
    rw [secI_ok hok]
    simp only [secN, accN]
    have e : IntKind.i64.wrap ((60 : Int).tdiv 60) = 1 := by decide
    rw [e, w1, b.2.1, c.2.1, w64 (n := sec / 60 % 60 * 60) (by omega) (by omega), w64 (n := sec / 3600 * 3600 + sec / 60 % 60 * 60) (by omega) (by omega), w64 (n := sec % 60 * 1) (by omega) (by omega), w64 (by omega) (by omega)]
    omega

theorem body_last {sec : Int} (h0 : 0 ≤ sec) : ∃ n, 0 ≤ n ∧ n ≤ 9 ∧ (bodyAt sec).getLast? = some (dgB n) := by
  unfold bodyAt
  by_cases h : sec % 60 = 0
  · rw [if_pos h]
    refine ⟨sec / 60 % 60 % 10, by omega, by omega, ?_⟩
    simp [twoB]
  · rw [if_neg h]
    refine ⟨sec % 60 % 10, by omega, by omega, ?_⟩
    simp [twoB]

theorem letK_digit {n : Int} (h0 : 0 ≤ n) (h9 : n ≤ 9) : letK (dgB n) = 0 := by
  obtain ⟨m, rfl⟩ := Int.eq_ofNat_of_zero_le h0
  have : ∀ k : Fin 10, letK (dgB ((k.val : Nat) : Int)) = 0 := by decide +kernel
  exact this ⟨m, by omega⟩

theorem txtAt_ne (sec k : Int) : txtAt sec k ≠ [45] := by
  intro h
  have := congrArg List.length h
  unfold txtAt at this
  have l2 : ∀ n, (twoB n).length = 2 := fun _ => rfl
  simp [l2] at this
  omega

theorem txtAt_len (sec k : Int) : (txtAt sec k).length ≤ 20 := by
  have l2 : ∀ n, (twoB n).length = 2 := fun _ => rfl
  have lo := oneTwo_len (sec / 3600)
  unfold txtAt
  split <;> split <;> simp [l2] <;> omega

theorem back_at {sec k : Int} (hr : rightAt sec k = true) : readAtV (txtAt sec k) = goodAt sec k := by
  obtain ⟨h0, h1, hk⟩ := rightAt_spec hr
  have hsec := body_sec h0 h1
  have hat : atV (bodyAt sec) k = goodAt sec k := by unfold atV; rw [hsec, hr]; rfl
  unfold readAtV
  rw [c_eqsF (txtAt_ne sec k), txtAt_body]
  rcases hk with rfl | rfl | rfl
  · rw [if_pos rfl, List.append_nil]
    obtain ⟨n, a, b, c⟩ := body_last h0
    rw [c]
    simp only
    rw [if_pos (letK_digit a b), hat]
  · have e : (bodyAt sec ++ (if (115 : Int) = 119 then [] else [UInt8.ofNat (115 : Int).toNat])) = bodyAt sec ++ [115] := rfl
    rw [e, List.getLast?_append]
    simp only [List.getLast?_singleton, Option.some_or]
    have hl : letK 115 = 115 := rfl
    rw [hl, if_neg (by omega), List.dropLast_concat, hat]
  · have e : (bodyAt sec ++ (if (117 : Int) = 119 then [] else [UInt8.ofNat (117 : Int).toNat])) = bodyAt sec ++ [117] := rfl
    rw [e, List.getLast?_append]
    simp only [List.getLast?_singleton, Option.some_or]
    have hl : letK 117 = 117 := rfl
    rw [hl, if_neg (by omega), List.dropLast_concat, hat]

theorem whenTexts_s (k wd n : Int) {sec kd : Int} (hs : In64 sec) : computuslaw07_WhenTexts k wd n sec kd = some (.bool true) := by
  have c11 : computuslaw07_WhenTexts_c11 (textAtV sec kd |>.tnth 0).toS (textAtV sec kd |>.tnth 1).toI sec kd = some (.bool true) := by
    rw [computuslaw07_WhenTexts_c11_eq, known_s]
    unfold textAtV
    cases hr : rightAt sec kd with
    | false => rfl
    | true =>
      simp only [cond_true, tn0, tn1, toS_str, toI_int]
      rw [c_eqT rfl, readAt_s _ (by have := txtAt_len sec kd; omega), back_at hr]
      simp only [Option.bind_some, goodAt, tn0, tn1, ag0, ag1, toI_int, eqB_self, Bool.not_true, cond_false, toB_bool]
  rw [computuslaw07_WhenTexts_eq, computuslaw07_given_eq, rtextOn_s, textAt_s hs, rtextAt_s hs]
  simp only [Option.bind_some, ag0, ag1, ag2, toI_int, textOn_s, eqS_self, eqB_self, Bool.not_true, cond_false]
  rw [computuslaw07_WhenTexts_c7_eq, c11]
  unfold textOnV
  cases hr : rightV k wd n with
  | false => rfl
  | true =>
    simp only [cond_true, tn0, tn1, toS_str, toI_int]
    rw [c_eqT rfl, readOn_s _ (by have := txtOn_len hr; omega), back_on hr]
    simp only [Option.bind_some, goodOn, tn0, tn1, ag0, ag1, ag2, toI_int, computuslaw07_taken_eq, eqB_self, Bool.and_self, Bool.not_true, cond_false]
end Dv
