/- The evaluator's library. -/
import Derived.Test.YtdniadhpgohccaaGreatDoorL1
import Derived.Laws.BitsLemmas
set_option linter.unusedVariables false
set_option linter.unusedSimpArgs false
namespace Dv
open Go
theorem w64 {n : Int} (h1 : -9223372036854775808 ≤ n) (h2 : n ≤ 9223372036854775807) : IntKind.i64.wrap n = n := by rw [IntKind.wrap_i64]; omega
theorem w32 {n : Int} (h1 : -2147483648 ≤ n) (h2 : n ≤ 2147483647) : IntKind.i32.wrap n = n := by rw [IntKind.wrap_i32]; omega
theorem wu8 {n : Int} (h1 : 0 ≤ n) (h2 : n ≤ 255) : IntKind.u8.wrap n = n := by rw [IntKind.wrap_u8]; omega
theorem wu64 {n : Int} (h1 : 0 ≤ n) (h2 : n ≤ 18446744073709551615) : IntKind.u64.wrap n = n := by
 simp [IntKind.wrap, IntKind.bits, IntKind.signed]; omega
section
variable {α : Type} {x y : α} {a b n : Int} {i j : Nat} {s t : List UInt8}
theorem c_not (c : Bool) : (bif !c then x else y) = bif c then y else x := by cases c <;> rfl
theorem zjf : (bif true then x else y) = x := rfl
theorem zv5 : (bif false then x else y) = y := rfl
theorem c_eqT (h : a = b) : (bif eqB a b then x else y) = x := by rw [eqB, decide_eq_true h]; rfl
theorem c_eqF (h : ¬ a = b) : (bif eqB a b then x else y) = y := by rw [eqB, decide_eq_false h]; rfl
theorem c_ltT (h : a < b) : (bif ltB a b then x else y) = x := by rw [ltB, decide_eq_true h]; rfl
theorem c_ltF (h : ¬ a < b) : (bif ltB a b then x else y) = y := by rw [ltB, decide_eq_false h]; rfl
theorem c_leT (h : a ≤ b) : (bif leB a b then x else y) = x := by rw [leB, decide_eq_true h]; rfl
theorem c_leF (h : ¬ a ≤ b) : (bif leB a b then x else y) = y := by rw [leB, decide_eq_false h]; rfl
theorem ztg (h : i < j) : (bif ltN i j then x else y) = x := by rw [ltN, decide_eq_true h]; rfl
theorem zmt (h : ¬ i < j) : (bif ltN i j then x else y) = y := by rw [ltN, decide_eq_false h]; rfl
theorem c_lenT (h : i ≤ j) : (bif leN i j then x else y) = x := by rw [leN, decide_eq_true h]; rfl
theorem c_lenF (h : ¬ i ≤ j) : (bif leN i j then x else y) = y := by rw [leN, decide_eq_false h]; rfl
theorem c_inT (h : b ≤ a ∧ a < n) : (bif inB b a n then x else y) = x := by rw [inB, decide_eq_true h]; rfl
theorem zq2 (h : s = t) : (bif eqS s t then x else y) = x := by rw [eqS, decide_eq_true h]; rfl
theorem zd6 (h : ¬ s = t) : (bif eqS s t then x else y) = y := by rw [eqS, decide_eq_false h]; rfl
end
section
variable (k : IntKind) (n : Int) (b : Bool) (s : List UInt8) (z : Nat) (l r : List PV) (v0 v1 v2 v3 v4 : PV)
theorem zo : (PV.int k n).toI = n := rfl
theorem zr : (PV.bool b).toB = b := rfl
theorem z2j : (PV.str s).toS = s := rfl
theorem zbx : (PV.sl z l).toL = l := rfl
theorem tn0 : (PV.tuple (v0 :: r)).tnth 0 = v0 := rfl
theorem tn1 : (PV.tuple (v0 :: v1 :: r)).tnth 1 = v1 := rfl
theorem tn2 : (PV.tuple (v0 :: v1 :: v2 :: r)).tnth 2 = v2 := rfl
theorem tn3 : (PV.tuple (v0 :: v1 :: v2 :: v3 :: r)).tnth 3 = v3 := rfl
theorem ag0 : (PV.agg (v0 :: r)).nth 0 = v0 := rfl
theorem ag1 : (PV.agg (v0 :: v1 :: r)).nth 1 = v1 := rfl
theorem ag2 : (PV.agg (v0 :: v1 :: v2 :: r)).nth 2 = v2 := rfl
end
theorem zjo {a b : Int} (ha : 0 ≤ a) : a.tmod b = a % b := Int.tmod_eq_emod_of_nonneg ha
theorem za3 {a b : Int} (ha : 0 ≤ a) : a.tdiv b = a / b := Int.tdiv_eq_ediv_of_nonneg ha
theorem zid {a b : Int} (hb : 0 < b) : (if a.tmod b < 0 then a.tmod b + b else a.tmod b) = a % b := by
 rcases Int.lt_or_le a 0 with h | h
 ·have h1 := Int.tmod_add_mul_tdiv a b
  have h2 := Int.emod_nonneg a (by omega : b ≠ 0)
  have h3 := Int.emod_lt_of_pos a hb
  have h4 : a.tmod b = -((-a).tmod b) := by rw [Int.neg_tmod]; omega
  have h6 : (-a).tmod b = (-a) % b := zjo (by omega)
  have h7 := Int.emod_nonneg (-a) (by omega : b ≠ 0)
  have h8 := Int.emod_lt_of_pos (-a) hb
  have h9 : a.tmod b ≤ 0 := by omega
  have h5 : -b < a.tmod b := by omega
  split
  ·have : (a.tmod b + b) % b = a % b := by
    conv => rhs; rw [← h1]
    rw [Int.add_emod_right, Int.add_mul_emod_self_left]
   rw [← this, Int.emod_eq_of_lt (by omega) (by omega)]
  ·have : a.tmod b = 0 := by omega
   rw [this]
   rw [this, Int.zero_add] at h1
   rw [← h1, Int.mul_emod_right]
 ·rw [zjo h]
  have := Int.emod_nonneg a (by omega : b ≠ 0)
  rw [if_neg (by omega)]
theorem zub {a b : Int} (hb : 0 < b) : (if a.tmod b < 0 then a.tdiv b - 1 else a.tdiv b) = a / b := by
 have h0 := zid (a := a) hb
 have h1 := Int.tmod_add_mul_tdiv a b
 have h2 := Int.emod_add_mul_ediv a b
 have key : ∀ x y : Int, b * x = b * y → x = y := fun x y h => Int.eq_of_mul_eq_mul_left (by omega) h
 split at h0
 ·rw [if_pos (by assumption)]
  apply key
  rw [Int.mul_sub]; omega
 ·rw [if_neg (by assumption)]
  apply key
  omega
def leapI (y : Int) : Bool := decide (y % 4 = 0) && (!decide (y % 100 = 0) || decide (y % 400 = 0))
def lenI (y m : Int) : Int := if m = 2 then (if leapI y then 29 else 28) else if m = 4 ∨ m = 6 ∨ m = 9 ∨ m = 11 then 30 else if 1 ≤ m ∧ m ≤ 12 then 31 else 0
def zdc (k : Int) : Int := 365 * k + (k + 3) / 4 - (k + 99) / 100 + (k + 399) / 400
def jan1 (y : Int) : Int := (y - 2000) / 400 * 146097 + zdc ((y - 2000) % 400)
def z48 (y m : Int) : Int :=
 let l := if leapI y then 1 else 0
 if m ≤ 1 then 0 else if m = 2 then 31 else if m = 3 then 59 + l else if m = 4 then 90 + l else if m = 5 then 120 + l else if m = 6 then 151 + l
 else if m = 7 then 181 + l else if m = 8 then 212 + l else if m = 9 then 243 + l else if m = 10 then 273 + l else if m = 11 then 304 + l else if m = 12 then 334 + l else 365 + l
def dayI (y m d : Int) : Int := jan1 y + z48 y m + d - 1
def wkI (n : Int) : Int := (n % 7 + 6) % 7
theorem zit (y : Int) : leapI y = true ↔ (y % 4 = 0 ∧ (y % 100 ≠ 0 ∨ y % 400 = 0)) := by simp [leapI]
theorem zyh {k : Int} (h0 : 0 ≤ k) (h1 : k < 400) : zdc (k + 1) = zdc k + 365 + (if leapI (2000 + k) then 1 else 0) := by
 unfold zdc
 by_cases hl : leapI (2000 + k) = true
 ·rw [if_pos hl]
  rw [zit] at hl
  omega
 ·rw [if_neg hl]
  rw [zit] at hl
  omega
theorem zeq {y m : Int} (h1 : 1 ≤ m) (h2 : m ≤ 12) : z48 y (m + 1) = z48 y m + lenI y m := by
 have : m = 1 ∨ m = 2 ∨ m = 3 ∨ m = 4 ∨ m = 5 ∨ m = 6 ∨ m = 7 ∨ m = 8 ∨ m = 9 ∨ m = 10 ∨ m = 11 ∨ m = 12 := by omega
 unfold z48 lenI
 rcases this with rfl | rfl | rfl | rfl | rfl | rfl | rfl | rfl | rfl | rfl | rfl | rfl <;> cases leapI y <;> simp
theorem zis (y m : Int) (h1 : 1 ≤ m) (h2 : m ≤ 12) : 28 ≤ lenI y m ∧ lenI y m ≤ 31 := by
 unfold lenI
 repeat' split
 all_goals omega
def marchI (y m d : Int) : Int :=
 (if m ≤ 2 then y - 1 else y) / 400 * 146097 + (if m ≤ 2 then y - 1 else y) % 400 * 365 + (if m ≤ 2 then y - 1 else y) % 400 / 4 - (if m ≤ 2 then y - 1 else y) % 400 / 100 +
  (153 * ((if m ≤ 2 then m + 12 else m) - 3) + 2) / 5 + d - 1 - 730425
theorem z1f3 (y : Int) : ∃ q a c d : Int, y = 400 * q + 100 * a + 4 * c + d ∧ 0 ≤ a ∧ a ≤ 3 ∧ 0 ≤ c ∧ c ≤ 24 ∧ 0 ≤ d ∧ d ≤ 3 :=
 ⟨y / 400, y % 400 / 100, y % 400 % 100 / 4, y % 400 % 100 % 4, by omega, by omega, by omega, by omega, by omega, by omega, by omega⟩
theorem z1g4 {q a c d : Int} (a0 : 0 ≤ a) (a3 : a ≤ 3) (c0 : 0 ≤ c) (c4 : c ≤ 24) (d0 : 0 ≤ d) (d3 : d ≤ 3) :
  jan1 (400 * q + 100 * a + 4 * c + d) = (q - 5) * 146097 + 365 * (100 * a + 4 * c + d) + (25 * a + c + (if d = 0 then 0 else 1)) - (a + (if c = 0 ∧ d = 0 then 0 else 1)) + (if a = 0 ∧ c = 0 ∧ d = 0 then 0 else 1) := by
 unfold jan1 zdc
 have e1 : (400 * q + 100 * a + 4 * c + d - 2000) / 400 = q - 5 := by omega
 have e2 : (400 * q + 100 * a + 4 * c + d - 2000) % 400 = 100 * a + 4 * c + d := by omega
 rw [e1, e2]
 have e3 : (100 * a + 4 * c + d + 3) / 4 = 25 * a + c + (if d = 0 then 0 else 1) := by split <;> omega
 have e4 : (100 * a + 4 * c + d + 99) / 100 = a + (if c = 0 ∧ d = 0 then 0 else 1) := by split <;> omega
 have e5 : (100 * a + 4 * c + d + 399) / 400 = (if a = 0 ∧ c = 0 ∧ d = 0 then 0 else 1) := by split <;> omega
 rw [e3, e4, e5]
 omega
theorem z1br {q a c d : Int} (a0 : 0 ≤ a) (a3 : a ≤ 3) (c0 : 0 ≤ c) (c4 : c ≤ 24) (d0 : 0 ≤ d) (d3 : d ≤ 3) :
  (400 * q + 100 * a + 4 * c + d) / 400 = q ∧ (400 * q + 100 * a + 4 * c + d) % 400 = 100 * a + 4 * c + d ∧ (100 * a + 4 * c + d) / 4 = 25 * a + c ∧ (100 * a + 4 * c + d) / 100 = a := by
 refine ⟨?_, ?_, ?_, ?_⟩ <;> omega
theorem z1g0 {q a c d : Int} (a0 : 0 ≤ a) (a3 : a ≤ 3) (c0 : 0 ≤ c) (c4 : c ≤ 24) (d0 : 0 ≤ d) (d3 : d ≤ 3) :
  leapI (400 * q + 100 * a + 4 * c + d) = true ↔ d = 0 ∧ (c ≠ 0 ∨ a = 0) := by
 rw [zit]
 constructor
 ·intro h; omega
 ·intro h; omega
def zpr (y : Int) : Int := y / 400 * 146097 + y % 400 * 365 + y % 400 / 4 - y % 400 / 100
theorem z13a (y : Int) : zpr y - 730425 = jan1 y + 59 + (if leapI y then 1 else 0) := by
 obtain ⟨q, a, c, d, rfl, a0, a3, c0, c4, d0, d3⟩ := z1f3 y
 obtain ⟨e1, e2, e3, e4⟩ := z1br (q := q) a0 a3 c0 c4 d0 d3
 have hl := z1g0 (q := q) a0 a3 c0 c4 d0 d3
 unfold zpr
 rw [z1g4 a0 a3 c0 c4 d0 d3, e1, e2, e3, e4]
 by_cases h : leapI (400 * q + 100 * a + 4 * c + d) = true
 ·have := hl.1 h
  rw [if_pos h]
  split <;> split <;> split <;> omega
 ·have : ¬ (d = 0 ∧ (c ≠ 0 ∨ a = 0)) := fun x => h (hl.2 x)
  rw [if_neg h]
  split <;> split <;> split <;> omega
theorem z1f2 : zdc 400 = 146097 := by unfold zdc; omega
theorem z1co : zdc 0 = 0 := by unfold zdc; omega
theorem leap_2000 (y : Int) : leapI (2000 + (y - 2000) % 400) = leapI y := by
 rw [Bool.eq_iff_iff, zit, zit]
 omega
theorem zsi (y : Int) : jan1 (y + 1) = jan1 y + 365 + (if leapI y then 1 else 0) := by
 have hs := zyh (k := (y - 2000) % 400) (by omega) (by omega)
 rw [leap_2000] at hs
 unfold jan1
 by_cases h : (y - 2000) % 400 = 399
 ·have e1 : (y + 1 - 2000) % 400 = 0 := by omega
  have e2 : (y + 1 - 2000) / 400 = (y - 2000) / 400 + 1 := by omega
  rw [e1, e2, z1co]
  rw [h] at hs ⊢
  have e3 : zdc (399 + 1) = 146097 := z1f2
  rw [e3] at hs
  omega
 ·have e1 : (y + 1 - 2000) % 400 = (y - 2000) % 400 + 1 := by omega
  have e2 : (y + 1 - 2000) / 400 = (y - 2000) / 400 := by omega
  rw [e1, e2, hs]
  omega
theorem z1bs (y : Int) : zpr (y - 1) - 730425 = jan1 y - 306 := by
 rw [z13a]
 have := zsi (y - 1)
 rw [show y - 1 + 1 = y by omega] at this
 omega
theorem z15s (y : Int) : z48 y 1 = 0 := rfl
theorem z1e2 (y : Int) : z48 y 2 = 31 := rfl
theorem z1e1 (y : Int) : z48 y 3 = 59 + (if leapI y then 1 else 0) := rfl
theorem z1e0 (y : Int) : z48 y 4 = 90 + (if leapI y then 1 else 0) := rfl
theorem z1dz (y : Int) : z48 y 5 = 120 + (if leapI y then 1 else 0) := rfl
theorem z1dy (y : Int) : z48 y 6 = 151 + (if leapI y then 1 else 0) := rfl
theorem z1dx (y : Int) : z48 y 7 = 181 + (if leapI y then 1 else 0) := rfl
theorem z1dw (y : Int) : z48 y 8 = 212 + (if leapI y then 1 else 0) := rfl
theorem z1dv (y : Int) : z48 y 9 = 243 + (if leapI y then 1 else 0) := rfl
theorem z18u (y : Int) : z48 y 10 = 273 + (if leapI y then 1 else 0) := rfl
theorem z18t (y : Int) : z48 y 11 = 304 + (if leapI y then 1 else 0) := rfl
theorem zzv (y : Int) : z48 y 12 = 334 + (if leapI y then 1 else 0) := rfl
theorem zzw {y m d : Int} (h1 : 1 ≤ m) (h2 : m ≤ 12) :
  zpr (if m ≤ 2 then y - 1 else y) + (153 * ((if m ≤ 2 then m + 12 else m) - 3) + 2) / 5 + d - 1 - 730425 = dayI y m d := by
 have hA := z13a y
 have hB := z1bs y
 have hm : m = 1 ∨ m = 2 ∨ m = 3 ∨ m = 4 ∨ m = 5 ∨ m = 6 ∨ m = 7 ∨ m = 8 ∨ m = 9 ∨ m = 10 ∨ m = 11 ∨ m = 12 := by omega
 unfold dayI
 generalize hl : (if leapI y = true then (1 : Int) else 0) = l at hA
 rcases hm with rfl | rfl | rfl | rfl | rfl | rfl | rfl | rfl | rfl | rfl | rfl | rfl
 ·rw [if_pos (by decide), if_pos (by decide), z15s]; omega
 ·rw [if_pos (by decide), if_pos (by decide), z1e2]; omega
 ·rw [if_neg (by decide), if_neg (by decide), z1e1, hl]; omega
 ·rw [if_neg (by decide), if_neg (by decide), z1e0, hl]; omega
 ·rw [if_neg (by decide), if_neg (by decide), z1dz, hl]; omega
 ·rw [if_neg (by decide), if_neg (by decide), z1dy, hl]; omega
 ·rw [if_neg (by decide), if_neg (by decide), z1dx, hl]; omega
 ·rw [if_neg (by decide), if_neg (by decide), z1dw, hl]; omega
 ·rw [if_neg (by decide), if_neg (by decide), z1dv, hl]; omega
 ·rw [if_neg (by decide), if_neg (by decide), z18u, hl]; omega
 ·rw [if_neg (by decide), if_neg (by decide), z18t, hl]; omega
 ·rw [if_neg (by decide), if_neg (by decide), zzv, hl]; omega
theorem z1bu {y : Int} (h1 : -4800 ≤ y) (h2 : y ≤ 294500) : -3000000 ≤ jan1 y ∧ jan1 y ≤ 108000000 := by
 unfold jan1 zdc; omega
theorem zpp {y m : Int} (h1 : 1 ≤ m) (h2 : m ≤ 12) : 0 ≤ z48 y m ∧ z48 y m ≤ 366 := by
 have hm : m = 1 ∨ m = 2 ∨ m = 3 ∨ m = 4 ∨ m = 5 ∨ m = 6 ∨ m = 7 ∨ m = 8 ∨ m = 9 ∨ m = 10 ∨ m = 11 ∨ m = 12 := by omega
 have hl : (if leapI y = true then (1 : Int) else 0) = 0 ∨ (if leapI y = true then (1 : Int) else 0) = 1 := by cases leapI y <;> simp
 rcases hm with rfl | rfl | rfl | rfl | rfl | rfl | rfl | rfl | rfl | rfl | rfl | rfl
 ·rw [z15s]; omega
 ·rw [z1e2]; omega
 ·rw [z1e1]; omega
 ·rw [z1e0]; omega
 ·rw [z1dz]; omega
 ·rw [z1dy]; omega
 ·rw [z1dx]; omega
 ·rw [z1dw]; omega
 ·rw [z1dv]; omega
 ·rw [z18u]; omega
 ·rw [z18t]; omega
 ·rw [zzv]; omega
end Dv

namespace Dv
open Go
theorem callN_cap (E : Env) (tis : List TI) (g : Nat) (a b args : List PV) : ∀ n, callN E n tis (.func (.func g) a b) args = callN E n tis (.func (.func g) [] []) (a ++ args ++ b)
 | 0 => rfl
 | n + 1 => by simp only [callN, List.nil_append, List.append_nil]
theorem callW_cap (E : Env) (tis : List TI) (g : Nat) (a b args : List PV) : callW E tis (.func (.func g) a b) args = callW E tis (.func (.func g) [] []) (a ++ args ++ b) := by
 unfold callW
 congr 1
 funext n
 exact callN_cap E tis g a b args n
theorem z1d4 {α : Type} {s : List α} {n : Int} (h0 : 0 ≤ n) (h : n ≤ s.length) : takeS s n = some (s.take n.toNat) := by
 unfold takeS; rw [decide_eq_true ⟨h0, h⟩]; rfl
theorem dropS_ok {α : Type} {s : List α} {n : Int} (h0 : 0 ≤ n) (h : n ≤ s.length) : dropS s n = some (s.drop n.toNat) := by
 unfold dropS; rw [decide_eq_true ⟨h0, h⟩]; rfl
theorem zg7 {α : Type} {s : List α} {n : Nat} (h : n ≤ s.length) : takeS s (n : Int) = some (s.take n) := by rw [z1d4 (by omega) (by omega)]; rfl
theorem z8q {α : Type} {s : List α} {n : Nat} (h : n ≤ s.length) : dropS s (n : Int) = some (s.drop n) := by rw [dropS_ok (by omega) (by omega)]; rfl
theorem zgl {s : List UInt8} {i : Nat} {c : UInt8} (h : s[i]? = some c) : atS s (i : Int) = some (c.toNat : Int) := by
 unfold atS; rw [decide_eq_true (by omega)]; simp [h]
theorem atS_z {s : List UInt8} {c : UInt8} (h : s[0]? = some c) : atS s 0 = some (c.toNat : Int) := zgl (i := 0) h
theorem z16n {a b : List UInt8} (h : a.length + b.length ≤ 4611686018427387904) : catS a b = some (a ++ b) := by
 unfold catS; rw [decide_eq_true (by omega)]; rfl
theorem ze9 {k : Nat} {l x : List PV} (h : (l.length + x.length) * k ≤ 70368744177664) : appL k l x = some (l ++ x) := by
 unfold appL; rw [decide_eq_true (by omega)]; rfl
theorem rdT_byte {s : List UInt8} {i : Nat} {c : UInt8} (h : s[i]? = some c) : rdT (tiInt .u8) (s.map byteV) i 0 = some (byteV c) := by
 unfold rdT; rw [List.getElem?_map, h]; rfl
theorem z15k {l : List (List UInt8)} {i : Nat} {c : List UInt8} (h : l[i]? = some c) : rdT tiStr (l.map PV.str) i 0 = some (.str c) := by
 unfold rdT; rw [List.getElem?_map, h]; rfl
theorem rdI_n {t : TI} {l : List PV} (i : Nat) : rdI t l (i : Int) = rdT t l i 0 := by
 unfold rdI; rw [decide_eq_true (by omega)]; rfl
theorem zr1 : ∀ (s : List UInt8), zd7 (s.map byteV) = some s
 | [] => rfl
 | c :: s => by
  have : zd7 ((c :: s).map byteV) = (zd7 (s.map byteV)).map (UInt8.ofNat ((c.toNat : Int)).toNat :: ·) := rfl
  rw [this, zr1 s]
  simp
theorem stC_map {s : List UInt8} {i : Nat} (h : i < s.length) (c : UInt8) : stC (s.map byteV) i 0 [byteV c] = some ((s.set i c).map byteV) := by
 unfold stC
 rw [List.getElem?_map, List.getElem?_eq_getElem h]
 have : (Option.map byteV (some s[i])) = some (.int .u8 (s[i].toNat : Int)) := rfl
 rw [this]
 simp only [List.map_set]
def lowB (c : UInt8) : UInt8 := if 65 ≤ c.toNat ∧ c.toNat ≤ 90 then c + 32 else c
def lowS (s : List UInt8) : List UInt8 := s.map lowB
@[simp] theorem lowS_length (s : List UInt8) : (lowS s).length = s.length := by simp [lowS]
theorem or32 : ∀ n : Fin 256, 65 ≤ n.val → n.val ≤ 90 → orI .u8 (n.val : Int) 32 = ((n.val + 32 : Nat) : Int) := by decide +kernel
theorem add32 (c : UInt8) (h : 65 ≤ c.toNat ∧ c.toNat ≤ 90) : ((c + 32).toNat : Int) = (c.toNat : Int) + 32 := by
 have : (c + 32).toNat = (c.toNat + 32) % 256 := by rw [UInt8.toNat_add]; rfl
 omega
def sameB (a b : List UInt8) : Bool := eqS (lowS a) (lowS b)
theorem getD_byte (c : UInt8) : (byteV c).toI = (c.toNat : Int) := rfl
end Dv

namespace Dv
open Go
theorem runW_runN (E : Env) (tis : List TI) : ∀ n c r, runN E (callW E) tis n c = some r → runW E tis c = some r := by
 intro n
 induction n with
 | zero => intro c r h; cases h
 | succ n ih =>
  intro c r h
  rw [z186]
  exact zuc E (fun _ _ _ _ h => h) (fun c' r' h' => ih _ _ h') _ c r h
theorem runN_tis (E : Env) (C : Orc) (tis tis' : List TI) : ∀ n c r, runN E C tis n c = some r → zad tis' r = true → runN E C tis' n c = some r := by
 intro n
 induction n with
 | zero => intro c r h; cases h
 | succ n ih =>
  intro c r h ht
  simp only [runN] at h ⊢
  rw [za5] at h ⊢
  cases hs : stepD E (sharp c) with
  | none => rw [hs] at h; cases h
  | some o =>
   rw [hs] at h
   simp only [Option.bind_some] at h ⊢
   cases o with
   | next c' => exact ih _ _ h ht
   | done v =>
    simp only [Out.go, filt] at h ⊢
    cases hv : zad tis v with
    | false => rw [hv] at h; cases h
    | true =>
     rw [hv] at h
     simp only [cond_true, Option.some.injEq] at h
     subst h
     rw [ht]; rfl
   | ask a f =>
    simp only [Out.go] at h ⊢
    cases hc : C a.tis a.f a.args with
    | none => rw [hc] at h; cases h
    | some v => rw [hc] at h; exact ih _ _ h ht
theorem callW_tis (E : Env) {g : Nat} {args : List PV} {v : PV} (h : callF E g args = some v) {tis : List TI} (ht : zad tis v = true) : callW E tis (.func (.func g) [] []) args = some v := by
 obtain ⟨n, hn⟩ := zzq h
 refine z18y (fun n r h => zbs E n _ _ _ r h) (n := n) ?_
 cases n with
 | zero => cases hn
 | succ n =>
  simp only [callN] at hn ⊢
  cases he : zai g E.ext with
  | some m =>
   rw [he] at hn
   simp only at hn ⊢
   cases hm : m ([] ++ args ++ []) with
   | none => rw [hm] at hn; cases hn
   | some u =>
    rw [hm] at hn
    simp only [filt] at hn ⊢
    cases hu : zad (funTI E g) u with
    | false => rw [hu] at hn; cases hn
    | true =>
     rw [hu] at hn
     simp only [cond_true, Option.some.injEq] at hn
     subst hn
     rw [ht]; rfl
  | none =>
   rw [he] at hn
   simp only at hn ⊢
   cases hs : zkn E g ([] ++ args ++ []) with
   | none => rw [hs] at hn; cases hn
   | some c => rw [hs] at hn; exact runN_tis E _ _ _ _ _ _ hn ht
mutual
def eqPV : PV → PV → Bool
 | .int k n, .int k' n' => decide (k = k') && decide (n = n')
 | .str a, .str b => decide (a = b)
 | .bool a, .bool b => a == b
 | .sl s a, .sl s' b => (s == s') && eqPVL a b
 | .agg a, .agg b => eqPVL a b
 | _, _ => false
def eqPVL : List PV → List PV → Bool
 | [], [] => true
 | a :: as, b :: bs => eqPV a b && eqPVL as bs
 | _, _ => false
end
mutual
theorem z1gi : ∀ (a b : PV), eqPV a b = true → a = b
 | a, b, h => by
  unfold eqPV at h
  split at h
  ·simp only [Bool.and_eq_true, decide_eq_true_eq] at h; rw [h.1, h.2]
  ·rw [of_decide_eq_true h]
  ·rename_i x y; cases x <;> cases y <;> first | rfl | cases h
  ·rename_i s a s' b
   simp only [Bool.and_eq_true, beq_iff_eq] at h
   rw [h.1, zk5 a b h.2]
  ·rename_i a b; rw [zk5 a b h]
  ·cases h
theorem zk5 : ∀ (a b : List PV), eqPVL a b = true → a = b
 | [], [], _ => rfl
 | a :: as, b :: bs, h => by
  unfold eqPVL at h
  simp only [Bool.and_eq_true] at h
  rw [z1gi a b h.1, zk5 as bs h.2]
 | [], _ :: _, h => by unfold eqPVL at h; cases h
 | _ :: _, [], h => by unfold eqPVL at h; cases h
end
abbrev Tab := List (Nat × List PV × PV)
def z14u (g : Nat) (args : List PV) : Tab → Option PV
 | [] => none
 | (f, as, v) :: r => bif (f == g) && eqPVL as args then some v else z14u g args r
def tabC (T : Tab) : Orc := fun tis f args => match f with
 | .func (.func g) [] [] => match z14u g args T with | some v => bif zad tis v then some v else none | none => none
 | _ => none
def TabOk (E : Env) : Tab → Prop
 | [] => True
 | (g, args, v) :: r => callF E g args = some v ∧ TabOk E r
theorem z12t {E : Env} {g : Nat} {args : List PV} {v : PV} : ∀ {T : Tab}, TabOk E T → z14u g args T = some v → callF E g args = some v
 | [], _, h => by cases h
 | (f, as, u) :: r, ⟨h1, h2⟩, h => by
  unfold z14u at h
  cases hc : ((f == g) && eqPVL as args) with
  | false => rw [hc] at h; exact z12t h2 h
  | true =>
   rw [hc] at h
   simp only [cond_true, Option.some.injEq] at h
   simp only [Bool.and_eq_true, beq_iff_eq] at hc
   rw [← hc.1, ← zk5 _ _ hc.2, ← h]; exact h1
theorem tabC_le {E : Env} {T : Tab} (hT : TabOk E T) : OLe (tabC T) (callW E) := by
 intro tis f args r h
 unfold tabC at h
 split at h
 ·rename_i g
  split at h
  ·rename_i v hv
   cases ht : zad tis v with
   | false => rw [ht] at h; cases h
   | true =>
    rw [ht] at h
    simp only [cond_true, Option.some.injEq] at h
    subst h
    exact callW_tis E (z12t hT hv) ht
  ·cases h
 ·cases h
def tabRun (E : Env) (T : Tab) (n g : Nat) (args : List PV) : Option PV := match zkn E g args with | some c => runN E (tabC T) (funTI E g) n c | none => none
theorem z1d5 {E : Env} {T : Tab} (hT : TabOk E T) {n g : Nat} {args : List PV} (hx : zai g E.ext = none) {r : PV} (h : tabRun E T n g args = some r) : callF E g args = some r := by
 rw [z8 E g args hx]
 unfold ztw
 rw [zys]
 unfold tabRun at h
 cases hs : zkn E g args with
 | none => rw [hs] at h; cases h
 | some c =>
  rw [hs] at h
  simp only at h ⊢
  rw [zyr]
  exact runW_runN E _ n c r (zim E (tabC_le hT) _ n n c r (Nat.le_refl _) h)
end Dv
