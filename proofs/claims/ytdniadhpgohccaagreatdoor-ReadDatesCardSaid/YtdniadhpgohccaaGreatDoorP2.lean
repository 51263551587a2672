/- The seat's proofs. -/
import Derived.Test.YtdniadhpgohccaaGreatDoorP1
import Derived.Test.YtdniadhpgohccaaGreatDoorQ2
import Derived.Test.YtdniadhpgohccaaGreatDoorL4
set_option linter.unusedVariables false
set_option linter.unusedSimpArgs false
namespace Dv
open Go
def partB (n : Int) (c : UInt8) : List UInt8 := if n = 0 then [] else decI n ++ [c]
def secB (u : Int) : List UInt8 := if u = 0 then [] else (if u < 0 then [45] else []) ++ (digN ((absI u).toNat / 1000000) ++ (fracN ((absI u).toNat % 1000000) ++ [83]))
def hourI (u : Int) : Int := u.tdiv 3600000000
def minI' (u : Int) : Int := (u.tmod 3600000000).tdiv 60000000
def isoH (m d : Int) : List UInt8 := 80 :: (partB (m.tdiv 12) 89 ++ (partB (m.tmod 12) 77 ++ partB d 68))
def isoT (m d u : Int) : List UInt8 := if u = 0 then isoH m d else isoH m d ++ (84 :: (partB (hourI u) 72 ++ (partB (minI' u) 77 ++ secB (u.tmod 60000000))))
def isoB (m d u : Int) : List UInt8 := if isoT m d u = [80] then [80, 84, 48, 83] else isoT m d u
end Dv

namespace Dv
open Go
def spanV (i m d u a b c : Int) : PV :=
 if spanR i m d u = true ∧ styleR a b c = true then
  if i ≠ 0 then .tuple [.str (if i < 0 then [45, 105, 110, 102, 105, 110, 105, 116, 121] else [105, 110, 102, 105, 110, 105, 116, 121]), .int .i64 0]
  else .tuple [.str (if c = 1 then wordsH m d u else if c = 2 then isoB m d u else pgB m d u), .int .i64 0]
 else .tuple [.str [], .int .i64 1]
end Dv

namespace Dv
open Go
def padN (s : List UInt8) : List UInt8 := List.replicate (4 - s.length) 48 ++ s
def dateN (y m d : Int) (a b : Int) : List UInt8 :=
 if a = 0 then padN (digN y.toNat) ++ ([45] ++ (twoN m.toNat ++ ([45] ++ twoN d.toNat)))
 else if b = 2 then twoN m.toNat ++ ([47] ++ (twoN d.toNat ++ ([47] ++ padN (digN y.toNat))))
 else if b = 1 then twoN d.toNat ++ ([47] ++ (twoN m.toNat ++ ([47] ++ padN (digN y.toNat))))
 else padN (digN y.toNat) ++ ([47] ++ (twoN m.toNat ++ ([47] ++ twoN d.toNat)))
end Dv

set_option maxRecDepth 20000
namespace Dv
open Go
end Dv

set_option maxRecDepth 20000
namespace Dv
open Go
def cutF (c : UInt8) : List UInt8 → List UInt8 × List UInt8 × Bool
 | [] => ([], [], false)
 | d :: r => if d = c then ([], r, true) else (d :: (cutF c r).1, (cutF c r).2.1, (cutF c r).2.2)
theorem cutF_index (c : UInt8) : ∀ s : List UInt8, (Lib.indexByte s c = -1 ∧ cutF c s = (s, [], false)) ∨ ∃ k : Nat, Lib.indexByte s c = (k : Int) ∧ k < s.length ∧ cutF c s = (s.take k, s.drop (k + 1), true)
 | [] => .inl ⟨rfl, rfl⟩
 | d :: r => by
  by_cases h : d = c
  ·subst h
   refine .inr ⟨0, by simp [Lib.indexByte], by simp, ?_⟩
   unfold cutF; rw [if_pos rfl]; rfl
  ·have hb : (d == c) = false := by simpa using h
   rcases cutF_index c r with ⟨h1, h2⟩ | ⟨k, h1, h2, h3⟩
   ·refine .inl ⟨?_, ?_⟩
    ·unfold Lib.indexByte; rw [hb, h1]; rfl
    ·unfold cutF; rw [if_neg h, h2]
   ·refine .inr ⟨k + 1, ?_, by simp; omega, ?_⟩
    ·unfold Lib.indexByte
     rw [hb, h1]
     have : ((k : Int) == -1) = false := by simp
     rw [this]; simp
    ·unfold cutF; rw [if_neg h, h3]; simp
theorem cut_s (s : List UInt8) (c : UInt8) (hs : s.length ≤ 1000000000) : zz1 s [c] = some (.tuple [.str (cutF c s).1, .str (cutF c s).2.1, .bool (cutF c s).2.2]) := by
 have e1 : (((List.length [c] : Nat)) : Int) = 1 := rfl
 have hidx : za4 s [c] = some (.int .i64 (Lib.indexByte s c)) := by
  rw [zfi, e1, c_eqF (by omega)]
  by_cases h : [c] = s
  ·subst h
   rw [zq2 rfl, zc5]
   have : Lib.indexByte [c] c = 0 := by simp [Lib.indexByte]
   rw [this]
  ·rw [zd6 h, zc4, c_eqT rfl, atS_z (c := c) rfl]
   simp only [Option.bind_some]
   rw [z184 s c]
   rfl
 rw [z121, zrp, hidx, e1]
 simp only [Option.bind_some, zo]
 rcases cutF_index c s with ⟨h1, h2⟩ | ⟨k, h1, h2, h3⟩
 ·rw [h1, c_leF (by omega), h2]; rfl
 ·rw [h1, c_leT (by omega), zg7 (by omega), w64 (by omega) (by omega), show (k : Int) + 1 = ((k + 1 : Nat) : Int) by omega, z8q (by omega), h3]
  rfl
def preB (c : UInt8) : List UInt8 → Bool
 | [] => false
 | d :: _ => d == c
def preT (c : UInt8) (s : List UInt8) : List UInt8 := bif preB c s then s.tail else s
theorem hasP_s (s : List UInt8) (c : UInt8) (hs : s.length ≤ 1000000000) : z78 s [c] = some (.bool (preB c s)) := by
 have e1 : (((List.length [c] : Nat)) : Int) = 1 := rfl
 rw [zie, e1]
 cases s with
 | nil => rfl
 | cons d r =>
  have ht : takeS (d :: r) 1 = some [d] := by rw [z1d4 (by omega) (by simp; omega)]; rfl
  rw [c_leT (by simp; omega), ht]
  simp only [Option.bind_some]
  unfold eqS preB
  congr 2
  rw [Bool.eq_iff_iff]; simp
theorem z18g {s : List UInt8} {c : UInt8} (h : preB c s = true) : dropS s (((List.length [c] : Nat)) : Int) = some (preT c s) := by
 unfold preT
 rw [h, cond_true]
 cases s with
 | nil => cases h
 | cons d r => rw [z8q (by simp)]; rfl
theorem z110 (s : List UInt8) (c : UInt8) (hs : s.length ≤ 1000000000) : zig s [c] = some (.tuple [.str (preT c s), .bool (preB c s)]) := by
 rw [zp0, zif, hasP_s s c hs]
 simp only [Option.bind_some, zr]
 cases h : preB c s with
 | false =>
  have : preT c s = s := by unfold preT; rw [h]; rfl
  rw [this]; rfl
 | true => rw [z18g h]; rfl
theorem trimP_s (s : List UInt8) (c : UInt8) (hs : s.length ≤ 1000000000) : zh0 s [c] = some (.str (preT c s)) := by
 rw [zlq, zhp, hasP_s s c hs]
 simp only [Option.bind_some, zr]
 cases h : preB c s with
 | false =>
  have : preT c s = s := by unfold preT; rw [h]; rfl
  rw [this]; rfl
 | true => rw [z18g h]; rfl
end Dv

set_option maxRecDepth 20000
namespace Dv
open Go
def sgT (t : List UInt8) (neg : Bool) : Option (Int × Bool) := if numE t = 13 then none else some (bif neg then -numN t else numN t, !eqB (numE t) 0)
def sgn (s : List UInt8) (plus : Bool) : Option (Int × Bool) := sgT (bif !preB 45 s && plus then preT 43 s else preT 45 s) (preB 45 s)
def moreF (t n by_ : Int) (ov : Bool) : Int × Bool := if In64 (n * by_) ∧ In64 (t + n * by_) then (t + n * by_, ov) else (t, true)
end Dv

namespace Dv
open Go
end Dv

set_option maxRecDepth 20000
namespace Dv
open Go
def fracF (s : List UInt8) : Option Int := if dgs s 1 6 = true then some (numN (s ++ List.replicate (6 - s.length) 48)) else none
def usF (b c : List UInt8) : Option Int :=
 if dgs b 2 2 = true ∧ dgs (cutF 46 c).1 2 2 = true then
  (if (cutF 46 c).2.2 = true then fracF (cutF 46 c).2.1 else some 0).bind fun us =>
   if numN b < 60 ∧ numN (cutF 46 c).1 < 60 then some (us + (numN b * 60000000 + numN (cutF 46 c).1 * 1000000)) else none
 else none
def timeF (s : List UInt8) (u : Int) (ov : Bool) : Option (Option (Int × Bool)) :=
 match splitB 58 s with
 | [a, b, c] => match sgn a true with
  | none => none
  | some q => match usF b c with
   | none => none
   | some us => some (some (moreF (moreF u q.1 3600000000 (ov || q.2)).1 (if preB 45 s = true then -us else us) 1 (moreF u q.1 3600000000 (ov || q.2)).2))
 | _ => some none
abbrev failV : PV := .tuple [.agg [.int .i64 0, .int .i64 0, .int .i64 0, .int .i64 0], .int .i64 13]
section
variable (i m d u : Int) (ov : Bool) (l met : List PV) (N : Nat) (c0 c1 c2 c3 c4 c5 c6 c7 c8 : Int) (ago : Bool) (s2 : List UInt8) (L : List PV)
end
end Dv

set_option maxRecDepth 20000
namespace Dv
open Go
def unitT (t : List UInt8) : Int × Int × Int × Int :=
 bif eqS t [121, 101, 97, 114] then (12, 0, 0, 1) else
 bif eqS t [121, 101, 97, 114, 115] then (12, 0, 0, 1) else
 bif eqS t [109, 111, 110] then (1, 0, 0, 2) else
 bif eqS t [109, 111, 110, 115] then (1, 0, 0, 2) else
 bif eqS t [109, 111, 110, 116, 104] then (1, 0, 0, 2) else
 bif eqS t [109, 111, 110, 116, 104, 115] then (1, 0, 0, 2) else
 bif eqS t [119, 101, 101, 107] then (0, 7, 0, 3) else
 bif eqS t [119, 101, 101, 107, 115] then (0, 7, 0, 3) else
 bif eqS t [100, 97, 121] then (0, 1, 0, 4) else
 bif eqS t [100, 97, 121, 115] then (0, 1, 0, 4) else
 bif eqS t [104, 111, 117, 114] then (0, 0, 3600000000, 5) else
 bif eqS t [104, 111, 117, 114, 115] then (0, 0, 3600000000, 5) else
 bif eqS t [109, 105, 110, 117, 116, 101] then (0, 0, 60000000, 6) else
 bif eqS t [109, 105, 110, 117, 116, 101, 115] then (0, 0, 60000000, 6) else
 bif eqS t [109, 105, 110] then (0, 0, 60000000, 6) else
 bif eqS t [109, 105, 110, 115] then (0, 0, 60000000, 6) else
 bif eqS t [115, 101, 99, 111, 110, 100] then (0, 0, 1000000, 7) else
 bif eqS t [115, 101, 99, 111, 110, 100, 115] then (0, 0, 1000000, 7) else
 bif eqS t [115, 101, 99] then (0, 0, 1000000, 7) else
 bif eqS t [115, 101, 99, 115] then (0, 0, 1000000, 7) else
 (0, 0, 0, 0)
def unitV (v : Int × Int × Int × Int) : PV := .tuple [.agg [.int .i64 0, .int .i64 v.1, .int .i64 v.2.1, .int .i64 v.2.2.1], .int .i64 v.2.2.2]
theorem unit_s (s : List UInt8) (hs : s.length ≤ 1000000) : z18c s = some (unitV (unitT (lowS s))) := by
 rw [z18b, zyp s (by show s.length ≤ 70368744177664; omega)]
 simp only [Option.bind_some, z2j, zzi, zx5, zx4, zx3, zx2, zx1]
 unfold unitT
 generalize lowS s = t
 cases eqS t [121, 101, 97, 114] with
 | true => rfl
 | false =>
 simp only [cond_false]
 cases eqS t [121, 101, 97, 114, 115] with
 | true => rfl
 | false =>
 simp only [cond_false]
 cases eqS t [109, 111, 110] with
 | true => rfl
 | false =>
 simp only [cond_false]
 cases eqS t [109, 111, 110, 115] with
 | true => rfl
 | false =>
 simp only [cond_false]
 cases eqS t [109, 111, 110, 116, 104] with
 | true => rfl
 | false =>
 simp only [cond_false]
 cases eqS t [109, 111, 110, 116, 104, 115] with
 | true => rfl
 | false =>
 simp only [cond_false]
 cases eqS t [119, 101, 101, 107] with
 | true => rfl
 | false =>
 simp only [cond_false]
 cases eqS t [119, 101, 101, 107, 115] with
 | true => rfl
 | false =>
 simp only [cond_false]
 cases eqS t [100, 97, 121] with
 | true => rfl
 | false =>
 simp only [cond_false]
 cases eqS t [100, 97, 121, 115] with
 | true => rfl
 | false =>
 simp only [cond_false]
 cases eqS t [104, 111, 117, 114] with
 | true => rfl
 | false =>
 simp only [cond_false]
 cases eqS t [104, 111, 117, 114, 115] with
 | true => rfl
 | false =>
 simp only [cond_false]
 cases eqS t [109, 105, 110, 117, 116, 101] with
 | true => rfl
 | false =>
 simp only [cond_false]
 cases eqS t [109, 105, 110, 117, 116, 101, 115] with
 | true => rfl
 | false =>
 simp only [cond_false]
 cases eqS t [109, 105, 110] with
 | true => rfl
 | false =>
 simp only [cond_false]
 cases eqS t [109, 105, 110, 115] with
 | true => rfl
 | false =>
 simp only [cond_false]
 cases eqS t [115, 101, 99, 111, 110, 100] with
 | true => rfl
 | false =>
 simp only [cond_false]
 cases eqS t [115, 101, 99, 111, 110, 100, 115] with
 | true => rfl
 | false =>
 simp only [cond_false]
 cases eqS t [115, 101, 99] with
 | true => rfl
 | false =>
 simp only [cond_false]
 cases eqS t [115, 101, 99, 115] with
 | true => rfl
 | false =>
 simp only [cond_false]
 rfl
abbrev SumS := Int × Int × Int × Bool
def metB (met : List Bool) (k : Nat) : Bool := nthD false met k
def namedF : Nat → List (List UInt8) → List Bool → SumS → Option SumS
 | 0, _, _, _ => none
 | _ + 1, [], _, st => some st
 | n + 1, w :: ws, met, (m, d, u, ov) => match timeF w u ov with
  | none => none
  | some (some q) => if metB met 5 = false ∧ metB met 6 = false ∧ metB met 7 = false then namedF n ws (((met.set 5 true).set 6 true).set 7 true) (m, d, q.1, q.2) else none
  | some none => match sgn w true with
   | none => none
   | some q => match ws with
    | [] => none
    | t :: ws' => if 0 < (unitT (lowS t)).2.2.2 ∧ metB met (unitT (lowS t)).2.2.2.toNat = false then
      namedF n ws' (met.set (unitT (lowS t)).2.2.2.toNat true)
       ((moreF m q.1 (unitT (lowS t)).1 (ov || q.2)).1, (moreF d q.1 (unitT (lowS t)).2.1 (moreF m q.1 (unitT (lowS t)).1 (ov || q.2)).2).1,
        (moreF u q.1 (unitT (lowS t)).2.2.1 (moreF d q.1 (unitT (lowS t)).2.1 (moreF m q.1 (unitT (lowS t)).1 (ov || q.2)).2).2).1,
        (moreF u q.1 (unitT (lowS t)).2.2.1 (moreF d q.1 (unitT (lowS t)).2.1 (moreF m q.1 (unitT (lowS t)).1 (ov || q.2)).2).2).2)
     else none
def sumV (st : SumS) : PV := if st.2.2.2 = true then .tuple [.agg [.int .i64 0, .int .i64 0, .int .i64 0, .int .i64 0], .int .i64 10]
 else if spanR 0 st.1 st.2.1 st.2.2.1 = true then .tuple [.agg [.int .i64 0, .int .i64 st.1, .int .i64 st.2.1, .int .i64 st.2.2.1], .int .i64 0]
 else .tuple [.agg [.int .i64 0, .int .i64 0, .int .i64 0, .int .i64 0], .int .i64 10]
def agoF (st : SumS) : SumS := if spanR 0 st.1 st.2.1 st.2.2.1 = true then (-st.1, -st.2.1, -st.2.2.1, st.2.2.2) else (0, 0, 0, true)
section
variable (c5 c6 c7 c8 : Int) (L : List PV)
end
end Dv

set_option maxRecDepth 20000
namespace Dv
open Go
theorem signs_no {w : List UInt8} {c : UInt8} {r : List UInt8} {ws : List (List UInt8)} (hw : w = c :: r) (h1 : c ≠ 43) (h2 : c ≠ 45) : z137 ((w :: ws).map PV.str) = some (.bool false) := by
 have t0 : rdI tiStr ((w :: ws).map PV.str) 0 = some (.str w) := rfl
 have n1 : ¬ ((c.toNat : Nat) : Int) = 43 := by
  intro e; apply h1
  have e : c.toNat = 43 := by omega
  rw [← UInt8.ofNat_toNat (x := c), e]; rfl
 have n2 : ¬ ((c.toNat : Nat) : Int) = 45 := by
  intro e; apply h2
  have e : c.toNat = 45 := by omega
  rw [← UInt8.ofNat_toNat (x := c), e]; rfl
 rw [z15e, zx6, c_ltT (by simp), t0]
 simp only [Option.bind_some, z2j]
 rw [hw, atS_z (c := c) rfl]
 simp only [Option.bind_some]
 rw [c_not, c_eqF n1, c_not, c_eqF n2]
theorem make_v (m d u : Int) (h : spanR 0 m d u = true) : z17z m d u = some (.tuple [.agg [.int .i64 0, .int .i64 m, .int .i64 d, .int .i64 u], .int .i64 0]) := by
 have hh : -2147483647 ≤ m ∧ m ≤ 2147483647 ∧ -2147483647 ≤ d ∧ d ≤ 2147483647 ∧ -9223372036854775807 ≤ u ∧ u ≤ 9223372036854775807 := by
  unfold spanR at h; rw [if_pos rfl] at h; exact of_decide_eq_true h
 rw [z17y, right_s (by omega) (by omega), h]; rfl
theorem neg_v (m d u : Int) (h : spanR 0 m d u = true) : z1d9 0 m d u = some (.tuple [.agg [.int .i64 0, .int .i64 (-m), .int .i64 (-d), .int .i64 (-u)], .int .i64 0]) := by
 have hh : -2147483647 ≤ m ∧ m ≤ 2147483647 ∧ -2147483647 ≤ d ∧ d ≤ 2147483647 ∧ -9223372036854775807 ≤ u ∧ u ≤ 9223372036854775807 := by
  unfold spanR at h; rw [if_pos rfl] at h; exact of_decide_eq_true h
 rw [z1az, right_s (by omega) (by omega), h]
 simp only [Option.bind_some, zr, Bool.not_true, cond_false]
 rw [w64 (n := 0 - 0) (by omega) (by omega), w64 (n := 0 - m) (by omega) (by omega), w64 (n := 0 - d) (by omega) (by omega), w64 (n := 0 - u) (by omega) (by omega), show (0 : Int) - m = -m by omega, show (0 : Int) - d = -d by omega, show (0 : Int) - u = -u by omega, show (0 : Int) - 0 = 0 by omega]
noncomputable def tab1 : Tab := [
 (zft, [.str [49, 32, 121, 101, 97, 114, 32, 45, 50, 32, 109, 111, 110, 115, 32, 48, 51, 58, 48, 48, 58, 48, 48, 32, 97, 103, 111]], .sl 1 [.str [49], .str [121, 101, 97, 114], .str [45, 50], .str [109, 111, 110, 115], .str [48, 51, 58, 48, 48, 58, 48, 48], .str [97, 103, 111]]),
 (zcm, [.sl 1 [.str [49], .str [121, 101, 97, 114], .str [45, 50], .str [109, 111, 110, 115], .str [48, 51, 58, 48, 48, 58, 48, 48], .str [97, 103, 111]]], .tuple [.agg [.int .i64 0, .int .i64 0], .bool false]),
 (za8, [.str [49]], .str [49]),
 (zcn, [.sl 1 [.str [49], .str [121, 101, 97, 114], .str [45, 50], .str [109, 111, 110, 115], .str [48, 51, 58, 48, 48, 58, 48, 48], .str [97, 103, 111]]], .bool false),
 (zma, [.str [97, 103, 111], .str [97, 103, 111]], .bool true),
 (z91, [.str [49], .str [58]], .sl 1 [.str [49]]),
 (z91, [.str [45, 50], .str [58]], .sl 1 [.str [45, 50]]),
 (z91, [.str [48, 51, 58, 48, 48, 58, 48, 48], .str [58]], .sl 1 [.str [48, 51], .str [48, 48], .str [48, 48]]),
 (z21, [.str [49], .str [45]], .tuple [.str [49], .bool false]),
 (z7a, [.str [49], .str [43]], .str [49]),
 (z2y, [.str [49]], .tuple [.int .i64 (1), .int .i64 (0)]),
 (z4y, [.str [121, 101, 97, 114]], .tuple [.agg [.int .i64 (0), .int .i64 (12), .int .i64 (0), .int .i64 (0)], .int .i64 (1)]),
 (z75, [.int .i64 (1), .int .i64 (12)], .tuple [.int .i64 (12), .int .i64 (0)]),
 (z84, [.int .i64 (0), .int .i64 (12)], .tuple [.int .i64 (12), .int .i64 (0)]),
 (z75, [.int .i64 (1), .int .i64 (0)], .tuple [.int .i64 (0), .int .i64 (0)]),
 (z84, [.int .i64 (0), .int .i64 (0)], .tuple [.int .i64 (0), .int .i64 (0)]),
 (z21, [.str [45, 50], .str [45]], .tuple [.str [50], .bool true]),
 (z2y, [.str [50]], .tuple [.int .i64 (2), .int .i64 (0)]),
 (z4y, [.str [109, 111, 110, 115]], .tuple [.agg [.int .i64 (0), .int .i64 (1), .int .i64 (0), .int .i64 (0)], .int .i64 (2)]),
 (z75, [.int .i64 (-2), .int .i64 (1)], .tuple [.int .i64 (-2), .int .i64 (0)]),
 (z84, [.int .i64 (12), .int .i64 (-2)], .tuple [.int .i64 (10), .int .i64 (0)]),
 (z75, [.int .i64 (-2), .int .i64 (0)], .tuple [.int .i64 (0), .int .i64 (0)]),
 (z21, [.str [48, 51], .str [45]], .tuple [.str [48, 51], .bool false]),
 (z7a, [.str [48, 51], .str [43]], .str [48, 51]),
 (z2y, [.str [48, 51]], .tuple [.int .i64 (3), .int .i64 (0)]),
 (z5s, [.str [48, 48], .str [46]], .tuple [.str [48, 48], .str [], .bool false]),
 (zi0, [.str [48, 48], .int .i64 (2), .int .i64 (2)], .bool true),
 (zhz, [.str [48, 48]], .int .i64 (0)),
 (z75, [.int .i64 (3), .int .i64 (3600000000)], .tuple [.int .i64 (10800000000), .int .i64 (0)]),
 (z84, [.int .i64 (0), .int .i64 (10800000000)], .tuple [.int .i64 (10800000000), .int .i64 (0)]),
 (z75, [.int .i64 (0), .int .i64 (1)], .tuple [.int .i64 (0), .int .i64 (0)]),
 (z84, [.int .i64 (10800000000), .int .i64 (0)], .tuple [.int .i64 (10800000000), .int .i64 (0)]),
 (zqn, [.agg [.int .i64 (0), .int .i64 (10), .int .i64 (0), .int .i64 (10800000000)]], .tuple [.agg [.int .i64 (0), .int .i64 (-10), .int .i64 (0), .int .i64 (-10800000000)], .int .i64 (0)]),
 (zhb, [.int .i64 (-10), .int .i64 (0), .int .i64 (-10800000000)], .tuple [.agg [.int .i64 (0), .int .i64 (-10), .int .i64 (0), .int .i64 (-10800000000)], .int .i64 (0)])]
theorem tab1_ok : TabOk EE tab1 := ⟨
 (zr9 [49, 32, 121, 101, 97, 114, 32, 45, 50, 32, 109, 111, 110, 115, 32, 48, 51, 58, 48, 48, 58, 48, 48, 32, 97, 103, 111] (by decide)).trans (by kernel_rfl),
 (zn0 [[49], [121, 101, 97, 114], [45, 50], [109, 111, 110, 115], [48, 51, 58, 48, 48, 58, 48, 48], [97, 103, 111]] (by decide)).trans (by kernel_rfl),
 (zyp [49] (by decide)).trans (by kernel_rfl),
 signs_no (w := [49]) (ws := [[121, 101, 97, 114], [45, 50], [109, 111, 110, 115], [48, 51, 58, 48, 48, 58, 48, 48], [97, 103, 111]]) rfl (by decide) (by decide),
 (wsame_s [97, 103, 111] [97, 103, 111] (by decide) (by decide)).trans (by kernel_rfl),
 (zz3 [49] 58 (by decide)).trans (by kernel_rfl),
 (zz3 [45, 50] 58 (by decide)).trans (by kernel_rfl),
 (zz3 [48, 51, 58, 48, 48, 58, 48, 48] 58 (by decide)).trans (by kernel_rfl),
 (z110 [49] 45 (by decide)).trans (by kernel_rfl),
 (trimP_s [49] 43 (by decide)).trans (by kernel_rfl),
 (zrc [49] (by decide)).trans (by kernel_rfl),
 (unit_s [121, 101, 97, 114] (by decide)).trans (by kernel_rfl),
 (mul_s (a := 1) (b := 12) (by decide) (by decide)).trans (by kernel_rfl),
 (add_s (a := 0) (b := 12) (by decide) (by decide)).trans (by kernel_rfl),
 (mul_s (a := 1) (b := 0) (by decide) (by decide)).trans (by kernel_rfl),
 (add_s (a := 0) (b := 0) (by decide) (by decide)).trans (by kernel_rfl),
 (z110 [45, 50] 45 (by decide)).trans (by kernel_rfl),
 (zrc [50] (by decide)).trans (by kernel_rfl),
 (unit_s [109, 111, 110, 115] (by decide)).trans (by kernel_rfl),
 (mul_s (a := -2) (b := 1) (by decide) (by decide)).trans (by kernel_rfl),
 (add_s (a := 12) (b := -2) (by decide) (by decide)).trans (by kernel_rfl),
 (mul_s (a := -2) (b := 0) (by decide) (by decide)).trans (by kernel_rfl),
 (z110 [48, 51] 45 (by decide)).trans (by kernel_rfl),
 (trimP_s [48, 51] 43 (by decide)).trans (by kernel_rfl),
 (zrc [48, 51] (by decide)).trans (by kernel_rfl),
 (cut_s [48, 48] 46 (by decide)).trans (by kernel_rfl),
 (zfb [48, 48] (by decide) (by decide) 2).trans (by kernel_rfl),
 (zjm [48, 48] (by decide)).trans (by kernel_rfl),
 (mul_s (a := 3) (b := 3600000000) (by decide) (by decide)).trans (by kernel_rfl),
 (add_s (a := 0) (b := 10800000000) (by decide) (by decide)).trans (by kernel_rfl),
 (mul_s (a := 0) (b := 1) (by decide) (by decide)).trans (by kernel_rfl),
 (add_s (a := 10800000000) (b := 0) (by decide) (by decide)).trans (by kernel_rfl),
 neg_v (10) (0) (10800000000) (by decide),
 make_v (-10) (0) (-10800000000) (by decide), trivial⟩
theorem span_t1 : zs9 [49, 32, 121, 101, 97, 114, 32, 45, 50, 32, 109, 111, 110, 115, 32, 48, 51, 58, 48, 48, 58, 48, 48, 32, 97, 103, 111] = some (.tuple [.agg [.int .i64 0, .int .i64 (-10), .int .i64 (0), .int .i64 (-10800000000)], .int .i64 0]) :=
 z1d5 tab1_ok (n := 6000) rfl (by kernel_rfl)
noncomputable def tab2 : Tab := [
 (zft, [.str [80, 49, 89, 50, 77, 51, 68, 84, 52, 72]], .sl 1 [.str [80, 49, 89, 50, 77, 51, 68, 84, 52, 72]]),
 (zcm, [.sl 1 [.str [80, 49, 89, 50, 77, 51, 68, 84, 52, 72]]], .tuple [.agg [.int .i64 0, .int .i64 0], .bool false]),
 (za8, [.str [80, 49, 89, 50, 77, 51, 68, 84, 52, 72]], .str [112, 49, 121, 50, 109, 51, 100, 116, 52, 104]),
 (z5s, [.str [49, 121, 50, 109, 51, 100, 116, 52, 104], .str [116]], .tuple [.str [49, 121, 50, 109, 51, 100], .str [52, 104], .bool true]),
 (z5s, [.str [121, 109, 119, 100], .str [121]], .tuple [.str [], .str [109, 119, 100], .bool true]),
 (z21, [.str [49], .str [45]], .tuple [.str [49], .bool false]),
 (z2y, [.str [49]], .tuple [.int .i64 (1), .int .i64 (0)]),
 (z75, [.int .i64 (1), .int .i64 (12)], .tuple [.int .i64 (12), .int .i64 (0)]),
 (z84, [.int .i64 (0), .int .i64 (12)], .tuple [.int .i64 (12), .int .i64 (0)]),
 (z5s, [.str [109, 119, 100], .str [109]], .tuple [.str [], .str [119, 100], .bool true]),
 (z21, [.str [50], .str [45]], .tuple [.str [50], .bool false]),
 (z2y, [.str [50]], .tuple [.int .i64 (2), .int .i64 (0)]),
 (z75, [.int .i64 (2), .int .i64 (1)], .tuple [.int .i64 (2), .int .i64 (0)]),
 (z84, [.int .i64 (12), .int .i64 (2)], .tuple [.int .i64 (14), .int .i64 (0)]),
 (z5s, [.str [119, 100], .str [100]], .tuple [.str [119], .str [], .bool true]),
 (z21, [.str [51], .str [45]], .tuple [.str [51], .bool false]),
 (z2y, [.str [51]], .tuple [.int .i64 (3), .int .i64 (0)]),
 (z75, [.int .i64 (3), .int .i64 (1)], .tuple [.int .i64 (3), .int .i64 (0)]),
 (z84, [.int .i64 (0), .int .i64 (3)], .tuple [.int .i64 (3), .int .i64 (0)]),
 (z5s, [.str [104, 109, 115], .str [104]], .tuple [.str [], .str [109, 115], .bool true]),
 (z21, [.str [52], .str [45]], .tuple [.str [52], .bool false]),
 (z2y, [.str [52]], .tuple [.int .i64 (4), .int .i64 (0)]),
 (z75, [.int .i64 (4), .int .i64 (3600000000)], .tuple [.int .i64 (14400000000), .int .i64 (0)]),
 (z84, [.int .i64 (0), .int .i64 (14400000000)], .tuple [.int .i64 (14400000000), .int .i64 (0)]),
 (zhb, [.int .i64 (14), .int .i64 (3), .int .i64 (14400000000)], .tuple [.agg [.int .i64 (0), .int .i64 (14), .int .i64 (3), .int .i64 (14400000000)], .int .i64 (0)])]
theorem tab2_ok : TabOk EE tab2 := ⟨
 (zr9 [80, 49, 89, 50, 77, 51, 68, 84, 52, 72] (by decide)).trans (by kernel_rfl),
 (zn0 [[80, 49, 89, 50, 77, 51, 68, 84, 52, 72]] (by decide)).trans (by kernel_rfl),
 (zyp [80, 49, 89, 50, 77, 51, 68, 84, 52, 72] (by decide)).trans (by kernel_rfl),
 (cut_s [49, 121, 50, 109, 51, 100, 116, 52, 104] 116 (by decide)).trans (by kernel_rfl),
 (cut_s [121, 109, 119, 100] 121 (by decide)).trans (by kernel_rfl),
 (z110 [49] 45 (by decide)).trans (by kernel_rfl),
 (zrc [49] (by decide)).trans (by kernel_rfl),
 (mul_s (a := 1) (b := 12) (by decide) (by decide)).trans (by kernel_rfl),
 (add_s (a := 0) (b := 12) (by decide) (by decide)).trans (by kernel_rfl),
 (cut_s [109, 119, 100] 109 (by decide)).trans (by kernel_rfl),
 (z110 [50] 45 (by decide)).trans (by kernel_rfl),
 (zrc [50] (by decide)).trans (by kernel_rfl),
 (mul_s (a := 2) (b := 1) (by decide) (by decide)).trans (by kernel_rfl),
 (add_s (a := 12) (b := 2) (by decide) (by decide)).trans (by kernel_rfl),
 (cut_s [119, 100] 100 (by decide)).trans (by kernel_rfl),
 (z110 [51] 45 (by decide)).trans (by kernel_rfl),
 (zrc [51] (by decide)).trans (by kernel_rfl),
 (mul_s (a := 3) (b := 1) (by decide) (by decide)).trans (by kernel_rfl),
 (add_s (a := 0) (b := 3) (by decide) (by decide)).trans (by kernel_rfl),
 (cut_s [104, 109, 115] 104 (by decide)).trans (by kernel_rfl),
 (z110 [52] 45 (by decide)).trans (by kernel_rfl),
 (zrc [52] (by decide)).trans (by kernel_rfl),
 (mul_s (a := 4) (b := 3600000000) (by decide) (by decide)).trans (by kernel_rfl),
 (add_s (a := 0) (b := 14400000000) (by decide) (by decide)).trans (by kernel_rfl),
 make_v (14) (3) (14400000000) (by decide), trivial⟩
theorem span_t2 : zs9 [80, 49, 89, 50, 77, 51, 68, 84, 52, 72] = some (.tuple [.agg [.int .i64 0, .int .i64 (14), .int .i64 (3), .int .i64 (14400000000)], .int .i64 0]) :=
 z1d5 tab2_ok (n := 6000) rfl (by kernel_rfl)
theorem known18_s : zbc = some (.bool true) := by
 have d1 : dateP [50, 48, 50, 52, 45, 48, 51, 45, 51, 49] 2 = (0, 8856, 0) := by decide +kernel
 have d2 : dateP [51, 47, 51, 49, 47, 50, 48, 50, 52] 2 = (0, 8856, 0) := by decide +kernel
 have d3 : dateP [51, 49, 32, 109, 97, 114, 32, 50, 48, 50, 52] 2 = (0, 8856, 0) := by decide +kernel
 have d4 : dateP [50, 48, 50, 52, 48, 51, 51, 49] 2 = (0, 8856, 0) := by decide +kernel
 have d5 : dateP [48, 48, 52, 52, 45, 48, 51, 45, 49, 53, 32, 66, 67] 2 = (0, -746117, 0) := by decide +kernel
 have m1 : dayO 2024 3 31 = (8856, 0) := by decide +kernel
 have m2 : dayO (-43) 3 15 = (-746117, 0) := by decide +kernel
 have s1 := span_t1
 have s2 := span_t2
 rw [zlb, (z1eb 2024 3 31).2, (z10z _ _ _ _).1, (z10z _ _ _ _).1, (z10z _ _ _ _).1, (z10z _ _ _ _).1, (z10z _ _ _ _).1, (z1eb (-43) 3 15).2, d1, d2, d3, d4, d5, m1, m2, s1, s2]
 rfl
theorem z1ba (s : List UInt8) (a o b : Int) : zcy s a o b = some (.bool true) := by
 rw [zgx, (z10z s a o b).1, (z10z s a o b).2, (z17v s a o b).1, (z17v s a o b).2, known18_s]
 simp only [Option.bind_some, dtV, tn0, tn1, ag0, ag1, zo, zr, eqB, decide_true, Bool.and_true, cond_true]
end Dv
