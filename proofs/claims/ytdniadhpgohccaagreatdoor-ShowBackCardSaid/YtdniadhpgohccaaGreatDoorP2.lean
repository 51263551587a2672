/- The seat's proofs. -/
import Derived.Test.YtdniadhpgohccaaGreatDoorQ2
import Derived.Test.YtdniadhpgohccaaGreatDoorL3
import Derived.Laws.RangeAny
import Derived.Test.YtdniadhpgohccaaGreatDoorP1
import Derived.Lib.IndexLaws
set_option linter.unusedVariables false
set_option linter.unusedSimpArgs false
namespace Dv
open Go
def dgN (n : Nat) : UInt8 := UInt8.ofNat (48 + n % 10)
def digC : Nat → Nat → Nat → List UInt8
 | 0, _, _ => []
 | f + 1, n, m => if n = 0 ∧ m = 0 then [] else digC f (n / 10) (m - 1) ++ [dgN n]
def digN (n : Nat) : List UInt8 := digC 20 n 1
theorem dgN_val (n : Nat) : (PV.int .u8 (IntKind.u8.wrap (IntKind.u64.wrap (48 + Int.tmod (n : Int) 10)))) = byteV (dgN n) := by
 have h : Int.tmod (n : Int) 10 = ((n % 10 : Nat) : Int) := by rw [Int.tmod_eq_emod_of_nonneg (by omega)]; rfl
 rw [h, wu64 (by omega) (by omega), wu8 (by omega) (by omega)]
 unfold byteV dgN
 congr 1
 rw [UInt8.toNat_ofNat']
 omega
theorem zwg : ∀ f n m, (digC f n m).length ≤ f
 | 0, _, _ => Nat.le_refl _
 | f + 1, n, m => by
  unfold digC
  split
  ·simp
  ·have := zwg f (n / 10) (m - 1)
   simp; omega
theorem zeros_set (k : Nat) (t : List UInt8) (c : UInt8) : (List.replicate (k + 1) (0 : UInt8) ++ t).set k c = List.replicate k 0 ++ (c :: t) := by
 rw [List.replicate_succ', List.append_assoc, List.set_append_right _ _ (by simp)]
 simp
theorem z150 (least : Nat) (hl : least ≤ 20) : ∀ (k n : Nat) (t : List UInt8), n < 10 ^ k → k + t.length = 20 →
  zaf (n : Int) (least : Int) (k : Int) ((List.replicate k (0 : UInt8) ++ t).map byteV) 20 = some (.str (digC k n (least - (20 - k)) ++ t))
 | 0, n, t, hn, ht => by
  have h0 : n = 0 := by simpa using hn
  subst h0
  rw [zdy, c_ltF (by omega), w64 (by omega) (by omega), c_ltF (by omega), z1jt (by simp; omega), z1jt rfl, decide_eq_true (by omega), cond_true]
  have : List.take (20 - ((0 : Nat) : Int).toNat) (List.drop ((0 : Nat) : Int).toNat ((List.replicate 0 (0 : UInt8) ++ t).map byteV)) = t.map byteV := by
   simp
   apply List.take_of_length_le
   simp; omega
  rw [this, zc7]
  rfl
 | k + 1, n, t, hn, ht => by
  have hlen : ((List.replicate (k + 1) (0 : UInt8) ++ t).map byteV).length = 20 := by simp; omega
  have hk : k < 20 := by omega
  by_cases hc : n = 0 ∧ least - (20 - (k + 1)) = 0
  ·obtain ⟨h0, h1⟩ := hc
   subst h0
   rw [zdy, c_ltF (by omega), w64 (by omega) (by omega), c_ltF (by omega), z1jt hlen, z1jt rfl, decide_eq_true (by omega), cond_true]
   have : List.take (20 - ((k + 1 : Nat) : Int).toNat) (List.drop ((k + 1 : Nat) : Int).toNat ((List.replicate (k + 1) (0 : UInt8) ++ t).map byteV)) = t.map byteV := by
    rw [Int.toNat_natCast, ← List.map_drop, List.drop_left' (by simp)]
    apply List.take_of_length_le
    simp; omega
   rw [this, zc7, h1]
   unfold digC
   rw [if_pos ⟨rfl, rfl⟩]
   rfl
  ·have h5 : zaf (n : Int) (least : Int) ((k + 1 : Nat) : Int) ((List.replicate (k + 1) (0 : UInt8) ++ t).map byteV) 20 =
     zdx (n : Int) (least : Int) ((k + 1 : Nat) : Int) ((List.replicate (k + 1) (0 : UInt8) ++ t).map byteV) 20 := by
    rw [zdy, w64 (by omega) (by omega)]
    by_cases h : 0 < (n : Int)
    ·rw [c_ltT h]
    ·rw [c_ltF h, c_ltT (by omega)]
   have e1 : ((k + 1 : Nat) : Int) - 1 = (k : Int) := by omega
   rw [h5, zwp, e1, w64 (n := (k : Int)) (by omega) (by omega), c_inT (by omega), Int.toNat_natCast, dgN_val, stC_map (by simp; omega), zeros_set]
   simp only [Option.bind_some]
   have e2 : Int.tdiv (n : Int) 10 = ((n / 10 : Nat) : Int) := by rw [Int.tdiv_eq_ediv_of_nonneg (by omega)]; rfl
   have hp : 10 ^ k ≤ 10 ^ 19 := Nat.pow_le_pow_right (by omega) (by omega)
   have hpp : 10 ^ (k + 1) = 10 ^ k * 10 := Nat.pow_succ ..
   have hpv : (10 : Nat) ^ 19 = 10000000000000000000 := by decide
   have hn10 : n / 10 < 10 ^ k := by omega
   rw [e2, wu64 (by omega) (by omega), z150 least hl k (n / 10) (dgN n :: t) hn10 (by simp; omega)]
   have e3 : least - (20 - (k + 1)) - 1 = least - (20 - k) := by omega
   conv => rhs; rw [digC]
   rw [if_neg hc, e3]
   simp
theorem z1jl (n least : Nat) (hn : n < 18446744073709551616) (hl : least ≤ 20) : zcn (n : Int) (least : Int) = some (.str (digC 20 n least)) := by
 rw [z157]
 have := z150 least hl 20 n [] (Nat.lt_trans hn (by decide)) rfl
 rw [Nat.sub_self, Nat.sub_zero, List.append_nil, List.append_nil] at this
 exact this
def revD : Nat → Nat → List UInt8
 | 0, u => [dgN u]
 | f + 1, u => if u < 10 then [dgN u] else dgN u :: revD f (u / 10)
theorem digC_10 : ∀ f a, 1 ≤ a → digC f a 1 = digC f a 0
 | 0, _, _ => rfl
 | f + 1, a, h => by
  unfold digC
  rw [if_neg (by omega), if_neg (by omega)]
def decI (a : Int) : List UInt8 := if a < 0 then 45 :: digN (-a).toNat else digN a.toNat
theorem zdq (n : Nat) : (digN n).length ≤ 20 := zwg 20 n 1
theorem zrk (a : Int) : (decI a).length ≤ 21 := by
 unfold decI
 split
 ·have := zdq (-a).toNat; simp; omega
 ·have := zdq a.toNat; omega
def twoN (n : Nat) : List UInt8 := digC 20 n 2
theorem digN_lt {n : Nat} (h : n < 10) : digN n = [dgN n] := by
 unfold digN digC
 have : n / 10 = 0 := by omega
 rw [if_neg (by omega), this]
 unfold digC
 rw [if_pos ⟨rfl, rfl⟩]; rfl
theorem twoN_lt {n : Nat} (h : n < 10) : twoN n = [48, dgN n] := by
 unfold twoN digC
 have : n / 10 = 0 := by omega
 rw [if_neg (by omega), this]
 have : digC 19 0 (2 - 1) = [48] := by decide
 rw [this]; rfl
theorem twoN_ge {n : Nat} (h : 10 ≤ n) : twoN n = digN n := by
 unfold twoN digN digC
 rw [if_neg (by omega), if_neg (by omega)]
 have : 1 ≤ n / 10 := by omega
 rw [show 2 - 1 = 1 from rfl, show 1 - 1 = 0 from rfl, digC_10 19 _ this]
theorem zbo (n : Nat) : (twoN n).length ≤ 20 := zwg 20 n 2
theorem zz6 {a : Int} (h0 : 0 ≤ a) (h1 : a ≤ 9223372036854775807) : zdz a = some (.str (twoN a.toNat)) := by
 have e : IntKind.u64.wrap a = ((a.toNat : Nat) : Int) := by rw [wu64 h0 (by omega)]; omega
 rw [z1e8, c_leT h0, e]
 have := z1jl a.toNat 2 (by omega) (by omega)
 rw [show ((2 : Nat) : Int) = 2 from rfl] at this
 rw [this]; rfl
theorem zd5 {a : Int} (h0 : 0 ≤ a) (h1 : a ≤ 9223372036854775807) : z7p a = some (.str (digN a.toNat)) := by
 rw [z16e, zz6 h0 h1]
 by_cases h : a < 10
 ·rw [c_ltT h, digN_lt (by omega), twoN_lt (by omega)]; rfl
 ·rw [c_ltF h, twoN_ge (by omega)]; rfl
end Dv

namespace Dv
open Go
theorem decR_low {s : List UInt8} {i : Nat} {c : UInt8} (h : s[i]? = some c) (hc : c.toNat < 128) : decR s i = (c.toNat, 1) := by
 have hi : i < s.length := (List.getElem?_eq_some_iff.1 h).1
 have hs : i < (⟨s.toArray⟩ : ByteArray).size := by simpa [ByteArray.size] using hi
 have hg : (⟨s.toArray⟩ : ByteArray)[i]'hs = c := (List.getElem?_eq_some_iff.1 h).2
 unfold decR
 rw [decode_ascii ⟨s.toArray⟩ i hs (by rw [hg]; exact hc), hg]
theorem zwf {α : Type} {s : List α} {i : Nat} (h : s.drop i = []) : s.length ≤ i := List.drop_eq_nil_iff.1 h
theorem zp0 {α : Type} {s r : List α} {c : α} {i : Nat} (h : s.drop i = c :: r) : i < s.length ∧ s[i]? = some c ∧ s.drop (i + 1) = r := by
 have hi : i < s.length := by
  rcases Nat.lt_or_ge i s.length with h' | h'
  ·exact h'
  ·rw [List.drop_eq_nil_iff.2 h'] at h; cases h
 rw [List.drop_eq_getElem_cons hi] at h
 simp only [List.cons.injEq] at h
 exact ⟨hi, by rw [List.getElem?_eq_getElem hi, h.1], h.2⟩
def z50 : List UInt8 → List UInt8
 | [] => []
 | c :: r => if z50 r = [] ∧ c = 48 then [] else c :: z50 r
theorem zxt : ∀ l, l.take (z50 l).length = z50 l
 | [] => rfl
 | c :: r => by
  unfold z50
  split
  ·rfl
  ·simp [zxt r]
theorem z12w (l : List UInt8) : (z50 l).length ≤ l.length := by
 have := congrArg List.length (zxt l)
 simp at this; omega
def endF : Nat → Nat → List UInt8 → Nat
 | e, _, [] => e
 | e, i, c :: r => endF (if c = 48 then e else i + 1) (i + 1) r
theorem endF_eq : ∀ (r : List UInt8) (e i : Nat), endF e i r = if z50 r = [] then e else i + (z50 r).length
 | [], e, i => rfl
 | c :: r, e, i => by
  unfold endF
  rw [endF_eq r]
  by_cases h : z50 r = []
  ·rw [if_pos h]
   by_cases hc : c = 48
   ·have hs : z50 (c :: r) = [] := if_pos ⟨h, hc⟩
    rw [if_pos hc, if_pos hs]
   ·have hs : z50 (c :: r) = c :: z50 r := if_neg (fun x => hc x.2)
    rw [if_neg hc, hs, if_neg (by simp), h]; simp
  ·have hs : z50 (c :: r) = c :: z50 r := if_neg (fun x => h x.1)
   rw [if_neg h, hs, if_neg (by simp)]; simp; omega
theorem z173 : ∀ r, z50 (r ++ [48]) = z50 r
 | [] => by decide
 | c :: r => by
  rw [List.cons_append, z50, z50, z173 r]
theorem z1ci {c : UInt8} (hc : c ≠ 48) : ∀ r, z50 (r ++ [c]) = r ++ [c]
 | [] => by simp [z50, hc]
 | a :: r => by
  rw [List.cons_append, z50, z1ci hc r, if_neg (by simp)]
def digB0 (c : UInt8) : Prop := 48 ≤ c.toNat ∧ c.toNat ≤ 57
theorem dgN_dig (n : Nat) : digB0 (dgN n) := by
 unfold digB0 dgN
 rw [UInt8.toNat_ofNat']
 omega
theorem z1jm : ∀ f n m, ∀ c ∈ digC f n m, digB0 c
 | 0, _, _, c, h => by cases h
 | f + 1, n, m, c, h => by
  unfold digC at h
  split at h
  ·cases h
  ·rw [List.mem_append] at h
   rcases h with h | h
   ·exact z1jm f _ _ c h
   ·simp at h; subst h; exact dgN_dig n
theorem z1e2 : ∀ f n m, n < 10 ^ f → z50 (digC f n m) = [] → n = 0
 | 0, n, m, hn, _ => by simpa using hn
 | f + 1, n, m, hn, h => by
  unfold digC at h
  split at h
  ·rename_i h0; exact h0.1
  ·by_cases hd : dgN n = 48
   ·rw [hd, z173] at h
    have hpp : 10 ^ (f + 1) = 10 ^ f * 10 := Nat.pow_succ ..
    have := z1e2 f (n / 10) (m - 1) (by omega) h
    have hm : n % 10 = 0 := by
     have := congrArg UInt8.toNat hd
     unfold dgN at this
     rw [UInt8.toNat_ofNat'] at this
     have h48 : (48 : UInt8).toNat = 48 := rfl
     omega
    omega
   ·rw [z1ci hd] at h
    simp at h
theorem z1e3 : ∀ k f u, u < 10 ^ k → k ≤ f → (digC f u k).length = k
 | 0, 0, u, _, _ => rfl
 | 0, f + 1, u, h, _ => by
  have : u = 0 := by simpa using h
  subst this
  rfl
 | k + 1, 0, u, _, h => by omega
 | k + 1, f + 1, u, h, hf => by
  have hpp : 10 ^ (k + 1) = 10 ^ k * 10 := Nat.pow_succ ..
  unfold digC
  rw [if_neg (by omega), Nat.add_sub_cancel, List.length_append, z1e3 k f (u / 10) (by omega) (by omega)]
  rfl
def fracN (u : Nat) : List UInt8 := if u = 0 ∨ 999999 < u then [] else 46 :: z50 (digC 20 u 6)
theorem zou (u : Nat) : (fracN u).length ≤ 21 := by
 unfold fracN
 split
 ·simp
 ·have h1 := z12w (digC 20 u 6)
  have h2 := zwg 20 u 6
  simp; omega
theorem z14e (s : List UInt8) (hl : s.length ≤ 100) (hd : ∀ c ∈ s, digB0 c) : ∀ (r : List UInt8) (i e : Nat), s.drop i = r → i ≤ s.length → e ≤ i →
  z8h s (e : Int) s i = some (.str (46 :: s.take (endF e i r)))
 | [], i, e, hr, hi, he => by
  have := zwf hr
  rw [zh0, zmv (by omega), zhm (by omega)]
  simp only [Option.bind_some]
  rw [zi4 (by first | omega | (simp; omega))]
  rfl
 | c :: r, i, e, hr, hi, he => by
  obtain ⟨h1, h2, h3⟩ := zp0 hr
  have hc : digB0 c := hd c (List.mem_of_getElem? h2)
  have hdc := decR_low h2 (by unfold digB0 at hc; omega)
  rw [zh0, zt3 h1, hdc]
  simp only
  unfold endF
  by_cases h48 : c = 48
  ·have : (((c.toNat : Nat) : Int)) = 48 := by rw [h48]; rfl
   rw [c_not, c_eqT this, if_pos h48, z14e s hl hd r (i + 1) e h3 (by omega) (by omega)]
  ·have : ¬ (((c.toNat : Nat) : Int)) = 48 := by
    intro h
    apply h48
    have h' : c.toNat = 48 := by omega
    exact UInt8.toNat_inj.1 h'
   have e1 : IntKind.i64.wrap (((i : Nat) : Int) + 1) = ((i + 1 : Nat) : Int) := by rw [w64 (by omega) (by omega)]; omega
   rw [c_not, c_eqF this, if_neg h48, e1, z14e s hl hd r (i + 1) (i + 1) h3 (by omega) (by omega)]
theorem frac_s {a : Int} (h0 : 0 ≤ a) (h1 : a ≤ 9223372036854775807) : zfe a = some (.str (fracN a.toNat)) := by
 rw [zyl]
 unfold fracN
 by_cases ha : a ≤ 0
 ·rw [c_leT ha, zh1, if_pos (by omega)]
 ·rw [c_leF ha]
  by_cases hb : 999999 < a
  ·rw [c_ltT hb, zh1, if_pos (by omega)]
  ·have e : IntKind.u64.wrap a = ((a.toNat : Nat) : Int) := by rw [wu64 h0 (by omega)]; omega
   have hds := z1jl a.toNat 6 (by omega) (by omega)
   rw [show ((6 : Nat) : Int) = 6 from rfl] at hds
   rw [c_ltF hb, zs0, e, hds, if_neg (by omega)]
   simp only [Option.bind_some, zm]
   have hl := zwg 20 a.toNat 6
   have := z14e (digC 20 a.toNat 6) (by omega) (z1jm 20 _ _) (digC 20 a.toNat 6) 0 0 rfl (by omega) (by omega)
   rw [show ((0 : Nat) : Int) = 0 from rfl] at this
   rw [this, endF_eq]
   by_cases hz : z50 (digC 20 a.toNat 6) = []
   ·rw [if_pos hz, hz]; rfl
   ·rw [if_neg hz, Nat.zero_add, zxt]
def textN (t : Nat) : List UInt8 := twoN (t / 3600000000) ++ (58 :: (twoN (t / 60000000 % 60) ++ (58 :: (twoN (t / 1000000 % 60) ++ fracN (t % 1000000)))))
theorem znt (t : Nat) : (textN t).length ≤ 90 := by
 have h1 := zbo (t / 3600000000)
 have h2 := zbo (t / 60000000 % 60)
 have h3 := zbo (t / 1000000 % 60)
 have h4 := zou (t % 1000000)
 unfold textN
 simp; omega
theorem tdivN (a b : Nat) : Int.tdiv (a : Int) (b : Int) = ((a / b : Nat) : Int) := by rw [Int.tdiv_eq_ediv_of_nonneg (by omega)]; rfl
theorem tmodN (a b : Nat) : Int.tmod (a : Int) (b : Int) = ((a % b : Nat) : Int) := by rw [Int.tmod_eq_emod_of_nonneg (by omega)]; rfl
theorem text_s (t : Nat) (h : t < 18446744073709551616) : zl7 (t : Int) = some (.str (textN t)) := by
 have h1 := zbo (t / 3600000000)
 have h2 := zbo (t / 60000000 % 60)
 have h3 := zbo (t / 1000000 % 60)
 have h4 := zou (t % 1000000)
 have e1 : IntKind.i64.wrap (IntKind.u64.wrap (Int.tdiv (t : Int) 3600000000)) = ((t / 3600000000 : Nat) : Int) := by
  have := tdivN t 3600000000
  rw [show ((3600000000 : Nat) : Int) = 3600000000 from rfl] at this
  rw [this, wu64 (by omega) (by omega), w64 (by omega) (by omega)]
 have e2 : IntKind.i64.wrap (Int.tmod (IntKind.u64.wrap (Int.tdiv (t : Int) 60000000)) 60) = ((t / 60000000 % 60 : Nat) : Int) := by
  have := tdivN t 60000000
  rw [show ((60000000 : Nat) : Int) = 60000000 from rfl] at this
  rw [this, wu64 (by omega) (by omega)]
  have := tmodN (t / 60000000) 60
  rw [show ((60 : Nat) : Int) = 60 from rfl] at this
  rw [this, w64 (by omega) (by omega)]
 have e3 : IntKind.i64.wrap (Int.tmod (IntKind.u64.wrap (Int.tdiv (t : Int) 1000000)) 60) = ((t / 1000000 % 60 : Nat) : Int) := by
  have := tdivN t 1000000
  rw [show ((1000000 : Nat) : Int) = 1000000 from rfl] at this
  rw [this, wu64 (by omega) (by omega)]
  have := tmodN (t / 1000000) 60
  rw [show ((60 : Nat) : Int) = 60 from rfl] at this
  rw [this, w64 (by omega) (by omega)]
 have e4 : IntKind.i64.wrap (Int.tmod (t : Int) 1000000) = ((t % 1000000 : Nat) : Int) := by
  have := tmodN t 1000000
  rw [show ((1000000 : Nat) : Int) = 1000000 from rfl] at this
  rw [this, w64 (by omega) (by omega)]
 rw [z1b2, z16p, e1, e2, e3, e4]
 simp only [Option.bind_some, tn0, tn1, tn2, tn3, zc]
 rw [zz6 (by omega) (by omega), zz6 (by omega) (by omega), zz6 (by omega) (by omega), frac_s (by omega) (by omega)]
 simp only [Option.bind_some, zm, Int.toNat_natCast]
 rw [zi4 (by first | omega | (simp; omega))]
 simp only [Option.bind_some]
 rw [zi4 (by first | omega | (simp; omega))]
 simp only [Option.bind_some]
 rw [zi4 (by first | omega | (simp; omega))]
 simp only [Option.bind_some]
 rw [zi4 (by first | omega | (simp; omega))]
 simp only [Option.bind_some]
 rw [zi4 (by first | omega | (simp; omega))]
 simp only [Option.bind_some]
 unfold textN
 simp
def longI (a : Int) : List UInt8 := if a < 0 then 45 :: textN (-a).toNat else textN a.toNat
theorem longI_len (a : Int) : (longI a).length ≤ 91 := by
 unfold longI
 split
 ·have := znt (-a).toNat; simp; omega
 ·have := znt a.toNat; omega
theorem wneg64 {a : Int} (h1 : -9223372036854775808 ≤ a) (ha : a < 0) : IntKind.u64.wrap (0 - IntKind.u64.wrap a) = (((-a).toNat : Nat) : Int) := by
 simp only [IntKind.wrap, IntKind.bits, IntKind.signed]
 simp
 omega
theorem long_s {a : Int} (h1 : -9223372036854775808 ≤ a) (h2 : a ≤ 9223372036854775807) : zf6 a = some (.str (longI a)) := by
 rw [z1b6]
 unfold longI
 by_cases ha : a < 0
 ·have hl := znt (-a).toNat
  rw [c_ltT ha, if_pos ha, wneg64 h1 ha, text_s _ (by omega)]
  simp only [Option.bind_some, zm]
  rw [zi4 (by first | omega | (simp; omega))]; rfl
 ·have e : IntKind.u64.wrap a = ((a.toNat : Nat) : Int) := by rw [wu64 (by omega) (by omega)]; omega
  rw [c_ltF ha, if_neg ha, e, text_s _ (by omega)]; rfl
end Dv

namespace Dv
open Go
def padN (s : List UInt8) : List UInt8 := List.replicate (4 - s.length) 48 ++ s
theorem z1id (s : List UInt8) : 4 ≤ (padN s).length ∧ (padN s).length ≤ s.length + 4 := by
 unfold padN; rw [List.length_append, List.length_replicate]; omega
def dateN (y m d : Int) (a b : Int) : List UInt8 :=
 if a = 0 then padN (digN y.toNat) ++ ([45] ++ (twoN m.toNat ++ ([45] ++ twoN d.toNat)))
 else if b = 2 then twoN m.toNat ++ ([47] ++ (twoN d.toNat ++ ([47] ++ padN (digN y.toNat))))
 else if b = 1 then twoN d.toNat ++ ([47] ++ (twoN m.toNat ++ ([47] ++ padN (digN y.toNat))))
 else padN (digN y.toNat) ++ ([47] ++ (twoN m.toNat ++ ([47] ++ twoN d.toNat)))
theorem zwm (y m d a b : Int) : 1 ≤ (dateN y m d a b).length ∧ (dateN y m d a b).length ≤ 80 := by
 have p1 := z1id (digN y.toNat)
 have l2 := zdq y.toNat
 have t2 := zbo m.toNat
 have t4 := zbo d.toNat
 unfold dateN
 split
 ·simp; omega
 ·split
  ·simp; omega
  ·split <;> (simp; omega)
end Dv

namespace Dv
open Go
theorem z1hg : ∀ (a b : List UInt8) (n : Int), valD n (a ++ b) = valD (valD n a) b
 | [], b, n => rfl
 | c :: a, b, n => by simp only [List.cons_append, valD]; exact z1hg a b _
theorem dgt_dgN (n : Nat) : dgt (dgN n) = ((n % 10 : Nat) : Int) := by
 unfold dgt dgN
 rw [UInt8.toNat_ofNat']
 omega
theorem dgN_dB (n : Nat) : digB (dgN n) = true := by
 rw [z38]
 unfold dgN
 rw [UInt8.toNat_ofNat']
 omega
theorem zwh : ∀ (f n m : Nat), (digC f n m).all digB = true
 | 0, n, m => rfl
 | f + 1, n, m => by
  rw [digC]
  split
  ·rfl
  ·rw [List.all_append, zwh f]; simp [dgN_dB]
theorem zm3 : ∀ (f n m : Nat), n < 10 ^ f → valD 0 (digC f n m) = (n : Int)
 | 0, n, m, h => by simp at h; subst h; rfl
 | f + 1, n, m, h => by
  rw [digC]
  split
  ·rename_i h0; rw [h0.1]; rfl
  ·rw [z1hg, zm3 f (n / 10) (m - 1) (by rw [Nat.pow_succ] at h; omega)]
   simp only [valD]
   rw [dgt_dgN]; omega
theorem z151 : ∀ (k f n m : Nat), n < 10 ^ k → m ≤ k → k ≤ f → (digC f n m).length ≤ k
 | 0, f, n, m, h, hm, hf => by
  have h0 : n = 0 := by simpa using h
  have h1 : m = 0 := by omega
  subst h0; subst h1
  cases f with
  | zero => exact Nat.le_refl _
  | succ f => rw [digC, if_pos ⟨rfl, rfl⟩]; exact Nat.le_refl _
 | k + 1, 0, n, m, h, hm, hf => by omega
 | k + 1, f + 1, n, m, h, hm, hf => by
  rw [digC]
  split
  ·simp
  ·have := z151 k f (n / 10) (m - 1) (by rw [Nat.pow_succ] at h; omega) (by omega) (by omega)
   simp; omega
theorem z1ih : ∀ (s : List UInt8) (n : Int) (k : Nat), s.all digB = true → 0 ≤ n → n < 10 ^ k → k + s.length ≤ 18 → numG s n false = .tuple [.int .i64 (valD n s), .int .i64 0]
 | [], n, k, _, _, _, _ => rfl
 | c :: r, n, k, h, h0, h1, h2 => by
  simp only [List.all_cons, Bool.and_eq_true] at h
  have hr := zyh h.1
  have hk : (10 : Int) ^ k ≤ 10 ^ 17 := by
   have : k ≤ 17 := by simp at h2; omega
   exact_mod_cast Nat.pow_le_pow_right (by omega : 0 < 10) this
  have hn : n < 100000000000000000 := Int.lt_of_lt_of_le h1 hk
  unfold dgt at hr
  rw [numG, h.1, cond_true, cond_false, c_leT (by omega)]
  have := z1ih r (10 * n + ((c.toNat : Int) - 48)) (k + 1) h.2 (by omega) (by rw [Int.pow_succ]; omega) (by simp at h2; omega)
  rw [this]
  rfl
theorem z1ig {s : List UInt8} (hne : s ≠ []) (h : s.all digB = true) (hl : s.length ≤ 18) : numN s = valD 0 s := by
 unfold numN numV eqS
 rw [decide_eq_false hne, cond_false, z1ih s 0 0 h (Int.le_refl _) (by decide) (by omega)]
 rfl
theorem z69 (n : Nat) : (twoN n).all digB = true := zwh _ _ _
theorem zhk {n : Nat} (h : n ≤ 99) : (twoN n).length = 2 := by
 rcases Nat.lt_or_ge n 10 with h' | h'
 ·rw [twoN_lt h']; rfl
 ·rw [twoN_ge h']
  unfold digN
  rw [digC, if_neg (by omega), digC, if_neg (by omega), digC, if_pos (by omega)]
  rfl
theorem two_val {n : Nat} (h : n ≤ 99) : numN (twoN n) = (n : Int) := by
 have hl := zhk h
 rw [z1ig (by intro e; rw [e] at hl; cases hl) (z69 n) (by omega)]
 exact zm3 20 n 2 (by omega)
theorem zhu (n : Nat) : (padN (digN n)).all digB = true := by
 unfold padN
 rw [List.all_append, List.all_replicate]
 have := zwh 20 n 1
 unfold digN
 rw [this]
 simp; right; decide
theorem z16u : ∀ (k : Nat) (s : List UInt8), valD 0 (List.replicate k 48 ++ s) = valD 0 s
 | 0, s => rfl
 | k + 1, s => by
  rw [List.replicate_succ, List.cons_append]
  simp only [valD]
  exact z16u k s
theorem z1a1 {n : Nat} (h : n ≤ 999999) : 4 ≤ (padN (digN n)).length ∧ (padN (digN n)).length ≤ 6 := by
 have h1 := z151 6 20 n 1 (by omega) (by omega) (by omega)
 unfold padN digN
 rw [List.length_append, List.length_replicate]
 omega
theorem pad_val {n : Nat} (h : n ≤ 999999) : numN (padN (digN n)) = (n : Int) := by
 have hl := z1a1 h
 rw [z1ig (by intro e; rw [e] at hl; simp at hl) (zhu n) (by omega)]
 unfold padN
 rw [z16u]
 exact zm3 20 n 1 (by omega)
theorem z1e4 {s : List UInt8} (h : s.all digB = true) {lo hi : Int} (h1 : lo ≤ s.length) (h2 : (s.length : Int) ≤ hi) : dgs s lo hi = true := by
 unfold dgs leB; rw [h, decide_eq_true h1, decide_eq_true h2]; rfl
theorem dgs_no {s : List UInt8} {lo hi : Int} (h : (s.length : Int) < lo) : dgs s lo hi = false := by
 unfold dgs leB; rw [decide_eq_false (by omega)]; rfl
theorem dgs_not {s : List UInt8} {c : UInt8} (hc : c ∈ s) (hd : digB c = false) {lo hi : Int} : dgs s lo hi = false := by
 have : s.all digB = false := by
  rw [Bool.eq_false_iff]
  intro h
  rw [List.all_eq_true] at h
  rw [h c hc] at hd; cases hd
 unfold dgs; rw [this]; simp
theorem zr8 : ∀ {d : List UInt8}, d.all digB = true → ∀ {r : List UInt8}, (r = [] ∨ ∃ c t, r = c :: t ∧ digB c = false) → runD (d ++ r) = (d, r)
 | [], _, r, hr => by
  rcases hr with rfl | ⟨c, t, rfl, hc⟩
  ·rfl
  ·simp [runD, hc]
 | x :: d, h, r, hr => by
  simp only [List.all_cons, Bool.and_eq_true] at h
  have := zr8 h.2 hr
  simp only [List.cons_append, runD, h.1, if_true, this]
theorem z12x : ∀ (l : List UInt8), l.all digB = true → (z50 l).all digB = true
 | [], _ => rfl
 | c :: r, h => by
  simp only [List.all_cons, Bool.and_eq_true] at h
  unfold z50
  split
  ·rfl
  ·simp only [List.all_cons, Bool.and_eq_true]; exact ⟨h.1, z12x r h.2⟩
theorem z1ch : ∀ (l : List UInt8) (n : Int), valD n l = valD n (z50 l) * 10 ^ (l.length - (z50 l).length)
 | [], n => by simp [z50, valD]
 | c :: r, n => by
  have ih := z1ch r (10 * n + dgt c)
  have hl := z12w r
  unfold z50
  split
  ·rename_i h
   rw [h.1] at ih
   obtain ⟨_, rfl⟩ := h
   simp only [valD, List.length_nil, Nat.sub_zero, List.length_cons] at ih ⊢
   rw [ih, show dgt 48 = 0 from rfl, Int.add_zero, Int.pow_succ]
   rw [Int.mul_comm (10 ^ r.length) 10, ← Int.mul_assoc, Int.mul_comm n 10]
  ·simp only [valD, List.length_cons]
   rw [ih, show r.length + 1 - ((z50 r).length + 1) = r.length - (z50 r).length by omega]
end Dv

namespace Dv
open Go
theorem z1af {c : UInt8} (h : digB c = true) : lowB c = c := by
 have := (z38 c).1 h
 unfold lowB
 rw [if_neg (by omega)]
theorem bl_no {c : UInt8} (h : 33 ≤ c.toNat) : blB c = false := decide_eq_false (by omega)
theorem zk7 {s : List UInt8} (hne : s ≠ []) (h : ∀ c ∈ s, blB c = false) : z20 s = [s] := by
 have := zbv s [] [] h
 rw [List.append_nil, List.nil_append] at this
 unfold z20
 rw [this, z5j, if_neg hne]
theorem zuh {s t : List UInt8} (hne : s ≠ []) (h : ∀ c ∈ s, blB c = false) : z20 (s ++ 32 :: t) = s :: z20 t := by
 have := zbv s [] (32 :: t) h
 rw [List.nil_append] at this
 unfold z20
 rw [this, zfg (by decide), if_neg hne]
theorem spc_dig {c : UInt8} {r : List UInt8} (h : digB c = true) : spcI [c :: r] = 0 := by
 have hc := (z38 c).1 h
 have ne : ∀ b t, (b = 105 ∨ b = 45 ∨ b = 101) → eqS (lowS (c :: r)) (b :: t) = false := by
  intro b t hb
  unfold eqS
  apply decide_eq_false
  intro e
  unfold lowS at e
  rw [List.map_cons, z1af h, List.cons.injEq] at e
  rcases hb with rfl | rfl | rfl <;> (rw [e.1] at hc; exact absurd hc (by decide))
 rw [spc1]
 have e1 : eqS (lowS (c :: r)) infB = false := ne 105 _ (.inl rfl)
 have e2 : eqS (lowS (c :: r)) ninfB = false := ne 45 _ (.inr (.inl rfl))
 have e3 : eqS (lowS (c :: r)) epB = false := ne 101 _ (.inr (.inr rfl))
 rw [e1, e2, e3]; rfl
theorem beg_no {c h : UInt8} {r t : List UInt8} (hne : lowB c ≠ lowB h) : begB (c :: r) (h :: t) = false := by
 unfold begB sameB eqS
 rw [List.length_cons, List.take_succ_cons]
 have : ¬ (lowS (c :: r) = lowS (h :: t.take r.length)) := by
  unfold lowS
  rw [List.map_cons, List.map_cons, List.cons.injEq]
  exact fun e => hne e.1
 rw [decide_eq_false this, Bool.and_false]
theorem mon_dig {s : List UInt8} (h : s.all digB = true) : monI s = 0 := by
 unfold monI zv6
 split
 ·rfl
 ·rename_i hl
  obtain ⟨c, r, rfl⟩ : ∃ c r, s = c :: r := by
   cases s with
   | nil => simp at hl
   | cons c r => exact ⟨c, r, rfl⟩
  simp only [List.all_cons, Bool.and_eq_true] at h
  have hc := (z38 c).1 h.1
  have no : ∀ (b : UInt8) t, 97 ≤ (lowB b).toNat → begB (c :: r) (b :: t) = false := by
   intro b t hb
   refine beg_no ?_
   rw [z1af h.1]
   rintro rfl
   omega
  unfold z7d
  simp only [findI]
  rw [no 74 _ (by decide), no 70 _ (by decide), no 77 _ (by decide), no 65 _ (by decide), no 77 _ (by decide), no 74 _ (by decide), no 74 _ (by decide), no 65 _ (by decide), no 83 _ (by decide), no 79 _ (by decide), no 78 _ (by decide), no 68 _ (by decide)]
  rfl
theorem monB_dig {a b : List UInt8} (ha : a.all digB = true) (hb : b.all digB = true) : monB a b = false := by
 unfold monB; rw [mon_dig ha, mon_dig hb]; rfl
theorem z131 {g : UInt8} : ∀ {a : List UInt8}, g ∉ a → splitB g a = [a]
 | [], _ => rfl
 | c :: a, h => by
  rw [splitB, if_neg (by intro e; subst e; simp at h), z131 (by intro e; exact h (List.mem_cons_of_mem _ e))]
theorem zxu {g : UInt8} {r : List UInt8} : ∀ {a : List UInt8}, g ∉ a → splitB g (a ++ g :: r) = a :: splitB g r
 | [], _ => by rw [List.nil_append, splitB, if_pos rfl]
 | c :: a, h => by
  rw [List.cons_append, splitB, if_neg (by intro e; subst e; simp at h), zxu (by intro e; exact h (List.mem_cons_of_mem _ e))]
theorem zyb {g : UInt8} {a : List UInt8} (ha : a.all digB = true) (hg : digB g = false) : g ∉ a := by
 intro h
 rw [List.all_eq_true] at ha
 rw [ha g h] at hg; cases hg
theorem z1ib {g : UInt8} (hg : g = 45 ∨ g = 47) {x y z : List UInt8} (hx : x.all digB = true) (hy : y.all digB = true) (hz : z.all digB = true) (o : Int) :
  zce (x ++ g :: (y ++ g :: z)) o = zka x y z o := by
 have hd : digB g = false := by rcases hg with rfl | rfl <;> decide
 unfold zce
 rw [dgs_not (c := g) (by simp) hd, if_neg (by simp)]
 have s3 : splitB g (x ++ g :: (y ++ g :: z)) = [x, y, z] := by rw [zxu (zyb hx hd), zxu (zyb hy hd), z131 (zyb hz hd)]
 rcases hg with rfl | rfl
 ·rw [zo5 s3, monB_dig hx hy, Bool.and_false, if_neg (by simp)]
 ·have s1 : splitB 45 (x ++ (47 : UInt8) :: (y ++ 47 :: z)) = [x ++ 47 :: (y ++ 47 :: z)] := by
   apply z131
   have := zyb hx (g := 45) (by decide)
   have := zyb hy (g := 45) (by decide)
   have := zyb hz (g := 45) (by decide)
   simp [*]
  rw [z11r (by rw [s1]; simp), zo5 s3, if_neg (by simp)]
theorem z121 {y m d : Nat} (hy : y ≤ 999999) (hm : m ≤ 99) (hd : d ≤ 99) : grpO (padN (digN y)) (twoN m) (twoN d) = some ((y : Int), (m : Int), (d : Int)) := by
 have ly := z1a1 hy
 have lm := zhk hm
 have ld := zhk hd
 unfold grpO
 rw [z1e4 (z69 m) (by omega) (by omega), z1e4 (z69 d) (by omega) (by omega), z1e4 (zhu y) (by omega) (by omega)]
 have : yearO (padN (digN y)) = (y : Int) := by
  unfold yearO
  rw [z1e4 (zhu y) (by omega) (by omega), if_pos rfl, pad_val hy]
 rw [this, two_val hm, two_val hd]
 rfl
theorem z17g {y m d : Nat} (hy : y ≤ 999999) (hm : m ≤ 99) (hd : d ≤ 99) (a b : Int) (hb : 0 ≤ b ∧ b ≤ 2) : zce (dateN (y : Int) (m : Int) (d : Int) a b) b = some ((y : Int), (m : Int), (d : Int)) := by
 have ly := z1a1 hy
 have lm := zhk hm
 have ld := zhk hd
 have dy : dgs (padN (digN y)) 3 6 = true := z1e4 (zhu y) (by omega) (by omega)
 have dm : dgs (twoN m) 3 6 = false := dgs_no (by omega)
 have dd : dgs (twoN d) 3 6 = false := dgs_no (by omega)
 unfold dateN
 simp only [Int.toNat_natCast, List.cons_append, List.nil_append]
 split
 ·rw [z1ib (.inl rfl) (zhu y) (z69 m) (z69 d)]
  unfold zka
  rw [dy, Bool.true_or, if_pos rfl, z121 hy hm hd]
 ·split
  ·rename_i h2
   subst h2
   rw [z1ib (.inr rfl) (z69 m) (z69 d) (zhu y)]
   unfold zka
   rw [dm, Bool.false_or, if_neg (by decide), if_neg (by decide), z121 hy hm hd]
  ·split
   ·rename_i h1
    subst h1
    rw [z1ib (.inr rfl) (z69 d) (z69 m) (zhu y)]
    unfold zka
    rw [dd, Bool.false_or, if_neg (by decide), if_pos (by decide), z121 hy hm hd]
   ·have : b = 0 := by omega
    subst this
    rw [z1ib (.inr rfl) (zhu y) (z69 m) (z69 d)]
    unfold zka
    rw [dy, Bool.true_or, if_pos rfl, z121 hy hm hd]
def okC (c : UInt8) : Prop := digB c = true ∨ c = 45 ∨ c = 47 ∨ c = 58 ∨ c = 46
theorem okC_bl {c : UInt8} (h : okC c) : blB c = false := by
 apply bl_no
 rcases h with h | rfl | rfl | rfl | rfl
 ·have := (z38 c).1 h; omega
 all_goals decide
theorem okC_t {c : UInt8} (h : okC c) : c ≠ 84 ∧ c ≠ 116 := by
 rcases h with h | rfl | rfl | rfl | rfl
 ·have := (z38 c).1 h
  constructor <;> (rintro rfl; exact absurd this (by decide))
 all_goals exact ⟨by decide, by decide⟩
theorem z15e {s : List UInt8} (h : s.all digB = true) : ∀ c ∈ s, okC c := fun c hc => .inl (List.all_eq_true.1 h c hc)
theorem z1jq (y m d : Nat) (a b : Int) : ∀ c ∈ dateN (y : Int) (m : Int) (d : Int) a b, okC c := by
 have h1 := z15e (zhu y)
 have h2 := z15e (z69 m)
 have h3 := z15e (z69 d)
 have h4 : okC 45 := .inr (.inl rfl)
 have h5 : okC 47 := .inr (.inr (.inl rfl))
 unfold dateN
 simp only [Int.toNat_natCast]
 intro c hc
 split at hc
 ·simp only [List.mem_append, List.mem_singleton] at hc
  rcases hc with hc | rfl | hc | rfl | hc <;> first | exact h1 c hc | exact h2 c hc | exact h3 c hc | exact h4
 ·split at hc
  ·simp only [List.mem_append, List.mem_singleton] at hc
   rcases hc with hc | rfl | hc | rfl | hc <;> first | exact h1 c hc | exact h2 c hc | exact h3 c hc | exact h5
  ·split at hc
   ·simp only [List.mem_append, List.mem_singleton] at hc
    rcases hc with hc | rfl | hc | rfl | hc <;> first | exact h1 c hc | exact h2 c hc | exact h3 c hc | exact h5
   ·simp only [List.mem_append, List.mem_singleton] at hc
    rcases hc with hc | rfl | hc | rfl | hc <;> first | exact h1 c hc | exact h2 c hc | exact h3 c hc | exact h5
theorem z18c {y m d : Nat} (hy : y ≤ 999999) (hm : m ≤ 99) (hd : d ≤ 99) (a b : Int) : ∃ c r, dateN (y : Int) (m : Int) (d : Int) a b = c :: r ∧ digB c = true := by
 have hh : ∀ {s t : List UInt8}, s.all digB = true → s.length ≠ 0 → ∃ c r, s ++ t = c :: r ∧ digB c = true := by
  intro s t h hl
  cases s with
  | nil => exact absurd rfl hl
  | cons c s => exact ⟨c, s ++ t, rfl, by simp only [List.all_cons, Bool.and_eq_true] at h; exact h.1⟩
 have ly := z1a1 hy
 have lm := zhk hm
 have ld := zhk hd
 unfold dateN
 simp only [Int.toNat_natCast]
 split
 ·exact hh (zhu y) (by omega)
 ·split
  ·exact hh (z69 m) (by omega)
  ·split
   ·exact hh (z69 d) (by omega)
   ·exact hh (zhu y) (by omega)
theorem takeR_s (bc : Bool) (y m d : Int) : takeR bc (some (y, m, d)) = if y = 0 ∨ m < 1 ∨ 12 < m then none else if 1 ≤ d ∧ d ≤ lenI (if bc then IntKind.i64.wrap (1 - y) else y) m then some (if bc then IntKind.i64.wrap (1 - y) else y, m, d) else none := rfl
theorem z1cd {y : Int} {m d : Int} (h : okD y m d) (hr : -4712 ≤ y ∧ y ≤ 294276) : takeR (decide (y < 1)) (some ((if y < 1 then 1 - y else y), m, d)) = some (y, m, d) := by
 obtain ⟨h1, h2, h3, h4⟩ := h
 by_cases hy : y < 1
 ·rw [decide_eq_true hy, if_pos hy]
  rw [takeR_s, if_neg (by omega), if_pos rfl, w64 (by omega) (by omega), show 1 - (1 - y) = y by omega, if_pos ⟨h3, h4⟩]
 ·rw [decide_eq_false hy, if_neg hy]
  rw [takeR_s, if_neg (by omega)]
  simp only [Bool.false_eq_true, if_false]
  rw [if_pos ⟨h3, h4⟩]
theorem z1jp {y m d n : Int} (h : okD y m d) (e : dayI y m d = n) (hr : -4712 ≤ y ∧ y ≤ 294276) (hi : insB n = true) : dayO y m d = (n, 0) := by
 obtain ⟨h1, h2, h3, h4⟩ := h
 unfold dayO
 have : rightI y m d = true := by unfold rightI; exact decide_eq_true (by omega)
 rw [this, e, hi, if_pos ⟨rfl, rfl⟩]
def bcN (y : Int) : List UInt8 := if y < 1 then [32, 66, 67] else []
def absY (y : Int) : Int := if y < 1 then 1 - y else y
theorem date_back {y m d n : Int} (h : okD y m d) (e : dayI y m d = n) (hr : -4712 ≤ y ∧ y ≤ 294276) (hi : insB n = true) (a b : Int) (hb : 0 ≤ b ∧ b ≤ 2) : dateP (dateN (absY y) m d a b ++ bcN y) b = (0, n, 0) := by
 have hk := h
 obtain ⟨h1, h2, h3, h4⟩ := hk
 have hl := zcg y m h1 h2
 obtain ⟨Y, hY⟩ : ∃ Y : Nat, absY y = (Y : Int) := ⟨(absY y).toNat, by unfold absY; split <;> omega⟩
 have hY9 : Y ≤ 999999 := by unfold absY at hY; split at hY <;> omega
 obtain ⟨M, rfl⟩ : ∃ M : Nat, m = (M : Int) := ⟨m.toNat, by omega⟩
 obtain ⟨D, rfl⟩ : ∃ D : Nat, d = (D : Int) := ⟨d.toNat, by omega⟩
 have hp := z17g (y := Y) (m := M) (d := D) hY9 (by omega) (by omega) a b hb
 have hok := z1jq Y M D a b
 obtain ⟨c, r, hc, hcd⟩ := z18c (y := Y) (m := M) (d := D) hY9 (by omega) (by omega) a b
 have hlen := zwm (Y : Int) (M : Int) (D : Int) a b
 have htk := z1cd h hr
 rw [show (if y < 1 then 1 - y else y) = (Y : Int) from hY] at htk
 have hdy := z1jp h e hr hi
 rw [hY]
 generalize dateN (Y : Int) (M : Int) (D : Int) a b = T at hp hok hc hlen
 have hne : T ≠ [] := by rw [hc]; simp
 have hbl : ∀ c ∈ T, blB c = false := fun c hc => okC_bl (hok c hc)
 unfold dateP bcN
 rw [if_neg (by omega)]
 by_cases hy : y < 1
 ·rw [if_pos hy, if_neg (by simp; omega), zuh hne hbl]
  rw [decide_eq_true hy] at htk
  have hw : z20 [66, 67] = [[66, 67]] := zk7 (by simp) (by decide)
  rw [hw]
  unfold dateW
  rw [show spcI [T, [66, 67]] = 0 from rfl, if_neg (by omega), if_pos rfl]
  have he : eraO [T, [66, 67]] = ([T], true) := by
   unfold eraO
   rw [if_neg (by simp)]
   rfl
  rw [he]
  show dateF (takeR true (zce T b)) [] = _
  rw [hp, htk]
  show (if ([] : List (List UInt8)) = [] then ((0 : Int), dayO y M D) else (0, 0, 13)) = _
  rw [if_pos rfl, hdy]
 ·rw [if_neg hy, List.append_nil, if_neg (by omega), zk7 hne hbl]
  rw [decide_eq_false hy] at htk
  unfold dateW
  rw [hc, spc_dig hcd, ← hc, if_neg (by omega), if_pos rfl]
  have he : eraO [T] = ([T], false) := by
   unfold eraO
   rw [if_pos (by simp)]
  rw [he]
  show dateF (takeR false (zce T b)) [] = _
  rw [hp, htk]
  show (if ([] : List (List UInt8)) = [] then ((0 : Int), dayO y M D) else (0, 0, 13)) = _
  rw [if_pos rfl, hdy]
end Dv

namespace Dv
open Go
theorem time_back {t : Nat} (h : t < 86400000000) : timeO (textN t) = some (((t / 3600000000 : Nat) : Int), ((t / 60000000 % 60 : Nat) : Int), ((t / 1000000 % 60 : Nat) : Int), ((t % 1000000 : Nat) : Int)) := by
 have l1 := zhk (n := t / 3600000000) (by omega)
 have l2 := zhk (n := t / 60000000 % 60) (by omega)
 have l3 := zhk (n := t / 1000000 % 60) (by omega)
 have v1 : valD 0 (twoN (t / 3600000000)) = ((t / 3600000000 : Nat) : Int) := zm3 20 _ 2 (by omega)
 have v2 : valD 0 (twoN (t / 60000000 % 60)) = ((t / 60000000 % 60 : Nat) : Int) := zm3 20 _ 2 (by omega)
 have v3 : valD 0 (twoN (t / 1000000 % 60)) = ((t / 1000000 % 60 : Nat) : Int) := zm3 20 _ 2 (by omega)
 unfold timeO textN
 rw [zr8 (z69 _) (.inr ⟨58, _, rfl, by decide⟩)]
 simp only
 rw [if_pos (.inr l1), zjh, if_pos rfl]
 simp only [Option.bind_some]
 rw [v1]
 unfold minO
 rw [zr8 (z69 _) (.inr ⟨58, _, rfl, by decide⟩)]
 simp only
 rw [if_pos l2, if_neg (by simp), zjh, if_pos rfl]
 simp only [Option.bind_some]
 rw [v2]
 unfold secO
 by_cases hu : t % 1000000 = 0
 ·have hf : fracN (t % 1000000) = [] := by unfold fracN; rw [if_pos (.inl hu)]
  rw [hf, zr8 (z69 _) (.inl rfl)]
  simp only
  rw [if_pos l3, if_pos trivial, v3, hu]
  rfl
 ·have hf : fracN (t % 1000000) = 46 :: z50 (digC 20 (t % 1000000) 6) := by unfold fracN; rw [if_neg (by omega)]
  have hl6 := z1e3 6 20 (t % 1000000) (by omega) (by omega)
  have hs6 := z12w (digC 20 (t % 1000000) 6)
  have hsa := z12x _ (zwh 20 (t % 1000000) 6)
  have hsv := z1ch (digC 20 (t % 1000000) 6) 0
  have hv := zm3 20 (t % 1000000) 6 (by omega)
  have hne : 1 ≤ (z50 (digC 20 (t % 1000000) 6)).length := by
   rcases Nat.eq_zero_or_pos (z50 (digC 20 (t % 1000000) 6)).length with h0 | h0
   ·exact absurd (z1e2 20 (t % 1000000) 6 (by omega) (List.eq_nil_of_length_eq_zero h0)) hu
   ·exact h0
  rw [hf, zr8 (z69 _) (.inr ⟨46, _, rfl, by decide⟩)]
  simp only
  rw [if_pos l3, if_neg (by simp), zjh, if_pos rfl]
  simp only [Option.bind_some]
  rw [v3]
  unfold fracO
  have hr := zr8 hsa (r := []) (.inl rfl)
  rw [List.append_nil] at hr
  rw [hr]
  simp only
  rw [if_pos ⟨hne, by omega, trivial⟩, ← hv, hsv, hl6]
theorem mkO_back {t : Nat} (h : t < 86400000000) : mkO (timeO (textN t)) = ((t : Int), 0) := by
 rw [time_back h]
 unfold mkO
 simp only
 rw [if_pos (by omega)]
 congr 1
 omega
theorem textN_ok (t : Nat) : ∀ c ∈ textN t, okC c := by
 have hf : ∀ c ∈ fracN (t % 1000000), okC c := by
  unfold fracN
  intro c hc
  split at hc
  ·cases hc
  ·rcases List.mem_cons.1 hc with rfl | hc
   ·exact .inr (.inr (.inr (.inr rfl)))
   ·exact z15e (z12x _ (zwh 20 (t % 1000000) 6)) c hc
 have h58 : okC 58 := .inr (.inr (.inr (.inl rfl)))
 unfold textN
 intro c hc
 simp only [List.mem_append, List.mem_cons] at hc
 rcases hc with hc | rfl | hc | rfl | hc | hc
 ·exact z15e (z69 _) c hc
 ·exact h58
 ·exact z15e (z69 _) c hc
 ·exact h58
 ·exact z15e (z69 _) c hc
 ·exact hf c hc
theorem z1ka (t : Nat) (h : t < 86400000000) : ∃ c r, textN t = c :: r ∧ digB c = true := by
 have l1 := zhk (n := t / 3600000000) (by omega)
 have ha := z69 (t / 3600000000)
 unfold textN
 cases hs : twoN (t / 3600000000) with
 | nil => rw [hs] at l1; cases l1
 | cons c s =>
  rw [hs] at ha
  simp only [List.all_cons, Bool.and_eq_true] at ha
  exact ⟨c, _, rfl, ha.1⟩
theorem cut_no {T : List UInt8} (h : ∀ c ∈ T, okC c) (r : List (List UInt8)) : cutO (T :: r) = T :: r := by
 rw [z1b1]
 have : hitK T T.length 1 = none := by
  apply z146
  intro i hi
  cases hg : T[i]? with
  | none =>
   exact z1al (by have := List.getElem?_eq_none_iff.1 hg; omega)
  | some c =>
   have hc := okC_t (h c (List.mem_of_getElem? hg))
   exact z145 hg hc.1 hc.2
 rw [this]
theorem era_time {T t : List UInt8} {c : UInt8} {r : List UInt8} (ht : t = c :: r) (hc : digB c = true) : eraO [T, t] = ([T, t], false) := by
 have h1 : eqS (lowS t) [98, 99] = false := by
  unfold eqS
  apply decide_eq_false
  intro e
  subst ht
  unfold lowS at e
  rw [List.map_cons, z1af hc, List.cons.injEq] at e
  have := (z38 c).1 hc
  rw [e.1] at this; exact absurd this (by decide)
 have h2 : eqS (lowS t) [97, 100] = false := by
  unfold eqS
  apply decide_eq_false
  intro e
  subst ht
  unfold lowS at e
  rw [List.map_cons, z1af hc, List.cons.injEq] at e
  have := (z38 c).1 hc
  rw [e.1] at this; exact absurd this (by decide)
 unfold eraO
 rw [if_neg (by simp)]
 show (if eqS (lowS t) [98, 99] = true then _ else if eqS (lowS t) [97, 100] = true then _ else _) = _
 rw [h1, h2, if_neg (by simp), if_neg (by simp)]
theorem mom_back {y m d n u : Int} (hd : dayO y m d = (n, 0)) (hi : insB n = true) {t : Nat} (ht : t < 86400000000) (hu : n * 86400000000 + t = u) : momW (some (y, m, d)) [textN t] = (0, u, 0) := by
 show momF y m d (mkO (timeO (textN t))) = _
 rw [mkO_back ht]
 unfold momF
 rw [hd]
 simp only
 rw [if_neg (by omega), if_pos trivial, if_pos trivial]
 have e : (if (t : Int) = 86400000000 then n + 1 else n) = n := if_neg (by omega)
 unfold stF
 rw [e, hi, if_pos rfl, hu]
theorem z1ke {y m d n u : Int} (h : okD y m d) (e : dayI y m d = n) (hr : -4712 ≤ y ∧ y ≤ 294276) (hi : insB n = true) (hn : u / 86400000000 = n) (a b : Int) (hb : 0 ≤ b ∧ b ≤ 2) :
  zo4 (dateN (absY y) m d a b ++ ([32] ++ textN (u % 86400000000).toNat) ++ bcN y) b = (0, u, 0) := by
 have hk := h
 obtain ⟨h1, h2, h3, h4⟩ := hk
 have hl := zcg y m h1 h2
 obtain ⟨Y, hY⟩ : ∃ Y : Nat, absY y = (Y : Int) := ⟨(absY y).toNat, by unfold absY; split <;> omega⟩
 have hY9 : Y ≤ 999999 := by unfold absY at hY; split at hY <;> omega
 obtain ⟨M, rfl⟩ : ∃ M : Nat, m = (M : Int) := ⟨m.toNat, by omega⟩
 obtain ⟨D, rfl⟩ : ∃ D : Nat, d = (D : Int) := ⟨d.toNat, by omega⟩
 have hp := z17g (y := Y) (m := M) (d := D) hY9 (by omega) (by omega) a b hb
 have hok := z1jq Y M D a b
 obtain ⟨c, r, hc, hcd⟩ := z18c (y := Y) (m := M) (d := D) hY9 (by omega) (by omega) a b
 have hlen := zwm (Y : Int) (M : Int) (D : Int) a b
 have htk := z1cd h hr
 rw [show (if y < 1 then 1 - y else y) = (Y : Int) from hY] at htk
 have hdy := z1jp h e hr hi
 have hto := textN_ok (u % 86400000000).toNat
 have htl := znt (u % 86400000000).toNat
 obtain ⟨c2, r2, hc2, hcd2⟩ := z1ka (u % 86400000000).toNat (by omega)
 have hmb := mom_back hdy hi (t := (u % 86400000000).toNat) (by omega) (u := u) (by omega)
 rw [hY]
 generalize dateN (Y : Int) (M : Int) (D : Int) a b = T at hp hok hc hlen
 generalize textN (u % 86400000000).toNat = X at hto htl hc2 hmb
 have hne : T ≠ [] := by rw [hc]; simp
 have hbl : ∀ c ∈ T, blB c = false := fun c hc => okC_bl (hok c hc)
 have hneX : X ≠ [] := by rw [hc2]; simp
 have hblX : ∀ c ∈ X, blB c = false := fun c hc => okC_bl (hto c hc)
 unfold zo4 bcN
 rw [if_neg (by omega)]
 by_cases hy : y < 1
 ·rw [if_pos hy, if_neg (by simp; omega)]
  have hw : z20 (T ++ ([32] ++ X) ++ [32, 66, 67]) = [T, X, [66, 67]] := by
   rw [show T ++ ([32] ++ X) ++ [32, 66, 67] = T ++ 32 :: (X ++ 32 :: [66, 67]) by simp, zuh hne hbl, zuh hneX hblX, zk7 (by simp) (by decide)]
  rw [decide_eq_true hy] at htk
  rw [hw]
  unfold z175
  rw [show spcI [T, X, [66, 67]] = 0 from rfl, if_neg (by omega), if_pos rfl, cut_no hok]
  have he : eraO [T, X, [66, 67]] = ([T, X], true) := by
   unfold eraO
   rw [if_neg (by simp)]
   rfl
  rw [he]
  show momW (takeR true (zce T b)) [X] = _
  rw [hp, htk, hmb]
 ·rw [if_neg hy, List.append_nil, if_neg (by simp; omega)]
  have hw : z20 (T ++ ([32] ++ X)) = [T, X] := by
   rw [show T ++ ([32] ++ X) = T ++ 32 :: X by simp, zuh hne hbl, zk7 hneX hblX]
  rw [decide_eq_false hy] at htk
  rw [hw]
  unfold z175
  rw [show spcI [T, X] = 0 from rfl, if_neg (by omega), if_pos rfl, cut_no hok, era_time hc2 hcd2]
  show momW (takeR false (zce T b)) [X] = _
  rw [hp, htk, hmb]
theorem z1jb (o : Int) (ho : 0 ≤ o ∧ o ≤ 2) : dateP infB o = (1, 0, 0) ∧ dateP ninfB o = (-1, 0, 0) ∧ zo4 infB o = (1, 0, 0) ∧ zo4 ninfB o = (-1, 0, 0) := by
 have w1 : z20 infB = [infB] := zk7 (by decide) (by decide)
 have w2 : z20 ninfB = [ninfB] := zk7 (by decide) (by decide)
 have s1 : spcI [infB] = 1 := by decide
 have s2 : spcI [ninfB] = -1 := by decide
 refine ⟨?_, ?_, ?_, ?_⟩
 ·unfold dateP dateW
  rw [if_neg (by omega), if_neg (by decide), w1, s1]; rfl
 ·unfold dateP dateW
  rw [if_neg (by omega), if_neg (by decide), w2, s2]; rfl
 ·unfold zo4 z175
  rw [if_neg (by omega), if_neg (by decide), w1, s1]; rfl
 ·unfold zo4 z175
  rw [if_neg (by omega), if_neg (by decide), w2, s2]; rfl
end Dv

namespace Dv
open Go
def totL : List (List UInt8) → Nat
 | [] => 0
 | s :: l => s.length + totL l
theorem z1dl (l : List (List UInt8)) (hl : l.length ≤ 1000) : ∀ (r : List (List UInt8)) (i : Nat) (acc : List UInt8), l.drop i = r → i ≤ l.length → acc.length + totL r ≤ 1000000 →
  ziq (l.map PV.str) (l.length : Int) (i : Int) (acc.map byteV) = some (.str (acc ++ r.flatten))
 | [], i, acc, hr, hi, ht => by
  have := zwf hr
  rw [zo7, c_ltF (by omega), zc7]
  simp
 | s :: r, i, acc, hr, hi, ht => by
  obtain ⟨h1, h2, h3⟩ := zp0 hr
  have e1 : IntKind.i64.wrap ((i : Int) + 1) = ((i + 1 : Nat) : Int) := by rw [w64 (by omega) (by omega)]; omega
  simp only [totL] at ht
  rw [zo7, c_ltT (by omega), rdI_n, zom h2]
  simp only [Option.bind_some, zm]
  rw [decide_eq_true (by omega), cond_true, Int.toNat_natCast, List.take_length, z9g (by simp; omega)]
  simp only [Option.bind_some]
  rw [e1, ← List.map_append, z1dl l hl r (i + 1) (acc ++ s) h3 (by omega) (by simp; omega)]
  simp
theorem zj2 (l : List (List UInt8)) (hl : l.length ≤ 1000) (ht : totL l ≤ 1000000) : z1b (l.map PV.str) = some (.str l.flatten) := by
 rw [z1co, List.length_map]
 have := z1dl l hl l 0 [] rfl (by omega) (by simpa using ht)
 exact this
def joinB (sep : List UInt8) : List (List UInt8) → List UInt8
 | [] => []
 | [a] => a
 | a :: b :: r => a ++ (sep ++ joinB sep (b :: r))
def tailB (sep : List UInt8) : List (List UInt8) → List UInt8
 | [] => []
 | a :: r => sep ++ (a ++ tailB sep r)
theorem z17o (sep a : List UInt8) : ∀ r, joinB sep (a :: r) = a ++ tailB sep r
 | [] => by simp [joinB, tailB]
 | b :: r => by
  rw [joinB, tailB, z17o sep b r]
theorem z1ce (sep : List UInt8) : ∀ l, (tailB sep l).length = totL l + sep.length * l.length
 | [] => by simp [tailB, totL]
 | a :: r => by
  simp only [tailB, totL, List.length_append, z1ce sep r, List.length_cons, Nat.mul_add, Nat.mul_one]
  omega
theorem z1j8 (sep : List UInt8) (hsep : 1 ≤ sep.length ∧ sep.length ≤ 100) (l : List (List UInt8)) (hl : l.length ≤ 1000) : ∀ (r : List (List UInt8)) (i : Nat) (acc : List UInt8), l.drop i = r → i ≤ l.length →
  acc.length + (tailB sep r).length ≤ 10000000 → acc ++ tailB sep r ≠ [] →
  zbp sep (l.map PV.str) (l.length : Int) (i : Int) (acc.map byteV) = some (.str (acc ++ tailB sep r))
 | [], i, acc, hr, hi, ht, hne => by
  have := zwf hr
  have hacc : acc ≠ [] := by simpa [tailB] using hne
  have hn : isNilL (acc.map byteV) = false := by cases acc with | nil => exact absurd rfl hacc | cons => rfl
  rw [zho, c_ltF (by omega), hn]
  simp only [tailB, List.length_nil, Nat.add_zero, List.append_nil] at ht ⊢
  simp only [Bool.not_false, Bool.and_self, cond_true, cond_false]
  rw [decide_eq_true ⟨trivial, by rw [List.length_map]; omega⟩, cond_true, zc7]
  rfl
 | s :: r, i, acc, hr, hi, ht, hne => by
  obtain ⟨h1, h2, h3⟩ := zp0 hr
  have e1 : IntKind.i64.wrap ((i : Int) + 1) = ((i + 1 : Nat) : Int) := by rw [w64 (by omega) (by omega)]; omega
  simp only [tailB, List.length_append] at ht
  rw [zho, c_ltT (by omega), rdI_n, zom h2]
  simp only [Option.bind_some, zm]
  rw [z9g (by simp; omega)]
  simp only [Option.bind_some]
  rw [z9g (by simp; omega)]
  simp only [Option.bind_some]
  rw [e1, ← List.map_append, ← List.map_append, z1j8 sep hsep l hl r (i + 1) (acc ++ sep ++ s) h3 (by omega) (by simp; omega) (by
   intro h
   have := congrArg List.length h
   simp only [List.length_append, List.length_nil] at this
   omega)]
  simp [tailB]
theorem z1j9 (sep : List UInt8) (l : List (List UInt8)) (hl : l.length ≤ 1000) (x0 : List PV) : ∀ (r : List (List UInt8)) (i n : Nat), l.drop i = r → i ≤ l.length → n + totL r ≤ 10000000 →
  zbq x0 sep (n : Int) (l.map PV.str) (l.length : Int) (i : Int) = if n + totL r = 0 then zio x0 sep else zgj x0 sep []
 | [], i, n, hr, hi, ht => by
  have := zwf hr
  simp only [totL, Nat.add_zero] at ht
  have h0 : n + totL [] = n := rfl
  have e0 : IntKind.i64.wrap (0 - 0) = 0 := by decide
  have e1 : IntKind.i64.wrap (2 * 0) = 0 := by decide
  rw [zhp, c_ltF (by omega), c_ltF (by omega), e0, e1, w64 (n := 0 + (n : Int)) (by omega) (by omega)]
  by_cases hn : n = 0
  ·rw [c_ltF (by omega), if_pos (h0.trans hn)]
  ·rw [c_ltT (by omega), if_neg (by rw [h0]; exact hn), decide_eq_true (by omega), cond_true]
 | s :: r, i, n, hr, hi, ht => by
  obtain ⟨h1, h2, h3⟩ := zp0 hr
  have e1 : IntKind.i64.wrap ((i : Int) + 1) = ((i + 1 : Nat) : Int) := by rw [w64 (by omega) (by omega)]; omega
  simp only [totL] at ht
  have h0 : n + totL (s :: r) = n + s.length + totL r := by simp only [totL]; omega
  have e2 : IntKind.i64.wrap ((n : Int) + ((s.length : Nat) : Int)) = ((n + s.length : Nat) : Int) := by rw [w64 (by omega) (by omega)]; omega
  rw [zhp, c_ltT (by omega), rdI_n, zom h2]
  simp only [Option.bind_some, zm]
  rw [w64 (by omega) (by omega), c_ltF (by omega), zt8, e1, e2, z1j9 sep l hl x0 r (i + 1) (n + s.length) h3 (by omega) (by omega), h0]
theorem join_c21 (sep : List UInt8) (hsep : 1 ≤ sep.length ∧ sep.length ≤ 100) (a b : List UInt8) (r : List (List UInt8)) (hl : r.length ≤ 900) (ht : a.length + totL (b :: r) ≤ 1000000) :
  zgi ((a :: b :: r).map PV.str) sep (a.map byteV) = some (.str (joinB sep (a :: b :: r))) := by
 have e : dropS ((a :: b :: r).map PV.str) 1 = some ((b :: r).map PV.str) := by rw [z1b0 (by omega) (by simp; omega)]; rfl
 rw [zt6, e]
 simp only [Option.bind_some]
 rw [List.length_map, z17o]
 have htl := z1ce sep (b :: r)
 have hm : sep.length * (b :: r).length ≤ 100 * 901 := Nat.mul_le_mul hsep.2 (by simp; omega)
 have := z1j8 sep hsep (b :: r) (by simp; omega) (b :: r) 0 a rfl (by omega) (by omega) (by
  intro h
  have := congrArg List.length h
  simp only [List.length_append, htl, List.length_cons, List.length_nil, Nat.mul_add] at this
  omega)
 exact this
theorem sjoin_s (sep : List UInt8) (hsep : 1 ≤ sep.length ∧ sep.length ≤ 100) (l : List (List UInt8)) (hl : l.length ≤ 900) (ht : totL l ≤ 1000000) : zo1 (l.map PV.str) sep = some (.str (joinB sep l)) := by
 match l, hl, ht with
 | [], _, _ => rw [zhn]; rfl
 | [a], _, _ =>
  rw [zhn]
  have e1 : ((([a].map PV.str).length : Nat) : Int) = 1 := rfl
  rw [e1, c_eqF (by omega), c_eqT rfl]
  rfl
 | a :: b :: r, hl, ht =>
  simp only [List.length_cons] at hl
  have hlen : (((a :: b :: r).map PV.str).length : Int) = ((r.length + 2 : Nat) : Int) := by simp only [List.length_map, List.length_cons]
  have e2 : IntKind.i64.wrap (((r.length + 2 : Nat) : Int) - 1) = ((r.length + 1 : Nat) : Int) := by rw [w64 (by omega) (by omega)]; omega
  have e3 : 1000000 ≤ IntKind.i64.wrap (Int.tdiv 9223372036854775807 ((r.length + 1 : Nat) : Int)) := by
   have := tdivN 9223372036854775807 (r.length + 1)
   rw [show ((9223372036854775807 : Nat) : Int) = 9223372036854775807 from rfl] at this
   have h1 : 9223372036854775807 / (r.length + 1) ≤ 9223372036854775807 := Nat.div_le_self _ _
   have h2 : 1000000 ≤ 9223372036854775807 / (r.length + 1) := by
    rw [Nat.le_div_iff_mul_le (by omega)]
    omega
   rw [this, w64 (by omega) (by omega)]
   omega
  have hm : sep.length * (r.length + 1) ≤ 100 * 901 := Nat.mul_le_mul hsep.2 (by omega)
  have hmi : ((sep.length : Nat) : Int) * ((r.length + 1 : Nat) : Int) = ((sep.length * (r.length + 1) : Nat) : Int) := by push_cast; rfl
  rw [zhn, hlen, c_eqF (by omega), c_eqF (by omega), c_ltT (by omega), e2, c_eqF (by omega), c_leF (by omega), zta, hlen, e2, hmi, w64 (n := ((sep.length * (r.length + 1) : Nat) : Int)) (by omega) (by omega),
   Int.zero_add, w64 (by omega) (by omega), zt9, hlen]
  have hll : ((r.length + 2 : Nat) : Int) = (((a :: b :: r).length : Nat) : Int) := by simp only [List.length_cons]
  rw [hll]
  have h12 := z1j9 sep (a :: b :: r) (by simp; omega) ((a :: b :: r).map PV.str) (a :: b :: r) 0 (sep.length * (r.length + 1)) rfl (by omega) (by omega)
  rw [show ((0 : Nat) : Int) = 0 from rfl] at h12
  have hpos : 1 * 1 ≤ sep.length * (r.length + 1) := Nat.mul_le_mul hsep.1 (by omega)
  rw [h12, if_neg (by omega), zt7]
  have hr0 : rdI tiStr ((a :: b :: r).map PV.str) 0 = some (.str a) := rfl
  rw [hr0]
  simp only [totL] at ht
  simp only [Option.bind_some, zm]
  rw [z9g (by simp; omega)]
  simp only [Option.bind_some, List.nil_append]
  exact join_c21 sep hsep a b r (by omega) (by simp only [totL]; omega)
def fullL (l : List (List UInt8)) : List (List UInt8) := l.filter fun s => !eqS s []
theorem z1ho : ∀ a b, totL (a ++ b) = totL a + totL b
 | [], b => by simp [totL]
 | s :: a, b => by simp only [List.cons_append, totL, z1ho a b]; omega
theorem zpn (sep : List UInt8) (hsep : 1 ≤ sep.length ∧ sep.length ≤ 100) (l : List (List UInt8)) (hl : l.length ≤ 400) : ∀ (r : List (List UInt8)) (i : Nat) (acc : List (List UInt8)), l.drop i = r → i ≤ l.length →
  totL acc + totL r ≤ 1000000 → acc.length + r.length ≤ 400 → z9v sep (l.map PV.str) (l.length : Int) (i : Int) (acc.map PV.str) = some (.str (joinB sep (acc ++ fullL r)))
 | [], i, acc, hr, hi, ht, hn => by
  have := zwf hr
  simp only [totL, List.length_nil] at ht hn
  rw [zis, c_ltF (by omega), sjoin_s sep hsep acc (by omega) (by omega)]
  simp [fullL, PV.toS]
 | s :: r, i, acc, hr, hi, ht, hn => by
  obtain ⟨h1, h2, h3⟩ := zp0 hr
  have e1 : IntKind.i64.wrap ((i : Int) + 1) = ((i + 1 : Nat) : Int) := by rw [w64 (by omega) (by omega)]; omega
  simp only [totL, List.length_cons] at ht hn
  rw [zis, c_ltT (by omega), rdI_n, zom h2]
  simp only [Option.bind_some, zm]
  by_cases hs : s = []
  ·rw [c_not, zmw hs, e1, zpn sep hsep l hl r (i + 1) acc h3 (by omega) (by omega) (by omega)]
   have : fullL (s :: r) = fullL r := by unfold fullL; rw [List.filter_cons_of_neg]; simp [eqS, hs]
   rw [this]
  ·rw [c_not, zay hs, z9g (by simp; omega)]
   simp only [Option.bind_some]
   have e2 : acc.map PV.str ++ [PV.str s] = (acc ++ [s]).map PV.str := by simp
   rw [e1, e2, zpn sep hsep l hl r (i + 1) (acc ++ [s]) h3 (by omega) (by rw [z1ho]; simp only [totL]; omega) (by simp; omega)]
   have : fullL (s :: r) = s :: fullL r := by unfold fullL; rw [List.filter_cons_of_pos]; simp [eqS, hs]
   rw [this]
   simp
theorem zpm (sep : List UInt8) (hsep : 1 ≤ sep.length ∧ sep.length ≤ 100) (l : List (List UInt8)) (hl : l.length ≤ 400) (ht : totL l ≤ 1000000) : z2u sep (l.map PV.str) = some (.str (joinB sep (fullL l))) := by
 rw [z138, List.length_map]
 have := zpn sep hsep l hl l 0 [] rfl (by omega) (by simpa [totL] using ht) (by simpa using hl)
 exact this
end Dv

namespace Dv
open Go
abbrev InS (n : Int) : Prop := -9223372036854775807 ≤ n ∧ n ≤ 9223372036854775807
def spanR (i m d u : Int) : Bool :=
 if i = 0 then decide (-2147483647 ≤ m ∧ m ≤ 2147483647 ∧ -2147483647 ≤ d ∧ d ≤ 2147483647 ∧ -9223372036854775807 ≤ u ∧ u ≤ 9223372036854775807) else decide ((i = -1 ∨ i = 1) ∧ m = 0 ∧ d = 0 ∧ u = 0)
def zz5 (a b c : Int) : Bool := decide (0 ≤ a ∧ a ≤ 1 ∧ 0 ≤ b ∧ b ≤ 2 ∧ 0 ≤ c ∧ c ≤ 2)
theorem z199 (a b c : Int) : zkf a b c = some (.bool (zz5 a b c)) := by
 rw [z19h]
 unfold zz5 leB
 by_cases h1 : 0 ≤ a <;> by_cases h2 : a ≤ 1 <;> by_cases h3 : 0 ≤ b <;> by_cases h4 : b ≤ 2 <;> by_cases h5 : 0 ≤ c <;> by_cases h6 : c ≤ 2 <;> simp [h1, h2, h3, h4, h5, h6]
theorem neg_ok {u : Int} (h1 : -9223372036854775808 ≤ u) (h2 : u ≤ 9223372036854775807) : ∃ n, z1a4 u = some (.tuple [.int .i64 n, .int .i64 (if u = -9223372036854775808 then 10 else 0)]) := by
 rw [z1kr, z1kq]
 by_cases h : u = -9223372036854775808
 ·subst h
  refine ⟨0, ?_⟩
  kernel_rfl
 ·have e : IntKind.i64.wrap (0 - u) = -u := by rw [w64 (by omega) (by omega)]; omega
  refine ⟨-u, ?_⟩
  rw [e]
  have hb : (ltB (-u) 0 == ltB 0 u) = true := by
   unfold ltB
   by_cases hu : 0 < u
   ·rw [decide_eq_true hu, decide_eq_true (by omega)]; rfl
   ·rw [decide_eq_false hu, decide_eq_false (by omega)]; rfl
  rw [hb, if_neg h]
  rfl
theorem z1hd (n : Int) : zlp n = some (.bool (decide (-2147483647 ≤ n ∧ n ≤ 2147483647))) := by
 rw [z166]
 unfold leB
 by_cases h1 : -2147483647 ≤ n <;> by_cases h2 : n ≤ 2147483647 <;> simp [h1, h2]
theorem right_s {i m d u : Int} (h1 : -9223372036854775808 ≤ u) (h2 : u ≤ 9223372036854775807) : zxw i m d u = some (.bool (spanR i m d u)) := by
 rw [z19c]
 unfold spanR
 by_cases hi : i = 0
 ·obtain ⟨n, hn⟩ := neg_ok h1 h2
  rw [c_not, c_eqT hi, if_pos hi, hn, z1hd, z1hd]
  simp only [Option.bind_some, zh, tn1, zc]
  by_cases hm : -2147483647 ≤ m ∧ m ≤ 2147483647
  ·rw [decide_eq_true hm, cond_true]
   by_cases hd : -2147483647 ≤ d ∧ d ≤ 2147483647
   ·rw [decide_eq_true hd, cond_true]
    unfold eqB
    by_cases hu : u = -9223372036854775808
    ·simp [hu]
    ·have : -9223372036854775807 ≤ u := by omega
     simp [hu, hm, hd, this, h2]
   ·rw [decide_eq_false hd, cond_false, decide_eq_false (by omega)]
  ·rw [decide_eq_false hm, cond_false, decide_eq_false (by omega)]
 ·rw [c_not, c_eqF hi, if_neg hi]
  unfold eqB leB
  by_cases a1 : m = 0 <;> by_cases a2 : d = 0 <;> by_cases a3 : u = 0 <;> simp [a1, a2, a3]
  by_cases b1 : -1 ≤ i <;> by_cases b2 : i ≤ 1 <;> simp [b1, b2] <;> omega
theorem spanR_fin {m d u : Int} (h : spanR 0 m d u = true) : -2147483647 ≤ m ∧ m ≤ 2147483647 ∧ -2147483647 ≤ d ∧ d ≤ 2147483647 ∧ -9223372036854775807 ≤ u ∧ u ≤ 9223372036854775807 := by
 unfold spanR at h
 rw [if_pos rfl] at h
 exact of_decide_eq_true h
theorem z11v {a : Int} (h : InS a) : z2t a = some (.str (decI a)) := by
 rw [z16b]
 unfold decI
 by_cases ha : a < 0
 ·have e : IntKind.i64.wrap (0 - a) = -a := by rw [w64 (by omega) (by omega)]; omega
  have hl := zdq (-a).toNat
  rw [c_ltT ha, if_pos ha, e, zd5 (by omega) (by omega)]
  simp only [Option.bind_some, zm]
  have := zj2 [[45], digN (-a).toNat] (by simp) (by simp [totL]; omega)
  simp only [List.map_cons, List.map_nil] at this
  rw [this]
  simp
  rfl
 ·rw [c_ltF ha, if_neg ha, zd5 (by omega) (by omega)]; rfl
def sgnB (a : Int) : List UInt8 := if a < 0 then [45] else [43]
def absI (a : Int) : Int := if a < 0 then -a else a
theorem z11q {a : Int} (h : InS a) : zew a = some (.tuple [.str (sgnB a), .int .i64 (absI a)]) := by
 rw [z16a]
 unfold sgnB absI
 by_cases ha : a < 0
 ·have e : IntKind.i64.wrap (0 - a) = -a := by rw [w64 (by omega) (by omega)]; omega
  rw [c_ltT ha, if_pos ha, if_pos ha, e]
 ·rw [c_ltF ha, if_neg ha, if_neg ha]
theorem zx2 {a : Int} (h : InS a) : 0 ≤ absI a ∧ absI a ≤ 9223372036854775807 := by unfold absI; split <;> omega
theorem z19i (a : Int) : (sgnB a).length = 1 := by unfold sgnB; split <;> rfl
end Dv

namespace Dv
open Go
def unitB (n : Int) (name : List UInt8) (was : Int) : List UInt8 :=
 if n = 0 then [] else (if was < 0 ∧ 0 < n then [43] else []) ++ (decI n ++ (32 :: (name ++ (if n = 1 then [] else [115]))))
def nextW (n was : Int) : Int := if n = 0 then was else n
def timeB (u was : Int) : List UInt8 := if 0 < u ∧ was < 0 then 43 :: longI u else if u ≠ 0 ∨ was = 0 then longI u else []
theorem z12p (n : Int) (name : List UInt8) (was : Int) (h : name.length ≤ 10) : (unitB n name was).length ≤ 40 := by
 have := zrk n
 unfold unitB
 split
 ·simp
 ·split <;> split <;> simp <;> omega
def addW (t s : List UInt8) : List UInt8 := if s = [] then t else if t = [] then s else t ++ (32 :: s)
theorem join_addW (a b c d : List UInt8) : joinB [32] (fullL [a, b, c, d]) = addW (addW (addW a b) c) d := by
 unfold addW fullL eqS
 by_cases h1 : a = [] <;> by_cases h2 : b = [] <;> by_cases h3 : c = [] <;> by_cases h4 : d = [] <;> simp [h1, h2, h3, h4, joinB]
theorem z12o (p n x m : List UInt8) (hp : p.length ≤ 10) (hn : n.length ≤ 100) (hx : x.length ≤ 10) (hm : m.length ≤ 10) :
  z1b [.str p, .str n, .str [32], .str x, .str m] = some (.str (p ++ (n ++ (32 :: (x ++ m))))) := by
 have := zj2 [p, n, [32], x, m] (by simp) (by simp [totL]; omega)
 simp only [List.map_cons, List.map_nil] at this
 rw [this]
 simp
theorem z129 (a b c d : List UInt8) (ha : a.length ≤ 100) (hb : b.length ≤ 100) (hc : c.length ≤ 100) (hd : d.length ≤ 100) :
  z2u [32] [.str a, .str b, .str c, .str d] = some (.str (addW (addW (addW a b) c) d)) := by
 have := zpm [32] (by simp) [a, b, c, d] (by simp) (by simp [totL]; omega)
 simp only [List.map_cons, List.map_nil] at this
 rw [this, join_addW]
def yearN : List UInt8 := [121, 101, 97, 114]
def monN : List UInt8 := [109, 111, 110]
def dayN : List UInt8 := [100, 97, 121]
theorem pg_c5 (a b c : List UInt8) (ha : a.length ≤ 100) (hb : b.length ≤ 100) (hc : c.length ≤ 100) (i m d : Int) {u : Int} (hu : InS u) (was : Int) :
  z2y a b c i m d u was = some (.str (addW (addW (addW a b) c) (timeB u was))) := by
 have hl := longI_len u
 have c8 : ¬ (0 < u ∧ was < 0) → zbr a b c [] i m d u was = some (.str (addW (addW (addW a b) c) (timeB u was))) := by
  intro hn
  rw [zte, long_s (by omega) (by omega)]
  unfold timeB
  rw [if_neg hn]
  by_cases h0 : u = 0
  ·rw [c_not, c_eqT h0]
   by_cases hw : was = 0
   ·rw [c_eqT hw, if_pos (.inr hw)]
    simp only [Option.bind_some, zm]
    rw [z129 a b c (longI u) ha hb hc (by omega)]
    rfl
   ·rw [c_eqF hw, if_neg (fun h => h.elim (fun h => h h0) hw), z129 a b c [] ha hb hc (by simp)]
    rfl
  ·rw [c_not, c_eqF h0, if_pos (.inl h0)]
   simp only [Option.bind_some, zm]
   rw [z129 a b c (longI u) ha hb hc (by omega)]
   rfl
 rw [ztg]
 by_cases h1 : 0 < u
 ·rw [c_ltT h1]
  by_cases h2 : was < 0
  ·rw [c_ltT h2, ztf, long_s (by omega) (by omega)]
   simp only [Option.bind_some, zm]
   have hj := zj2 [[43], longI u] (by simp) (by simp [totL]; omega)
   simp only [List.map_cons, List.map_nil] at hj
   have ht : timeB u was = 43 :: longI u := if_pos ⟨h1, h2⟩
   rw [hj, ht]
   simp only [Option.bind_some, zm]
   rw [z129 a b c _ ha hb hc (by simp; omega)]
   simp only [Option.bind_some, zm]
   simp
  ·rw [c_ltF h2]; exact c8 (fun h => h2 h.2)
 ·rw [c_ltF h1]; exact c8 (fun h => h1 h.1)
theorem pg_c4 (a b : List UInt8) (ha : a.length ≤ 100) (hb : b.length ≤ 100) (i m : Int) {d u : Int} (hd : InS d) (hu : InS u) (was : Int) :
  z2z a b i m d u was = some (.str (addW (addW (addW a b) (unitB d dayN was)) (timeB u (nextW d was)))) := by
 have hn := zrk d
 have hl := z12p d dayN was (by decide)
 rw [zth]
 by_cases h0 : d = 0
 ·rw [c_eqT h0, pg_c5 a b [] ha hb (by simp) i m d hu was]
  unfold unitB nextW
  rw [if_pos h0, if_pos h0]
 ·rw [c_eqF h0, z11v hd]
  have hw : nextW d was = d := if_neg h0
  rw [hw]
  have fin : ∀ p q : List UInt8, unitB d dayN was = p ++ (decI d ++ (32 :: (dayN ++ q))) → p.length ≤ 10 → q.length ≤ 10 →
    ((some (PV.str (decI d))).bind fun v => (z1b [.str p, .str v.toS, .str [32], .str [100, 97, 121], .str q]).bind fun w => z2y a b w.toS i m d u d) =
     some (.str (addW (addW (addW a b) (unitB d dayN was)) (timeB u d))) := by
   intro p q h hp hq
   simp only [Option.bind_some, zm]
   have := z12o p (decI d) dayN q hp (by omega) (by decide) hq
   unfold dayN at this
   rw [this]
   simp only [Option.bind_some, zm]
   rw [h] at hl ⊢
   exact pg_c5 a b _ ha hb (by unfold dayN at hl; omega) i m d hu d
  have hu' : unitB d dayN was = (if was < 0 ∧ 0 < d then [43] else []) ++ (decI d ++ (32 :: (dayN ++ (if d = 1 then [] else [115])))) := if_neg h0
  by_cases h1 : was < 0
  ·rw [c_ltT h1]
   by_cases h2 : 0 < d
   ·rw [c_ltT h2]
    rw [if_pos ⟨h1, h2⟩] at hu'
    by_cases h3 : d = 1
    ·rw [c_eqT h3]; rw [if_pos h3] at hu'; exact fin _ _ hu' (by simp) (by simp)
    ·rw [c_eqF h3]; rw [if_neg h3] at hu'; exact fin _ _ hu' (by simp) (by simp)
   ·rw [c_ltF h2]
    rw [if_neg (fun h => h2 h.2)] at hu'
    by_cases h3 : d = 1
    ·rw [c_eqT h3]; rw [if_pos h3] at hu'; exact fin _ _ hu' (by simp) (by simp)
    ·rw [c_eqF h3]; rw [if_neg h3] at hu'; exact fin _ _ hu' (by simp) (by simp)
  ·rw [c_ltF h1]
   rw [if_neg (fun h => h1 h.1)] at hu'
   by_cases h3 : d = 1
   ·rw [c_eqT h3]; rw [if_pos h3] at hu'; exact fin _ _ hu' (by simp) (by simp)
   ·rw [c_eqF h3]; rw [if_neg h3] at hu'; exact fin _ _ hu' (by simp) (by simp)
theorem tmod12 (m : Int) : InS (m.tmod 12) := by
 have := Int.lt_tmod_of_pos m (show (0 : Int) < 12 by omega)
 have := Int.tmod_lt_of_pos m (show (0 : Int) < 12 by omega)
 exact ⟨by omega, by omega⟩
theorem pg_c3 (a : List UInt8) (ha : a.length ≤ 50) (i m : Int) {d u : Int} (hd : InS d) (hu : InS u) (was : Int) :
  z77 a i m d u was = some (.str (addW (addW (addW a (unitB (m.tmod 12) monN was)) (unitB d dayN (nextW (m.tmod 12) was))) (timeB u (nextW d (nextW (m.tmod 12) was))))) := by
 have hr := tmod12 m
 have hn := zrk (m.tmod 12)
 have hl := z12p (m.tmod 12) monN was (by decide)
 rw [zti]
 by_cases h0 : m.tmod 12 = 0
 ·rw [c_eqT h0, pg_c4 a [] (by omega) (by simp) i m hd hu was]
  unfold unitB nextW
  rw [if_pos h0, if_pos h0]
 ·rw [c_eqF h0, z11v hr]
  have hw : nextW (m.tmod 12) was = m.tmod 12 := if_neg h0
  rw [hw]
  have fin : ∀ p q : List UInt8, unitB (m.tmod 12) monN was = p ++ (decI (m.tmod 12) ++ (32 :: (monN ++ q))) → p.length ≤ 10 → q.length ≤ 10 →
    ((some (PV.str (decI (m.tmod 12)))).bind fun v => (z1b [.str p, .str v.toS, .str [32], .str [109, 111, 110], .str q]).bind fun w => z2z a w.toS i m d u (m.tmod 12)) =
     some (.str (addW (addW (addW a (unitB (m.tmod 12) monN was)) (unitB d dayN (m.tmod 12))) (timeB u (nextW d (m.tmod 12))))) := by
   intro p q h hp hq
   simp only [Option.bind_some, zm]
   have := z12o p (decI (m.tmod 12)) monN q hp (by omega) (by decide) hq
   unfold monN at this
   rw [this]
   simp only [Option.bind_some, zm]
   rw [h] at hl ⊢
   exact pg_c4 a _ (by omega) (by unfold monN at hl; omega) i m hd hu (m.tmod 12)
  have hu' : unitB (m.tmod 12) monN was = (if was < 0 ∧ 0 < m.tmod 12 then [43] else []) ++ (decI (m.tmod 12) ++ (32 :: (monN ++ (if m.tmod 12 = 1 then [] else [115])))) := if_neg h0
  by_cases h1 : was < 0
  ·rw [c_ltT h1]
   by_cases h2 : 0 < m.tmod 12
   ·rw [c_ltT h2]
    rw [if_pos ⟨h1, h2⟩] at hu'
    by_cases h3 : m.tmod 12 = 1
    ·rw [c_eqT h3]; rw [if_pos h3] at hu'; exact fin _ _ hu' (by simp) (by simp)
    ·rw [c_eqF h3]; rw [if_neg h3] at hu'; exact fin _ _ hu' (by simp) (by simp)
   ·rw [c_ltF h2]
    rw [if_neg (fun h => h2 h.2)] at hu'
    by_cases h3 : m.tmod 12 = 1
    ·rw [c_eqT h3]; rw [if_pos h3] at hu'; exact fin _ _ hu' (by simp) (by simp)
    ·rw [c_eqF h3]; rw [if_neg h3] at hu'; exact fin _ _ hu' (by simp) (by simp)
  ·rw [c_ltF h1]
   rw [if_neg (fun h => h1 h.1)] at hu'
   by_cases h3 : m.tmod 12 = 1
   ·rw [c_eqT h3]; rw [if_pos h3] at hu'; exact fin _ _ hu' (by simp) (by simp)
   ·rw [c_eqF h3]; rw [if_neg h3] at hu'; exact fin _ _ hu' (by simp) (by simp)
theorem tdiv12 {m : Int} (h : -2147483647 ≤ m ∧ m ≤ 2147483647) : -2147483647 ≤ m.tdiv 12 ∧ m.tdiv 12 ≤ 2147483647 := by
 rcases Int.lt_or_le m 0 with h0 | h0
 ·have : m.tdiv 12 = -((-m).tdiv 12) := by rw [Int.neg_tdiv]; omega
  rw [this, Int.tdiv_eq_ediv_of_nonneg (show 0 ≤ -m by omega)]
  omega
 ·rw [Int.tdiv_eq_ediv_of_nonneg h0]; omega
def pgB (m d u : Int) : List UInt8 :=
 addW (addW (addW (unitB (m.tdiv 12) yearN 0) (unitB (m.tmod 12) monN (m.tdiv 12))) (unitB d dayN (nextW (m.tmod 12) (m.tdiv 12)))) (timeB u (nextW d (nextW (m.tmod 12) (m.tdiv 12))))
theorem z1kp (i : Int) {m d u : Int} (hm : -2147483647 ≤ m ∧ m ≤ 2147483647) (hd : InS d) (hu : InS u) : zlq i m d u = some (.str (pgB m d u)) := by
 have hy := tdiv12 hm
 have hn := zrk (m.tdiv 12)
 have hl := z12p (m.tdiv 12) yearN 0 (by decide)
 rw [z10t, w64 (by omega) (by omega)]
 unfold pgB
 by_cases h0 : m.tdiv 12 = 0
 ·rw [c_eqT h0, pg_c3 [] (by simp) i m hd hu 0, h0]
  unfold unitB
  rw [if_pos rfl]
 ·rw [c_eqF h0, z11v (by exact ⟨by omega, by omega⟩)]
  have fin : ∀ q : List UInt8, unitB (m.tdiv 12) yearN 0 = [] ++ (decI (m.tdiv 12) ++ (32 :: (yearN ++ q))) → q.length ≤ 10 →
    ((some (PV.str (decI (m.tdiv 12)))).bind fun v => (z1b [.str [], .str v.toS, .str [32], .str [121, 101, 97, 114], .str q]).bind fun w => z77 w.toS i m d u (m.tdiv 12)) =
     some (.str (addW (addW (addW (unitB (m.tdiv 12) yearN 0) (unitB (m.tmod 12) monN (m.tdiv 12))) (unitB d dayN (nextW (m.tmod 12) (m.tdiv 12)))) (timeB u (nextW d (nextW (m.tmod 12) (m.tdiv 12)))))) := by
   intro q h hq
   simp only [Option.bind_some, zm]
   have := z12o [] (decI (m.tdiv 12)) yearN q (by simp) (by omega) (by decide) hq
   unfold yearN at this
   rw [this]
   simp only [Option.bind_some, zm]
   rw [h] at hl ⊢
   exact pg_c3 _ (by unfold yearN at hl; omega) i m hd hu (m.tdiv 12)
  have hu' : unitB (m.tdiv 12) yearN 0 = (if (0 : Int) < 0 ∧ 0 < m.tdiv 12 then [43] else []) ++ (decI (m.tdiv 12) ++ (32 :: (yearN ++ (if m.tdiv 12 = 1 then [] else [115])))) := if_neg h0
  rw [if_neg (by omega)] at hu'
  by_cases h3 : m.tdiv 12 = 1
  ·rw [c_eqT h3]; rw [if_pos h3] at hu'; exact fin _ hu' (by simp)
  ·rw [c_eqF h3]; rw [if_neg h3] at hu'; exact fin _ hu' (by simp)
end Dv

namespace Dv
open Go
theorem nat_or (u : Int) : ∃ n : Nat, (u = (n : Int) ∧ 0 ≤ u) ∨ (u = -(n : Int) ∧ u < 0) := by
 rcases Int.lt_or_le u 0 with h | h
 ·exact ⟨(-u).toNat, .inr ⟨by omega, h⟩⟩
 ·exact ⟨u.toNat, .inl ⟨by omega, h⟩⟩
theorem zux (n k : Nat) : Int.tdiv (-(n : Int)) (k : Int) = -((n / k : Nat) : Int) := by rw [Int.neg_tdiv, tdivN]
theorem z1hp (n k : Nat) : Int.tmod (-(n : Int)) (k : Int) = -((n % k : Nat) : Int) := by rw [Int.neg_tmod, tmodN]
theorem extIB : zdp z74 EE.ext = some z5x := by kernel_rfl
theorem z1cs (s : List UInt8) (c : UInt8) : z7a s (c.toNat : Int) = some (.int .i64 (Lib.indexByte s c)) := by
 rw [zca, zwx EE _ _ _ extIB]
 have e : z5x [.str s, .int .u8 (c.toNat : Int)] = some (.int .i64 (Lib.indexByte s c)) := by
  unfold z5x
  simp
 rw [e]; rfl
theorem cut_two (r : List UInt8) : ztb (48 :: 48 :: 58 :: r) [58] = some (.tuple [.str [48, 48], .str r, .bool true]) := by
 have hi : Lib.indexByte (48 :: 48 :: 58 :: r) 58 = 2 := by simp [Lib.indexByte]
 have e1 : (((List.length [(58 : UInt8)] : Nat)) : Int) = 1 := rfl
 have e2 : IntKind.i64.wrap (2 + 1) = 3 := by decide
 have hc := z1cs (48 :: 48 :: 58 :: r) 58
 rw [show (((58 : UInt8).toNat : Nat) : Int) = 58 from rfl] at hc
 have hidx : zal (48 :: 48 :: 58 :: r) [58] = some (.int .i64 2) := by
  rw [zgs, e1, c_eqF (by omega), zay (by simp), zd1, c_eqT rfl, atS_z (c := 58) rfl]
  simp only [Option.bind_some]
  rw [show (((58 : UInt8).toNat : Nat) : Int) = 58 from rfl, hc, hi]
  rfl
 have ht : takeS (48 :: 48 :: 58 :: r) 2 = some [48, 48] := by rw [z1hr (by omega) (by simp; omega)]; rfl
 have hd : dropS (48 :: 48 :: 58 :: r) 3 = some r := by rw [z1b0 (by omega) (by simp; omega)]; rfl
 rw [z165, zuy, hidx]
 simp only [Option.bind_some, zc]
 rw [c_leT (by omega), ht, e1, e2]
 simp only [Option.bind_some]
 rw [hd]
 rfl
theorem z1fd : z7b [45] [43] = some (.str [45]) := by
 have ht : takeS [(45 : UInt8)] 1 = some [45] := rfl
 have e1 : (((List.length [(43 : UInt8)] : Nat)) : Int) = 1 := rfl
 have e2 : (((List.length [(45 : UInt8)] : Nat)) : Int) = 1 := rfl
 rw [zfk, zb3, z3l, e1, e2, c_leT (by omega), ht]
 rfl
theorem z1k8 : z7b [43] [43] = some (.str []) := by
 have ht : takeS [(43 : UInt8)] 1 = some [43] := rfl
 have e1 : (((List.length [(43 : UInt8)] : Nat)) : Int) = 1 := rfl
 have hd : dropS [(43 : UInt8)] 1 = some [] := rfl
 rw [zfk, zb3, z3l, e1, c_leT (by omega), ht]
 simp only [Option.bind_some, zh]
 have : eqS [(43 : UInt8)] [43] = true := rfl
 rw [this, cond_true, hd]
 rfl
def clockN (n : Nat) : List UInt8 := digN (n / 3600000000) ++ (58 :: (twoN (n / 60000000 % 60) ++ (58 :: (twoN (n / 1000000 % 60) ++ fracN (n % 1000000)))))
def wordsH (m d u : Int) : List UInt8 :=
 sgnB m ++ (digN ((absI m).toNat / 12) ++ (45 :: (digN ((absI m).toNat % 12) ++ (32 :: (sgnB d ++ (digN (absI d).toNat ++ (32 :: (sgnB u ++ clockN (absI u).toNat))))))))
theorem z12b {a : Int} (h : InS a) : absI a = (((absI a).toNat : Nat) : Int) := by have := zx2 h; omega
theorem long_zero {t : Nat} (ht : t < 3600000000) : zf6 (t : Int) = some (.str (48 :: 48 :: 58 :: (twoN (t / 60000000 % 60) ++ (58 :: (twoN (t / 1000000 % 60) ++ fracN (t % 1000000)))))) := by
 rw [long_s (by omega) (by omega)]
 unfold longI
 rw [if_neg (by omega), Int.toNat_natCast]
 unfold textN
 have : t / 3600000000 = 0 := by omega
 rw [this]
 rfl
theorem sql_s (i : Int) {m d u : Int} (hm : InS m) (hd : InS d) (hu : InS u) : z19e i m d u = some (.str (wordsH m d u)) := by
 have rm := zx2 hm
 have rd := zx2 hd
 have ru := zx2 hu
 have em := z12b hm
 have ed := z12b hd
 have eu := z12b hu
 have k1 := z19i m
 have k2 := z19i d
 have k3 := z19i u
 have g1 := zdq ((absI m).toNat / 12)
 have g2 := zdq ((absI m).toNat % 12)
 have g3 := zdq (absI d).toNat
 have g4 := zdq ((absI u).toNat / 3600000000)
 have g5 := zbo ((absI u).toNat / 60000000 % 60)
 have g6 := zbo ((absI u).toNat / 1000000 % 60)
 have g7 := zou ((absI u).toNat % 1000000)
 rw [z1fl, z11q hm, z11q hd, z11q hu]
 simp only [Option.bind_some, tn0, tn1, zc, zm]
 unfold wordsH clockN
 rw [em, ed, eu]
 generalize (absI m).toNat = a at *
 generalize (absI d).toNat = b at *
 generalize (absI u).toNat = n at *
 have q1 : Int.tmod (n : Int) 3600000000 = ((n % 3600000000 : Nat) : Int) := tmodN n 3600000000
 have q2 : IntKind.i64.wrap (Int.tdiv (a : Int) 12) = ((a / 12 : Nat) : Int) := by
  have := tdivN a 12
  rw [show ((12 : Nat) : Int) = 12 from rfl] at this
  rw [this, w64 (by omega) (by omega)]
 have q3 : Int.tmod (a : Int) 12 = ((a % 12 : Nat) : Int) := tmodN a 12
 have q4 : IntKind.i64.wrap (Int.tdiv (n : Int) 3600000000) = ((n / 3600000000 : Nat) : Int) := by
  have := tdivN n 3600000000
  rw [show ((3600000000 : Nat) : Int) = 3600000000 from rfl] at this
  rw [this, w64 (by omega) (by omega)]
 have p1 : n % 3600000000 / 60000000 % 60 = n / 60000000 % 60 := by omega
 have p2 : n % 3600000000 / 1000000 % 60 = n / 1000000 % 60 := by omega
 have p3 : n % 3600000000 % 1000000 = n % 1000000 := by omega
 rw [q1, q2, q3, q4, long_zero (by omega), p1, p2, p3]
 simp only [Option.bind_some, zm]
 rw [cut_two, zd5 (by omega) (by omega), zd5 (by omega) (by omega), zd5 (by omega) (by omega), zd5 (by omega) (by omega)]
 simp only [Option.bind_some, zm, tn1, Int.toNat_natCast]
 have j1 := zj2 [sgnB m, digN (a / 12), [45], digN (a % 12)] (by simp) (by simp [totL]; omega)
 have j2 := zj2 [sgnB d, digN b] (by simp) (by simp [totL]; omega)
 have j3 := zj2 [sgnB u, digN (n / 3600000000), [58], twoN (n / 60000000 % 60) ++ (58 :: (twoN (n / 1000000 % 60) ++ fracN (n % 1000000)))] (by simp) (by simp [totL]; omega)
 simp only [List.map_cons, List.map_nil] at j1 j2 j3
 rw [j1, j2, j3]
 simp only [Option.bind_some, zm]
 have ne : ∀ (x : Int) (r : List UInt8), eqS (sgnB x ++ r) [] = false := by
  intro x r
  unfold sgnB
  split <;> rfl
 have bt := zpm [32] (by simp) [[sgnB m, digN (a / 12), [45], digN (a % 12)].flatten, [sgnB d, digN b].flatten, [sgnB u, digN (n / 3600000000), [58], twoN (n / 60000000 % 60) ++ (58 :: (twoN (n / 1000000 % 60) ++ fracN (n % 1000000)))].flatten] (by simp) (by simp [totL]; omega)
 simp only [List.map_cons, List.map_nil] at bt
 rw [bt]
 have hf : fullL [[sgnB m, digN (a / 12), [45], digN (a % 12)].flatten, [sgnB d, digN b].flatten, [sgnB u, digN (n / 3600000000), [58], twoN (n / 60000000 % 60) ++ (58 :: (twoN (n / 1000000 % 60) ++ fracN (n % 1000000)))].flatten] =
   [[sgnB m, digN (a / 12), [45], digN (a % 12)].flatten, [sgnB d, digN b].flatten, [sgnB u, digN (n / 3600000000), [58], twoN (n / 60000000 % 60) ++ (58 :: (twoN (n / 1000000 % 60) ++ fracN (n % 1000000)))].flatten] := by
  unfold fullL
  rw [List.filter_eq_self]
  intro x hx
  simp only [List.mem_cons, List.not_mem_nil, or_false] at hx
  rcases hx with rfl | rfl | rfl <;> rw [List.flatten_cons, ne] <;> rfl
 rw [hf]
 simp [joinB, PV.toS]
end Dv

namespace Dv
open Go
def partB (n : Int) (c : UInt8) : List UInt8 := if n = 0 then [] else decI n ++ [c]
def secB (u : Int) : List UInt8 := if u = 0 then [] else (if u < 0 then [45] else []) ++ (digN ((absI u).toNat / 1000000) ++ (fracN ((absI u).toNat % 1000000) ++ [83]))
def hourI (u : Int) : Int := u.tdiv 3600000000
def minI' (u : Int) : Int := (u.tmod 3600000000).tdiv 60000000
def isoH (m d : Int) : List UInt8 := 80 :: (partB (m.tdiv 12) 89 ++ (partB (m.tmod 12) 77 ++ partB d 68))
def isoT (m d u : Int) : List UInt8 := if u = 0 then isoH m d else isoH m d ++ (84 :: (partB (hourI u) 72 ++ (partB (minI' u) 77 ++ secB (u.tmod 60000000))))
def isoB (m d u : Int) : List UInt8 := if isoT m d u = [80] then [80, 84, 48, 83] else isoT m d u
theorem zop (n : Int) (c : UInt8) : (partB n c).length ≤ 22 := by
 have := zrk n
 unfold partB
 split
 ·simp
 ·simp; omega
theorem secB_len (u : Int) : (secB u).length ≤ 43 := by
 have h1 := zdq ((absI u).toNat / 1000000)
 have h2 := zou ((absI u).toNat % 1000000)
 unfold secB
 split
 ·simp
 ·split <;> simp <;> omega
theorem zvo {n : Int} (hn : InS n) (c : UInt8) : zbx n [c] = some (.str (partB n c)) := by
 have hl := zrk n
 rw [z16d]
 unfold partB
 by_cases h : n = 0
 ·rw [c_eqT h, if_pos h]
 ·rw [c_eqF h, if_neg h, z11v hn]
  simp only [Option.bind_some, zm]
  have := zj2 [decI n, [c]] (by simp) (by simp [totL]; omega)
  simp only [List.map_cons, List.map_nil] at this
  rw [this]
  simp [PV.toS]
theorem tmod_rngN {u : Int} {k : Nat} (hk : 0 < k) : -(k : Int) < u.tmod k ∧ u.tmod k < k := by
 exact ⟨Int.lt_tmod_of_pos u (by omega), Int.tmod_lt_of_pos u (by omega)⟩
theorem seconds_s {u : Int} (hu : InS u) : zo6 u = some (.str (secB u)) := by
 have ru := zx2 hu
 have eu := z12b hu
 have h1 := zdq ((absI u).toNat / 1000000)
 have h2 := zou ((absI u).toNat % 1000000)
 rw [z135]
 unfold secB
 by_cases h : u = 0
 ·rw [c_eqT h, if_pos h]
 ·have ht : z7b (sgnB u) [43] = some (.str (if u < 0 then [45] else [])) := by
   unfold sgnB
   by_cases hs : u < 0
   ·rw [if_pos hs, if_pos hs, z1fd]
   ·rw [if_neg hs, if_neg hs, z1k8]
  rw [c_eqF h, if_neg h, z11q hu]
  simp only [Option.bind_some, tn0, tn1, zm, zc]
  rw [ht, eu]
  generalize (absI u).toNat = n at *
  have q1 : IntKind.i64.wrap (Int.tdiv (n : Int) 1000000) = ((n / 1000000 : Nat) : Int) := by
   have := tdivN n 1000000
   rw [show ((1000000 : Nat) : Int) = 1000000 from rfl] at this
   rw [this, w64 (by omega) (by omega)]
  have q2 : Int.tmod (n : Int) 1000000 = ((n % 1000000 : Nat) : Int) := tmodN _ 1000000
  rw [q1, q2, zd5 (by omega) (by omega), frac_s (by omega) (by omega)]
  simp only [Option.bind_some, zm, Int.toNat_natCast]
  have hp : (if u < 0 then [(45 : UInt8)] else []).length ≤ 1 := by split <;> simp
  generalize (if u < 0 then [(45 : UInt8)] else []) = p at hp ⊢
  have := zj2 [p, digN (n / 1000000), fracN (n % 1000000), [83]] (by simp) (by simp [totL]; omega)
  simp only [List.map_cons, List.map_nil] at this
  rw [this]
  simp [PV.toS]
theorem iso_parts {u : Int} (hu : InS u) : IntKind.i64.wrap (u.tdiv 3600000000) = hourI u ∧ IntKind.i64.wrap (Int.tdiv (u.tmod 3600000000) 60000000) = minI' u ∧ InS (hourI u) ∧ InS (minI' u) ∧ InS (u.tmod 60000000) ∧
  IntKind.i64.wrap (Int.tdiv (IntKind.i64.wrap (Int.tdiv u 1000000)) 3600) = hourI u ∧ Int.tmod (IntKind.i64.wrap (Int.tdiv (IntKind.i64.wrap (Int.tdiv u 1000000)) 60)) 60 = minI' u := by
 have hs : InS (u.tmod 60000000) := by
  have := tmod_rngN (u := u) (k := 60000000) (by omega)
  rw [show ((60000000 : Nat) : Int) = 60000000 from rfl] at this
  exact ⟨by omega, by omega⟩
 unfold hourI minI'
 obtain ⟨n, ⟨hn, h0⟩ | ⟨hn, h0⟩⟩ := nat_or u
 ·subst hn
  have a1 : Int.tdiv (n : Int) 3600000000 = ((n / 3600000000 : Nat) : Int) := tdivN n 3600000000
  have a2 : Int.tmod (n : Int) 3600000000 = ((n % 3600000000 : Nat) : Int) := tmodN n 3600000000
  have a3 : Int.tdiv ((n % 3600000000 : Nat) : Int) 60000000 = ((n % 3600000000 / 60000000 : Nat) : Int) := tdivN _ 60000000
  have a4 : Int.tdiv (n : Int) 1000000 = ((n / 1000000 : Nat) : Int) := tdivN n 1000000
  have a5 : Int.tdiv ((n / 1000000 : Nat) : Int) 3600 = ((n / 1000000 / 3600 : Nat) : Int) := tdivN _ 3600
  have a6 : Int.tdiv ((n / 1000000 : Nat) : Int) 60 = ((n / 1000000 / 60 : Nat) : Int) := tdivN _ 60
  have a7 : Int.tmod ((n / 1000000 / 60 : Nat) : Int) 60 = ((n / 1000000 / 60 % 60 : Nat) : Int) := tmodN _ 60
  rw [a1, a2, a3, a4, w64 (n := ((n / 1000000 : Nat) : Int)) (by omega) (by omega), a5, a6, w64 (n := ((n / 1000000 / 60 : Nat) : Int)) (by omega) (by omega), a7, w64 (by omega) (by omega), w64 (by omega) (by omega), w64 (by omega) (by omega)]
  exact ⟨rfl, rfl, ⟨by omega, by omega⟩, ⟨by omega, by omega⟩, hs, by omega, by omega⟩
 ·subst hn
  have a1 : Int.tdiv (-(n : Int)) 3600000000 = -((n / 3600000000 : Nat) : Int) := zux n 3600000000
  have a2 : Int.tmod (-(n : Int)) 3600000000 = -((n % 3600000000 : Nat) : Int) := z1hp n 3600000000
  have a3 : Int.tdiv (-((n % 3600000000 : Nat) : Int)) 60000000 = -((n % 3600000000 / 60000000 : Nat) : Int) := zux _ 60000000
  have a4 : Int.tdiv (-(n : Int)) 1000000 = -((n / 1000000 : Nat) : Int) := zux n 1000000
  have a5 : Int.tdiv (-((n / 1000000 : Nat) : Int)) 3600 = -((n / 1000000 / 3600 : Nat) : Int) := zux _ 3600
  have a6 : Int.tdiv (-((n / 1000000 : Nat) : Int)) 60 = -((n / 1000000 / 60 : Nat) : Int) := zux _ 60
  have a7 : Int.tmod (-((n / 1000000 / 60 : Nat) : Int)) 60 = -((n / 1000000 / 60 % 60 : Nat) : Int) := z1hp _ 60
  rw [a1, a2, a3, a4, w64 (n := -((n / 1000000 : Nat) : Int)) (by omega) (by omega), a5, a6, w64 (n := -((n / 1000000 / 60 : Nat) : Int)) (by omega) (by omega), a7, w64 (by omega) (by omega), w64 (by omega) (by omega), w64 (by omega) (by omega)]
  exact ⟨rfl, rfl, ⟨by omega, by omega⟩, ⟨by omega, by omega⟩, hs, by omega, by omega⟩
theorem iso_s (i : Int) {m d u : Int} (hm : -2147483647 ≤ m ∧ m ≤ 2147483647) (hd : InS d) (hu : InS u) : z19f i m d u = some (.str (isoB m d u)) := by
 have hy := tdiv12 hm
 have hr := tmod12 m
 obtain ⟨p1, p2, p3, p4, p5, _, _⟩ := iso_parts hu
 have l1 := zop (m.tdiv 12) 89
 have l2 := zop (m.tmod 12) 77
 have l3 := zop d 68
 have l4 := zop (hourI u) 72
 have l5 := zop (minI' u) 77
 have l6 := secB_len (u.tmod 60000000)
 rw [z1fm, w64 (n := m.tdiv 12) (by omega) (by omega), zvo (n := m.tdiv 12) (by exact ⟨by omega, by omega⟩), zvo hr, zvo hd, p1, p2, zvo p3, zvo p4, seconds_s p5]
 simp only [Option.bind_some, zm]
 have j1 := zj2 [[80], partB (m.tdiv 12) 89, partB (m.tmod 12) 77, partB d 68] (by simp) (by simp [totL]; omega)
 simp only [List.map_cons, List.map_nil] at j1
 have e1 : [[80], partB (m.tdiv 12) 89, partB (m.tmod 12) 77, partB d 68].flatten = isoH m d := by simp [isoH]
 have hlen : (isoH m d).length ≤ 70 := by unfold isoH; simp; omega
 rw [j1, e1]
 simp only [Option.bind_some, zm]
 unfold isoB isoT
 by_cases h : u = 0
 ·rw [c_not, c_eqT h, if_pos h]
  by_cases hq : isoH m d = [80]
  ·rw [zmw hq, if_pos hq]
  ·rw [zay hq, if_neg hq]
 ·have j2 := zj2 [isoH m d, [84], partB (hourI u) 72, partB (minI' u) 77, secB (u.tmod 60000000)] (by simp) (by simp [totL]; omega)
  simp only [List.map_cons, List.map_nil] at j2
  have e2 : [isoH m d, [84], partB (hourI u) 72, partB (minI' u) 77, secB (u.tmod 60000000)].flatten = isoH m d ++ (84 :: (partB (hourI u) 72 ++ (partB (minI' u) 77 ++ secB (u.tmod 60000000)))) := by simp
  rw [c_not, c_eqF h, if_neg h, j2, e2]
  simp only [Option.bind_some, zm]
  by_cases hq : isoH m d ++ (84 :: (partB (hourI u) 72 ++ (partB (minI' u) 77 ++ secB (u.tmod 60000000)))) = [80]
  ·rw [zmw hq, if_pos hq]
  ·rw [zay hq, if_neg hq]
end Dv

namespace Dv
open Go
theorem k_parts : zmc 8826 = some (.tuple [.int .i64 2024, .int .i64 3, .int .i64 1]) := by rw [zt1, zff]; kernel_rfl
theorem k_first : zu8 = some (.int .i64 (-2453698)) := by
 rw [zt2, zpe, c_leT (by decide), zi1, zff]; kernel_rfl
theorem k_last : zyn = some (.int .i64 106754173) := by
 rw [zwu, zpe, c_leF (by decide), zi1, zff]; kernel_rfl
theorem k_can : zwt 8826 = some (.bool true) := by
 rw [z10d, k_first, k_last]; kernel_rfl
theorem k_date : zhi 8826 = some (.tuple [.int .i64 2024, .int .i64 3, .int .i64 1, .int .i64 0]) := by
 rw [zhb, k_can, k_parts]; kernel_rfl
theorem k_inside : z2h 8826 = some (.bool true) := by
 rw [zh8, k_date]; kernel_rfl
theorem k_right : zg9 0 8826 = some (.bool true) := by
 rw [zg8, k_inside]; kernel_rfl
theorem k_dparts : zwk 0 8826 = some (.tuple [.int .i64 2024, .int .i64 3, .int .i64 1, .int .i64 0]) := by
 rw [z10c, k_right, k_date]; kernel_rfl
theorem k_show : zod 0 8826 1 1 0 = some (.tuple [.str [48, 49, 47, 48, 51, 47, 50, 48, 50, 52], .int .i64 0]) := by
 have d1 : digN 2024 = [50, 48, 50, 52] := by kernel_rfl
 have t1 : twoN 3 = [48, 51] := by kernel_rfl
 have t2 : twoN 1 = [48, 49] := by kernel_rfl
 have r0 : zb4 [48] 0 = some (.str []) := by rw [zam, c_eqT rfl]
 have j1 := zj2 [[], [50, 48, 50, 52]] (by simp) (by simp [totL])
 have j2 := zj2 [[48, 49, 47, 48, 51, 47, 50, 48, 50, 52], []] (by simp) (by simp [totL])
 have b1 := zpm [47] (by simp) [[48, 49], [48, 51], [50, 48, 50, 52]] (by simp) (by simp [totL])
 simp only [List.map_cons, List.map_nil] at j1 j2 b1
 have hd : zo9 0 8826 1 1 0 = some (.tuple [.str [48, 49, 47, 48, 51, 47, 50, 48, 50, 52], .str []]) := by
  rw [zzc, k_dparts]
  simp only [Option.bind_some, tn0, tn1, tn2, zc]
  rw [c_ltF (by decide), zo8, zd5 (by decide) (by decide)]
  simp only [Option.bind_some, zm]
  have e : (2024 : Int).toNat = 2024 := rfl
  rw [e, d1]
  have m0 : maxI 0 (IntKind.i64.wrap (4 - ((([50, 48, 50, 52] : List UInt8).length : Nat) : Int))) = 0 := by kernel_rfl
  rw [m0, r0]
  simp only [Option.bind_some, zm]
  rw [j1, zz6 (by decide) (by decide), zz6 (by decide) (by decide)]
  simp only [Option.bind_some, zm]
  have e3 : (3 : Int).toNat = 3 := rfl
  have e1 : (1 : Int).toNat = 1 := rfl
  rw [e3, e1, t1, t2, c_eqF (by decide), c_eqF (by decide), c_eqT rfl]
  have f1 : ([[], [50, 48, 50, 52]] : List (List UInt8)).flatten = [50, 48, 50, 52] := rfl
  rw [f1, b1]
  rfl
 rw [zze, k_right]
 simp only [Option.bind_some, zh]
 rw [c_not, zgg, z199]
 have hs : zz5 1 1 0 = true := rfl
 rw [hs]
 simp only [Option.bind_some, zh]
 rw [c_not, zgg, zoa, c_not, c_eqT rfl, hd]
 simp only [Option.bind_some, tn0, tn1, zm]
 rw [j2]
 rfl
def spanV (i m d u a b c : Int) : PV :=
 if spanR i m d u = true ∧ zz5 a b c = true then
  if i ≠ 0 then .tuple [.str (if i < 0 then [45, 105, 110, 102, 105, 110, 105, 116, 121] else [105, 110, 102, 105, 110, 105, 116, 121]), .int .i64 0]
  else .tuple [.str (if c = 1 then wordsH m d u else if c = 2 then isoB m d u else pgB m d u), .int .i64 0]
 else .tuple [.str [], .int .i64 1]
theorem infS {i : Int} (h : i ≠ 0) : zao i = some (.str (if i < 0 then [45, 105, 110, 102, 105, 110, 105, 116, 121] else [105, 110, 102, 105, 110, 105, 116, 121])) := by
 rw [zgl]
 by_cases hi : i < 0
 ·rw [c_ltT hi, if_pos hi]
 ·rw [c_ltF hi, if_neg hi]
theorem z1hu {i m d u : Int} (h1 : -9223372036854775808 ≤ u) (h2 : u ≤ 9223372036854775807) (a b c : Int) : zke i m d u a b c = some (spanV i m d u a b c) := by
 rw [z1cp, right_s h1 h2]
 unfold spanV
 simp only [Option.bind_some, zh]
 cases hr : spanR i m d u with
 | false => rw [c_not, zpi, if_neg (by simp)]
 | true =>
 rw [c_not, zgg, z199]
 simp only [Option.bind_some, zh]
 cases hs : zz5 a b c with
 | false => rw [c_not, zpi, if_neg (by simp)]
 | true =>
 rw [c_not, zgg, z139, if_pos (by simp)]
 by_cases hi : i = 0
 ·subst hi
  obtain ⟨m1, m2, d1, d2, u1, u2⟩ := spanR_fin hr
  rw [c_not, c_eqT rfl, if_neg (by simp)]
  by_cases c1 : c = 1
  ·rw [c_eqT c1, if_pos c1, sql_s 0 ⟨by omega, by omega⟩ ⟨by omega, by omega⟩ ⟨u1, u2⟩]; rfl
  ·rw [c_eqF c1, if_neg c1]
   by_cases c2 : c = 2
   ·rw [c_eqT c2, if_pos c2, iso_s 0 ⟨m1, m2⟩ ⟨by omega, by omega⟩ ⟨u1, u2⟩]; rfl
   ·rw [c_eqF c2, if_neg c2, z1kp 0 ⟨m1, m2⟩ ⟨by omega, by omega⟩ ⟨u1, u2⟩]; rfl
 ·rw [c_not, c_eqF hi, if_pos hi, infS hi]; rfl
theorem z1dj : z95 = some (.bool true) := by
 rw [znf, z1hu (by decide) (by decide), z1hu (by decide) (by decide), z1hu (by decide) (by decide), z1hu (by decide) (by decide), k_show]
 kernel_rfl
end Dv

set_option maxRecDepth 20000
namespace Dv
open Go
theorem rep_s (k : Nat) (hk : k ≤ 3) : zb4 [48] (k : Int) = some (.str (List.replicate k 48)) := by
 match k, hk with
 | 0, _ => rw [zam]; rfl
 | 1, _ => rw [zam]; rfl
 | 2, _ => exact rep_2 2 (by omega) (by omega) rfl rfl
 | 3, _ => exact rep_2 3 (by omega) (by omega) rfl rfl
where
 rep_2 (k : Nat) (h2 : 2 ≤ k) (h3 : k ≤ 3) (ht : takeS [(48 : UInt8), 48, 48, 48, 48, 48, 48, 48, 48, 48, 48, 48, 48, 48, 48, 48, 48, 48, 48, 48, 48, 48, 48, 48, 48, 48, 48, 48, 48, 48, 48, 48, 48, 48, 48, 48, 48, 48, 48, 48, 48, 48, 48, 48, 48, 48, 48, 48, 48, 48, 48, 48, 48, 48, 48, 48, 48, 48, 48, 48, 48, 48, 48, 48] (k : Int) = some (List.replicate k 48)) (_ : (0 : Int) = 0) :
   zb4 [48] (k : Int) = some (.str (List.replicate k 48)) := by
  have w1 : IntKind.u64.wrap ((([48] : List UInt8).length : Nat) : Int) = 1 := rfl
  rw [zam, c_eqF (by omega), c_eqF (by omega), c_ltF (by omega), zrp, z1h6, w1, wu64 (by omega) (by omega), z1g7 (by omega) (by omega)]
  simp only [Option.bind_some, tn0, tn1, zc]
  rw [c_ltF (by omega), c_ltF (by omega), zo0, c_eqF (by decide)]
  have a0 : atS ([48] : List UInt8) 0 = some 48 := rfl
  rw [a0]
  simp only [Option.bind_some]
  rw [c_eqF (by omega), c_eqF (by omega), c_eqT rfl, show (1 : Int) * (k : Int) % 18446744073709551616 = (k : Int) by omega, w64 (by omega) (by omega)]
  rw [znz, c_leT (by omega), zb0, z3l]
  refine Eq.trans (b := z9j [48] (k : Int)) rfl ?_
  rw [zny, c_leT (by omega), zb0, z3l]
  refine Eq.trans (b := z9i [48] (k : Int)) rfl ?_
  rw [znx, c_leT (by omega), zb0, z3l]
  refine Eq.trans (b := zd2 (k : Int)) rfl ?_
  rw [znw, ht]
  rfl
theorem digN_pos (n : Nat) : 1 ≤ (digN n).length := by
 unfold digN
 rw [digC, if_neg (by omega), List.length_append]
 simp
theorem z194 (n : Nat) : 1 ≤ (twoN n).length := by
 unfold twoN
 rw [digC, if_neg (by omega), List.length_append]
 simp
theorem z1k9 {x y z : List UInt8} (hx : 1 ≤ x.length) (hy : 1 ≤ y.length) (hz : 1 ≤ z.length) (sep : List UInt8) : joinB sep (fullL [x, y, z]) = x ++ (sep ++ (y ++ (sep ++ z))) := by
 have e : ∀ s : List UInt8, 1 ≤ s.length → (!eqS s []) = true := by
  intro s hs
  unfold eqS
  rw [decide_eq_false (by intro h; subst h; simp at hs)]; rfl
 unfold fullL
 simp only [List.filter, e x hx, e y hy, e z hz]
 rfl
theorem z12a {x y z : List UInt8} (hx : 1 ≤ x.length) (hy : 1 ≤ y.length) (hz : 1 ≤ z.length) (hb : x.length + y.length + z.length ≤ 1000) (c : UInt8) : z2u [c] [.str x, .str y, .str z] = some (.str (x ++ ([c] ++ (y ++ ([c] ++ z))))) := by
 have := zpm [c] (by simp) [x, y, z] (by simp) (by simp only [totL]; omega)
 rw [z1k9 hx hy hz] at this
 exact this
theorem z1hx {y m d : Int} (hy : 1 ≤ y ∧ y ≤ 999999) (hm : 0 ≤ m ∧ m ≤ 99) (hd : 0 ≤ d ∧ d ≤ 99) (bc : List UInt8) (a b c : Int) :
  zir y m d bc a b c = some (.tuple [.str (dateN y m d a b), .str bc]) := by
 rw [zo8, zd5 (by omega) (by omega)]
 simp only [Option.bind_some, zm]
 have l1 := digN_pos y.toNat
 have l2 := zdq y.toNat
 have hrep : maxI 0 (IntKind.i64.wrap (4 - (((digN y.toNat).length : Nat) : Int))) = ((4 - (digN y.toNat).length : Nat) : Int) := by
  rw [w64 (by omega) (by omega)]
  unfold maxI
  by_cases h : 4 - (((digN y.toNat).length : Nat) : Int) > 0
  ·rw [decide_eq_true h]; simp only [cond_true]; omega
  ·rw [decide_eq_false h]; simp only [cond_false]; omega
 rw [hrep, rep_s _ (by omega)]
 simp only [Option.bind_some, zm]
 have hj : z1b [.str (List.replicate (4 - (digN y.toNat).length) 48), .str (digN y.toNat)] = some (.str (padN (digN y.toNat))) := by
  have := zj2 [List.replicate (4 - (digN y.toNat).length) 48, digN y.toNat] (by simp) (by simp only [totL, List.length_replicate]; omega)
  rw [show ([List.replicate (4 - (digN y.toNat).length) 48, digN y.toNat] : List (List UInt8)).flatten = padN (digN y.toNat) by unfold padN; simp] at this
  exact this
 rw [hj, zz6 hm.1 (by omega), zz6 hd.1 (by omega)]
 simp only [Option.bind_some, zm]
 have p1 := z1id (digN y.toNat)
 have t1 := z194 m.toNat
 have t2 := zbo m.toNat
 have t3 := z194 d.toNat
 have t4 := zbo d.toNat
 unfold dateN
 by_cases ha : a = 0
 ·rw [c_eqT ha, if_pos ha, z12a (by omega) t1 t3 (by omega)]; rfl
 ·rw [c_eqF ha, if_neg ha]
  by_cases h2 : b = 2
  ·rw [c_eqT h2, if_pos h2, z12a t1 t3 (by omega) (by omega)]; rfl
  ·rw [c_eqF h2, if_neg h2]
   by_cases h1 : b = 1
   ·rw [c_eqT h1, if_pos h1, z12a t3 t1 (by omega) (by omega)]; rfl
   ·rw [c_eqF h1, if_neg h1, z12a (by omega) t1 t3 (by omega)]; rfl
theorem join2 {x y : List UInt8} (h : x.length + y.length ≤ 1000) : z1b [.str x, .str y] = some (.str (x ++ y)) := by
 have := zj2 [x, y] (by simp) (by simp only [totL]; omega)
 rw [show ([x, y] : List (List UInt8)).flatten = x ++ y by simp] at this
 exact this
theorem ctext_s {t : Int} (h0 : 0 ≤ t) (h1 : t < 86400000000) : zyj t = some (.tuple [.str (textN t.toNat), .int .i64 0]) := by
 rw [z1b3, zae, c_leT h0]
 simp only [Option.bind_some, zh]
 rw [show leB t 86400000000 = true from decide_eq_true (by omega), wu64 (by omega) (by omega)]
 obtain ⟨k, rfl⟩ := Int.eq_ofNat_of_zero_le h0
 rw [text_s k (by omega)]
 rfl
theorem two_full {x y : List UInt8} (hx : 1 ≤ x.length) (hy : 1 ≤ y.length) (sep : List UInt8) : joinB sep (fullL [x, y]) = x ++ (sep ++ y) := by
 have e : ∀ s : List UInt8, 1 ≤ s.length → (!eqS s []) = true := by
  intro s hs
  unfold eqS
  rw [decide_eq_false (by intro h; subst h; simp at hs)]; rfl
 unfold fullL
 simp only [List.filter, e x hx, e y hy]
 rfl
theorem between2 {x y : List UInt8} (hx : 1 ≤ x.length) (hy : 1 ≤ y.length) (hb : x.length + y.length ≤ 1000) (c : UInt8) : z2u [c] [.str x, .str y] = some (.str (x ++ ([c] ++ y))) := by
 have := zpm [c] (by simp) [x, y] (by simp) (by simp only [totL]; omega)
 rw [two_full hx hy] at this
 exact this
theorem textN_pos (t : Nat) : 1 ≤ (textN t).length := by
 unfold textN; rw [List.length_append]; have := z194 (t / 3600000000); omega
end Dv

set_option maxRecDepth 20000
namespace Dv
open Go
theorem sRightP (i : Int) {n : Int} (hn : In64 n) : ∃ b, z9c i n = some (.bool b) ∧ (b = true → i = 0 → z2h (n / 86400000000) = some (.bool true)) := by
 obtain ⟨c, h1, h2, h3⟩ := zbs (n / 86400000000)
 rw [zat, z11y hn]
 simp only [Option.bind_some, tn0, zc]
 rw [h1]
 simp only [Option.bind_some, zh]
 unfold eqB
 by_cases a : i = 0
 ·subst a
  exact ⟨c, rfl, fun hb _ => by rw [hb]⟩
 ·by_cases b : i = -1
  ·subst b
   by_cases z : n = 0
   ·subst z; exact ⟨true, rfl, fun _ h => absurd h a⟩
   ·exact ⟨false, by simp [z], by intro h; cases h⟩
  ·by_cases b1 : i = 1
   ·subst b1
    by_cases z : n = 0
    ·subst z; exact ⟨true, rfl, fun _ h => absurd h a⟩
    ·exact ⟨false, by simp [z], by intro h; cases h⟩
   ·exact ⟨false, by simp [a, b, b1], by intro h; cases h⟩
theorem partsP {n : Int} (h : z2h n = some (.bool true)) : ∃ y m d, zwk 0 n = some (.tuple [.int .i64 y, .int .i64 m, .int .i64 d, .int .i64 0]) ∧ okD y m d ∧ dayI y m d = n ∧ -4712 ≤ y ∧ y ≤ 294276 := by
 obtain ⟨c, h1, h2, h3⟩ := zbs n
 rw [h] at h1
 cases h1
 obtain ⟨y, m, d, e1, e2, e3, e4, e5, e6⟩ := h3 rfl
 refine ⟨y, m, d, ?_, e3, e4, e5, e6⟩
 rw [z10c, zg8, h, e1]; rfl
theorem ofP {n : Int} (hn : In64 n) (h : z2h (n / 86400000000) = some (.bool true)) :
  day_Of 0 n = some (.tuple [.agg [.int .i64 0, .int .i64 (n / 86400000000)], .int .i64 (n % 86400000000), .int .i64 0]) := by
 rw [day_Of_eq, zat, z11y hn]
 simp only [Option.bind_some, tn0, zc]
 rw [h]; rfl
theorem z137 {n : Int} (h : z2h n = some (.bool true)) (a b c : Int) : ∃ y m d, okD y m d ∧ dayI y m d = n ∧ -4712 ≤ y ∧ y ≤ 294276 ∧
  zo9 0 n a b c = some (.tuple [.str (dateN (absY y) m d a b), .str (bcN y)]) := by
 obtain ⟨y, m, d, e1, e3, e4, e5, e6⟩ := partsP h
 refine ⟨y, m, d, e3, e4, e5, e6, ?_⟩
 obtain ⟨m1, m2, d1, d2⟩ := e3
 have hl := zcg y m m1 m2
 rw [zzc, e1]
 simp only [Option.bind_some, tn0, tn1, tn2, zc]
 unfold absY bcN
 by_cases hy : y < 1
 ·rw [c_ltT hy, w64 (by omega) (by omega), if_pos hy, if_pos hy]
  exact z1hx (by omega) (by omega) (by omega) _ a b c
 ·rw [c_ltF hy, if_neg hy, if_neg hy]
  exact z1hx (by omega) (by omega) (by omega) _ a b c
theorem z1lk {i n : Int} (h : zg9 i n = some (.bool true)) (hi : i ≠ 0) : (i = 1 ∨ i = -1) ∧ n = 0 := by
 rw [zg8] at h
 unfold eqB at h
 by_cases a : i = -1
 ·subst a
  by_cases z : n = 0
  ·exact ⟨.inr rfl, z⟩
  ·simp [z] at h
 ·by_cases b : i = 1
  ·subst b
   by_cases z : n = 0
   ·exact ⟨.inl rfl, z⟩
   ·simp [z] at h
  ·simp [a, b, hi] at h
theorem z1kk {i n : Int} (hn : In64 n) (h : z9c i n = some (.bool true)) (hi : i ≠ 0) : (i = 1 ∨ i = -1) ∧ n = 0 := by
 rw [zat, z11y hn] at h
 simp only [Option.bind_some] at h
 unfold eqB at h
 by_cases a : i = -1
 ·subst a
  by_cases z : n = 0
  ·exact ⟨.inr rfl, z⟩
  ·simp [z] at h
 ·by_cases b : i = 1
  ·subst b
   by_cases z : n = 0
   ·exact ⟨.inl rfl, z⟩
   ·simp [z] at h
  ·simp [a, b, hi] at h
theorem z1dn {i : Int} (h : i = 1 ∨ i = -1) : zao i = some (.str (if i = 1 then infB else ninfB)) := by
 rcases h with rfl | rfl
 ·rw [zgl, c_ltF (by omega)]; rfl
 ·rw [zgl, c_ltT (by omega)]; rfl
theorem z172 {a b c : Int} (h : zz5 a b c = true) : 0 ≤ b ∧ b ≤ 2 := by
 have := of_decide_eq_true h
 exact ⟨this.2.2.1, this.2.2.2.1⟩
theorem insB_of {n : Int} (h : z2h n = some (.bool true)) : insB n = true := by
 rw [z1ja] at h; cases h' : insB n with
 | true => rfl
 | false => rw [h'] at h; cases h
theorem z1lj (i n a b c : Int) : ∃ s e, zod i n a b c = some (.tuple [.str s, .int .i64 e]) ∧ (e = 0 → dateP s b = (i, n, 0)) := by
 obtain ⟨r, h1, h2, h3, h4⟩ := z128 i n
 rw [zze, h1, z199]
 simp only [Option.bind_some, zh]
 cases hr : r with
 | false => simp only [Bool.not_false, cond_true]; rw [zob]; exact ⟨_, _, rfl, fun h => absurd h (by decide)⟩
 | true =>
 simp only [Bool.not_true, cond_false]
 cases hs : zz5 a b c with
 | false => simp only [Bool.not_false, cond_true]; rw [zob]; exact ⟨_, _, rfl, fun h => absurd h (by decide)⟩
 | true =>
 have hb := z172 hs
 simp only [Bool.not_true, cond_false]
 rw [zoa]
 by_cases hi : i = 0
 ·subst hi
  have hin := h3 hr rfl
  obtain ⟨y, m, d, k1, k2, k3, k4, k5⟩ := z137 hin a b c
  rw [c_not, c_eqT rfl, k5]
  simp only [Option.bind_some, tn0, tn1, zm]
  have l := zwm (absY y) m d a b
  have l2 : (bcN y).length ≤ 3 := by unfold bcN; split <;> decide
  rw [join2 (by omega)]
  exact ⟨_, _, rfl, fun _ => date_back k1 k2 ⟨k3, k4⟩ (insB_of hin) a b hb⟩
 ·rw [c_not, c_eqF hi]
  obtain ⟨g1, g2⟩ := z1lk (by rw [h1, hr]) hi
  rw [z1dn g1]
  refine ⟨_, _, rfl, fun _ => ?_⟩
  have hB := z1jb b hb
  rcases g1 with rfl | rfl
  ·rw [if_pos rfl, g2]; exact hB.1
  ·rw [if_neg (by omega), g2]; exact hB.2.1
theorem z1fg (i : Int) {n : Int} (hn : In64 n) (a b c : Int) : ∃ s e, zxy i n a b c = some (.tuple [.str s, .int .i64 e]) ∧ (e = 0 → zo4 s b = (i, n, 0)) := by
 obtain ⟨r, h1, h3⟩ := sRightP i hn
 rw [z19g, h1, z199]
 simp only [Option.bind_some, zh]
 cases hr : r with
 | false => simp only [Bool.not_false, cond_true]; rw [zmm]; exact ⟨_, _, rfl, fun h => absurd h (by decide)⟩
 | true =>
 simp only [Bool.not_true, cond_false]
 cases hs : zz5 a b c with
 | false => simp only [Bool.not_false, cond_true]; rw [zmm]; exact ⟨_, _, rfl, fun h => absurd h (by decide)⟩
 | true =>
 have hb := z172 hs
 simp only [Bool.not_true, cond_false]
 rw [z10u]
 by_cases hi : i = 0
 ·subst hi
  have hin := h3 hr rfl
  have o1 := ofP hn hin
  obtain ⟨y, m, d, k1, k2, k3, k4, k5⟩ := z137 hin a b c
  have ht := zfc n (show (0 : Int) < 86400000000 by omega)
  have l1 := znt (n % 86400000000).toNat
  have l2 := textN_pos (n % 86400000000).toNat
  have l := zwm (absY y) m d a b
  have l3 : (bcN y).length ≤ 3 := by unfold bcN; split <;> decide
  rw [c_not, c_eqT rfl, z16c, o1]
  simp only [Option.bind_some, tn0, tn1, ag0, ag1, zc]
  rw [k5, ctext_s ht.1 ht.2]
  simp only [Option.bind_some, tn0, tn1, zm]
  rw [between2 l.1 l2 (by omega)]
  simp only [Option.bind_some, tn0, tn1, zm]
  rw [join2 (by simp; omega)]
  exact ⟨_, _, rfl, fun _ => z1ke k1 k2 ⟨k3, k4⟩ (insB_of hin) rfl a b hb⟩
 ·rw [c_not, c_eqF hi]
  obtain ⟨g1, g2⟩ := z1kk hn (by rw [h1, hr]) hi
  rw [z1dn g1]
  refine ⟨_, _, rfl, fun _ => ?_⟩
  have hB := z1jb b hb
  rcases g1 with rfl | rfl
  ·rw [if_pos rfl, g2]; exact hB.2.2.1
  ·rw [if_neg (by omega), g2]; exact hB.2.2.2
theorem z1ki (i n j : Int) {u : Int} (hu : In64 u) (a b c : Int) : zet i n j u a b c = some (.bool true) := by
 obtain ⟨s, e, h1, h2⟩ := z1lj i n a b c
 obtain ⟨t, f, h3, h4⟩ := z1fg j hu a b c
 have h6 : z4z j u a b c = some (.bool true) := by
  rw [zha, h3]
  simp only [Option.bind_some, tn0, tn1, zc, zm]
  by_cases hf : f = 0
  ·rw [c_eqT hf, (stamp18_p t a b c).1, h4 hf, z1dj]
   simp only [Option.bind_some, dtV, tn0, tn1, ag0, ag1, zc, zh, eqB, decide_true, Bool.and_true, Bool.not_true, cond_false]
  ·rw [c_eqF hf, z1dj]; rfl
 rw [zk6, h1]
 simp only [Option.bind_some, tn0, tn1, zc, zm]
 by_cases he : e = 0
 ·rw [c_eqT he, (date_p s a b c).1, h2 he, h6]
  simp only [Option.bind_some, dtV, tn0, tn1, ag0, ag1, zc, eqB, decide_true, Bool.and_true, Bool.not_true, cond_false]
 ·rw [c_eqF he, h6]
end Dv
