/- The seat's proofs. -/
import Derived.Test.YtbeckkfacjkakaaQ1
import Derived.Test.YtbeckkfacjkakaaL3
import Derived.Laws.RangeAny
import Derived.Lib.IndexLaws
set_option linter.unusedVariables false
set_option linter.unusedSimpArgs false
/- The seat's environment, checked; what its functions without bodies answer. -/
namespace Dv
open Go

theorem chkNames : namesChk EE.P.funcs.toList = true := by kernel_rfl
theorem chkTypes : tisChk EE.P 0 EE.tt = true := by kernel_rfl
theorem chkEqs : eqsChk EE = true := by kernel_rfl
theorem chkMt : allB (mtChk EE.P) EE.mt = true := by kernel_rfl
theorem chkOrders : EE.P.follows .mixedOrders = true := by kernel_rfl
theorem sameOk : ∀ g, memN g EE.same = true → ExtAt EE g Extern.AbiNoEscape.same := by
  intro g h
  have he : EE.same = [76] := rfl
  rw [he] at h
  simp only [memN, Bool.or_eq_true, Bool.or_false, beq_iff_eq, Bool.false_eq_true] at h
  subst h
  exact ⟨⟨(EE.P.funcs[76]?).getD default, by kernel_rfl, by kernel_rfl, by kernel_rfl, by kernel_rfl, by kernel_rfl⟩⟩
theorem mnzOk : ∀ g e, findN g EE.mnz = some e → ∃ ps t, EE.P.underlying t = some (.slice e) ∧ ExtAt EE g (Extern.BytealgMakeNoZero.makeNoZero ps #[t]) := by
  intro g e h
  have he : EE.mnz = [(77, 5)] := rfl
  rw [he] at h
  simp only [findN] at h
  cases h1 : (g == 77) with
  | true =>
    rw [h1] at h
    simp only [cond_true, Option.some.injEq] at h
    have := eq_of_beq h1
    subst this; subst h
    exact ⟨((EE.P.funcs[77]?).getD default).params, ((EE.P.funcs[77]?).getD default).resultTypes.getD 0 0, by kernel_rfl, ⟨⟨(EE.P.funcs[77]?).getD default, by kernel_rfl, by kernel_rfl, by kernel_rfl, by kernel_rfl, by kernel_rfl⟩⟩⟩
  | false =>
  rw [h1] at h
  simp only [cond_false] at h
  cases h
theorem envOk : EnvOk EE := envChk_ok (by unfold envChk; rw [chkNames, chkTypes, chkEqs, chkMt, chkOrders]; rfl) sameOk mnzOk
theorem extOk : ExtOk EE := by
  intro g m h args r hr
  right
  have he : EE.ext = [(74, extIndexByte)] := rfl
  rw [he] at h
  simp only [findExt] at h
  cases h1 : (g == 74) with
  | true =>
    rw [h1] at h
    simp only [cond_true, Option.some.injEq] at h
    have := eq_of_beq h1
    subst this; subst h
    exact ext_indexByte ⟨⟨(EE.P.funcs[74]?).getD default, by kernel_rfl, by kernel_rfl, by kernel_rfl, by kernel_rfl, by kernel_rfl⟩⟩ args r hr
  | false =>
  rw [h1] at h
  simp only [cond_false] at h
  cases h
end Dv

/- Whole numbers as digits: the program's and the reference's. -/
namespace Dv
open Go

def dgN (n : Nat) : UInt8 := UInt8.ofNat (48 + n % 10)

/-- The digits of a number, so many at least, so many at most. -/
def digC : Nat → Nat → Nat → List UInt8
  | 0, _, _ => []
  | f + 1, n, m => if n = 0 ∧ m = 0 then [] else digC f (n / 10) (m - 1) ++ [dgN n]

def digN (n : Nat) : List UInt8 := digC 20 n 1

theorem dgN_val (n : Nat) : (PV.int .u8 (IntKind.u8.wrap (IntKind.u64.wrap (48 + Int.tmod (n : Int) 10)))) = byteV (dgN n) := by
  have h : Int.tmod (n : Int) 10 = ((n % 10 : Nat) : Int) := by rw [Int.tmod_eq_emod_of_nonneg (by omega)]; rfl
  rw [h, wu64 (by omega) (by omega), wu8 (by omega) (by omega)]
  unfold byteV dgN
  congr 1
  rw [UInt8.toNat_ofNat']
  omega

theorem digC_len : ∀ f n m, (digC f n m).length ≤ f
  | 0, _, _ => Nat.le_refl _
  | f + 1, n, m => by
    unfold digC
    split
    · simp
    · have := digC_len f (n / 10) (m - 1)
      simp; omega

theorem zeros_set (k : Nat) (t : List UInt8) (c : UInt8) : (List.replicate (k + 1) (0 : UInt8) ++ t).set k c = List.replicate k 0 ++ (c :: t) := by
  rw [List.replicate_succ', List.append_assoc, List.set_append_right _ _ (by simp)]
  simp

theorem digits_loop (least : Nat) (hl : least ≤ 20) : ∀ (k n : Nat) (t : List UInt8), n < 10 ^ k → k + t.length = 20 →
    clock_digits_c3 (n : Int) (least : Int) (k : Int) ((List.replicate k (0 : UInt8) ++ t).map byteV) 20 = some (.str (digC k n (least - (20 - k)) ++ t))
  | 0, n, t, hn, ht => by
    have h0 : n = 0 := by simpa using hn
    subst h0
    rw [clock_digits_c3_eq, c_ltF (by omega), w64 (by omega) (by omega), c_ltF (by omega), c_eqnT (by simp; omega), c_eqnT rfl, decide_eq_true (by omega), cond_true]
    have : List.take (20 - ((0 : Nat) : Int).toNat) (List.drop ((0 : Nat) : Int).toNat ((List.replicate 0 (0 : UInt8) ++ t).map byteV)) = t.map byteV := by
      simp
      apply List.take_of_length_le
      simp; omega
    rw [this, bytes_byteV]
    rfl
  | k + 1, n, t, hn, ht => by
    have hlen : ((List.replicate (k + 1) (0 : UInt8) ++ t).map byteV).length = 20 := by simp; omega
    have hk : k < 20 := by omega
    by_cases hc : n = 0 ∧ least - (20 - (k + 1)) = 0
    · obtain ⟨h0, h1⟩ := hc
      subst h0
      rw [clock_digits_c3_eq, c_ltF (by omega), w64 (by omega) (by omega), c_ltF (by omega), c_eqnT hlen, c_eqnT rfl, decide_eq_true (by omega), cond_true]
      have : List.take (20 - ((k + 1 : Nat) : Int).toNat) (List.drop ((k + 1 : Nat) : Int).toNat ((List.replicate (k + 1) (0 : UInt8) ++ t).map byteV)) = t.map byteV := by
        rw [Int.toNat_natCast, ← List.map_drop, List.drop_left' (by simp)]
        apply List.take_of_length_le
        simp; omega
      rw [this, bytes_byteV, h1]
      unfold digC
      rw [if_pos ⟨rfl, rfl⟩]
      rfl
    · have h5 : clock_digits_c3 (n : Int) (least : Int) ((k + 1 : Nat) : Int) ((List.replicate (k + 1) (0 : UInt8) ++ t).map byteV) 20 =
          clock_digits_c5 (n : Int) (least : Int) ((k + 1 : Nat) : Int) ((List.replicate (k + 1) (0 : UInt8) ++ t).map byteV) 20 := by
        rw [clock_digits_c3_eq, w64 (by omega) (by omega)]
        by_cases h : 0 < (n : Int)
        · rw [c_ltT h]
        · rw [c_ltF h, c_ltT (by omega)]
      have e1 : ((k + 1 : Nat) : Int) - 1 = (k : Int) := by omega
      rw [h5, clock_digits_c5_eq, e1, w64 (n := (k : Int)) (by omega) (by omega), c_inT (by omega), Int.toNat_natCast, dgN_val, stC_map (by simp; omega), zeros_set]
      simp only [Option.bind_some]
      have e2 : Int.tdiv (n : Int) 10 = ((n / 10 : Nat) : Int) := by rw [Int.tdiv_eq_ediv_of_nonneg (by omega)]; rfl
      have hp : 10 ^ k ≤ 10 ^ 19 := Nat.pow_le_pow_right (by omega) (by omega)
      have hpp : 10 ^ (k + 1) = 10 ^ k * 10 := Nat.pow_succ ..
      have hpv : (10 : Nat) ^ 19 = 10000000000000000000 := by decide
      have hn10 : n / 10 < 10 ^ k := by omega
      rw [e2, wu64 (by omega) (by omega), digits_loop least hl k (n / 10) (dgN n :: t) hn10 (by simp; omega)]
      have e3 : least - (20 - (k + 1)) - 1 = least - (20 - k) := by omega
      conv => rhs; rw [digC]
      rw [if_neg hc, e3]
      simp

theorem digits_s (n least : Nat) (hn : n < 18446744073709551616) (hl : least ≤ 20) : clock_digits (n : Int) (least : Int) = some (.str (digC 20 n least)) := by
  rw [clock_digits_eq]
  have := digits_loop least hl 20 n [] (Nat.lt_trans hn (by decide)) rfl
  rw [Nat.sub_self, Nat.sub_zero, List.append_nil, List.append_nil] at this
  exact this

/-! ### the reference's -/
def revD : Nat → Nat → List UInt8
  | 0, u => [dgN u]
  | f + 1, u => if u < 10 then [dgN u] else dgN u :: revD f (u / 10)

theorem revD_len : ∀ f u, (revD f u).length ≤ f + 1
  | 0, _ => by simp [revD]
  | f + 1, u => by
    unfold revD
    split
    · simp
    · have := revD_len f (u / 10)
      simp; omega

theorem digC_10 : ∀ f a, 1 ≤ a → digC f a 1 = digC f a 0
  | 0, _, _ => rfl
  | f + 1, a, h => by
    unfold digC
    rw [if_neg (by omega), if_neg (by omega)]

theorem revD_digC : ∀ f u, (revD f u).reverse = if u < 10 ^ (f + 1) then digC (f + 1) u 1 else (revD f u).reverse
  | 0, u => by
    split
    · unfold revD digC; rw [if_neg (by omega)]; rfl
    · rfl
  | f + 1, u => by
    split
    · rename_i h
      have hd : digC (f + 1 + 1) u 1 = digC (f + 1) (u / 10) 0 ++ [dgN u] := by
        conv => lhs; rw [digC]
        rw [if_neg (by omega)]
      rw [hd]
      unfold revD
      by_cases h10 : u < 10
      · rw [if_pos h10]
        have : u / 10 = 0 := by omega
        rw [this]
        unfold digC
        rw [if_pos ⟨rfl, rfl⟩]
        rfl
      · have h2 : 10 ^ (f + 1 + 1) = 10 ^ (f + 1) * 10 := Nat.pow_succ ..
        rw [if_neg h10, List.reverse_cons, revD_digC f (u / 10), if_pos (by omega), digC_10 _ _ (by omega)]
    · rfl

theorem rev_loop (l : List UInt8) (hl : l.length ≤ 1000000) : ∀ k, k ≤ l.length → computusref03_Digits_c13 ((k : Int) - 1) (l.map byteV) ((l.drop k).reverse.map byteV) = some (.str l.reverse)
  | 0, _ => by
    rw [computusref03_Digits_c13_eq, c_leF (by omega), bytes_byteV]
    rfl
  | k + 1, hk => by
    have e1 : ((k + 1 : Nat) : Int) - 1 = (k : Int) := by omega
    have hg : l[k]? = some l[k] := List.getElem?_eq_getElem (by omega)
    rw [e1, computusref03_Digits_c13_eq, c_leT (by omega), c_inT (by simp; omega), Int.toNat_natCast, rdT_byte hg]
    simp only [Option.bind_some]
    rw [appL_ok (by simp; omega)]
    simp only [Option.bind_some]
    rw [w64 (by omega) (by omega)]
    have e2 : (l.drop (k + 1)).reverse.map byteV ++ [PV.int .u8 (byteV l[k]).toI] = (l.drop k).reverse.map byteV := by
      rw [List.drop_eq_getElem_cons (show k < l.length by omega), List.reverse_cons, List.map_append]
      rfl
    rw [e2]
    exact rev_loop l hl k (by omega)

theorem rev_s (l : List UInt8) (hl : l.length ≤ 1000000) : computusref03_Digits_c11 (l.map byteV) = some (.str l.reverse) := by
  rw [computusref03_Digits_c11_eq, List.length_map, w64 (by omega) (by omega)]
  have := rev_loop l hl l.length (Nat.le_refl _)
  rw [List.drop_length] at this
  exact this

theorem rdig_loop (x0 : Int) : ∀ (f u : Nat) (b : List UInt8), u < 10 ^ (f + 1) → f ≤ 19 → b.length + f ≤ 100 → computusref03_Digits_c5 x0 (u : Int) (b.map byteV) =
    if x0 < 0 then computusref03_Digits_c11 ((b ++ revD f u ++ [45]).map byteV) else computusref03_Digits_c11 ((b ++ revD f u).map byteV) := by
  have fin : ∀ (u : Nat) (b : List UInt8), u < 10 → b.length ≤ 200 → computusref03_Digits_c5 x0 (u : Int) (b.map byteV) =
      if x0 < 0 then computusref03_Digits_c11 ((b ++ [dgN u] ++ [45]).map byteV) else computusref03_Digits_c11 ((b ++ [dgN u]).map byteV) := by
    intro u b hu hb
    have e : (48 : Int) + (u : Int) = 48 + Int.tmod (u : Int) 10 := by rw [Int.tmod_eq_emod_of_nonneg (by omega)]; omega
    rw [computusref03_Digits_c5_eq, c_leF (by omega), e, dgN_val, appL_ok (by simp; omega)]
    simp only [Option.bind_some]
    by_cases hx : x0 < 0
    · rw [c_ltT hx, if_pos hx, appL_ok (by simp; omega)]
      simp only [Option.bind_some, List.map_append]
      rfl
    · rw [c_ltF hx, if_neg hx]
      simp only [List.map_append]
      rfl
  intro f
  induction f with
  | zero => intro u b hu _ hb; exact fin u b (by simpa using hu) (by omega)
  | succ f ih =>
    intro u b hu hf hb
    unfold revD
    by_cases h : u < 10
    · rw [if_pos h]; exact fin u b h (by omega)
    · have e2 : Int.tdiv (u : Int) 10 = ((u / 10 : Nat) : Int) := by rw [Int.tdiv_eq_ediv_of_nonneg (by omega)]; rfl
      have hpp : 10 ^ (f + 1 + 1) = 10 ^ (f + 1) * 10 := Nat.pow_succ ..
      have hp : 10 ^ (f + 1) ≤ 10 ^ 19 := Nat.pow_le_pow_right (by omega) (by omega)
      have hpv : (10 : Nat) ^ 19 = 10000000000000000000 := by decide
      rw [if_neg h, computusref03_Digits_c5_eq, c_leT (by omega), dgN_val, appL_ok (by simp; omega)]
      simp only [Option.bind_some]
      rw [e2, wu64 (by omega) (by omega)]
      have e3 : b.map byteV ++ [byteV (dgN u)] = (b ++ [dgN u]).map byteV := by simp
      rw [e3, ih (u / 10) (b ++ [dgN u]) (by omega) (by omega) (by simp; omega)]
      simp

/-- A number as its digits, below nought with a sign. -/
def decI (a : Int) : List UInt8 := if a < 0 then 45 :: digN (-a).toNat else digN a.toNat

theorem digN_len (n : Nat) : (digN n).length ≤ 20 := digC_len 20 n 1
theorem decI_len (a : Int) : (decI a).length ≤ 21 := by
  unfold decI
  split
  · have := digN_len (-a).toNat; simp; omega
  · have := digN_len a.toNat; omega

theorem rdigits_s {a : Int} (h1 : -9223372036854775808 ≤ a) (h2 : a ≤ 9223372036854775807) : computusref03_Digits a = some (.str (decI a)) := by
  have go : ∀ u : Nat, u < 18446744073709551616 → computusref03_Digits_c4 a (u : Int) = some (.str (if a < 0 then 45 :: digN u else digN u)) := by
    intro u hu
    have hlt : u < 10 ^ (19 + 1) := Nat.lt_trans hu (by decide)
    have hl := revD_len 19 u
    rw [computusref03_Digits_c4_eq, show ([] : List PV) = ([] : List UInt8).map byteV from rfl, rdig_loop a 19 u [] hlt (by omega) (by simp)]
    have hr := revD_digC 19 u
    rw [if_pos hlt] at hr
    by_cases ha : a < 0
    · rw [if_pos ha, if_pos ha, rev_s _ (by simp; omega)]
      simp only [List.nil_append, List.reverse_append, hr]
      rfl
    · rw [if_neg ha, if_neg ha, rev_s _ (by simp; omega)]
      simp only [List.nil_append, hr]
      rfl
  rw [computusref03_Digits_eq]
  unfold decI
  by_cases ha : a < 0
  · have e : IntKind.u64.wrap (0 - IntKind.u64.wrap a) = (((-a).toNat : Nat) : Int) := by
      simp only [IntKind.wrap, IntKind.bits, IntKind.signed]
      simp
      omega
    rw [c_ltT ha, e, go _ (by omega), if_pos ha, if_pos ha]
  · have e : IntKind.u64.wrap a = ((a.toNat : Nat) : Int) := by rw [wu64 (by omega) (by omega)]; omega
    rw [c_ltF ha, e, go _ (by omega), if_neg ha, if_neg ha]

/-! ### two digits at least -/
def twoN (n : Nat) : List UInt8 := digC 20 n 2

theorem digN_lt {n : Nat} (h : n < 10) : digN n = [dgN n] := by
  unfold digN digC
  have : n / 10 = 0 := by omega
  rw [if_neg (by omega), this]
  unfold digC
  rw [if_pos ⟨rfl, rfl⟩]; rfl
theorem twoN_lt {n : Nat} (h : n < 10) : twoN n = [48, dgN n] := by
  unfold twoN digC
  have : n / 10 = 0 := by omega
  rw [if_neg (by omega), this]
  have : digC 19 0 (2 - 1) = [48] := by decide
  rw [this]; rfl
theorem twoN_ge {n : Nat} (h : 10 ≤ n) : twoN n = digN n := by
  unfold twoN digN digC
  rw [if_neg (by omega), if_neg (by omega)]
  have : 1 ≤ n / 10 := by omega
  rw [show 2 - 1 = 1 from rfl, show 1 - 1 = 0 from rfl, digC_10 19 _ this]

theorem twoN_len (n : Nat) : (twoN n).length ≤ 20 := digC_len 20 n 2

theorem two_s {a : Int} (h0 : 0 ≤ a) (h1 : a ≤ 9223372036854775807) : clock_Two a = some (.str (twoN a.toNat)) := by
  have e : IntKind.u64.wrap a = ((a.toNat : Nat) : Int) := by rw [wu64 h0 (by omega)]; omega
  rw [clock_Two_eq, c_leT h0, e]
  have := digits_s a.toNat 2 (by omega) (by omega)
  rw [show ((2 : Nat) : Int) = 2 from rfl] at this
  rw [this]; rfl

theorem rtwo_s {a : Int} (h0 : 0 ≤ a) (h1 : a ≤ 9223372036854775807) : computusref03_Two a = some (.str (twoN a.toNat)) := by
  have hd : decI a = digN a.toNat := if_neg (by omega)
  rw [computusref03_Two_eq, c_leT h0]
  by_cases h : a < 10
  · rw [c_ltT h, computusref03_Two_c2_eq, rdigits_s (by omega) h1]
    simp only [Option.bind_some, toS_str]
    rw [hd, digN_lt (by omega), catS_ok (by simp), twoN_lt (by omega)]; rfl
  · rw [c_ltF h, computusref03_Two_c3_eq, c_ltF (by omega), rdigits_s (by omega) h1]
    simp only [Option.bind_some, toS_str]
    rw [hd, twoN_ge (by omega)]

theorem sdigits_s {a : Int} (h0 : 0 ≤ a) (h1 : a ≤ 9223372036854775807) : show_digits a = some (.str (digN a.toNat)) := by
  rw [show_digits_eq, two_s h0 h1]
  by_cases h : a < 10
  · rw [c_ltT h, digN_lt (by omega), twoN_lt (by omega)]; rfl
  · rw [c_ltF h, twoN_ge (by omega)]; rfl
end Dv

/- Parts of texts: fractions, times, parts that are joined. -/
namespace Dv
open Go

theorem decR_low {s : List UInt8} {i : Nat} {c : UInt8} (h : s[i]? = some c) (hc : c.toNat < 128) : decR s i = (c.toNat, 1) := by
  have hi : i < s.length := (List.getElem?_eq_some_iff.1 h).1
  have hs : i < (⟨s.toArray⟩ : ByteArray).size := by simpa [ByteArray.size] using hi
  have hg : (⟨s.toArray⟩ : ByteArray)[i]'hs = c := (List.getElem?_eq_some_iff.1 h).2
  unfold decR
  rw [decode_ascii ⟨s.toArray⟩ i hs (by rw [hg]; exact hc), hg]
theorem drop_nil {α : Type} {s : List α} {i : Nat} (h : s.drop i = []) : s.length ≤ i := List.drop_eq_nil_iff.1 h
theorem drop_cons {α : Type} {s r : List α} {c : α} {i : Nat} (h : s.drop i = c :: r) : i < s.length ∧ s[i]? = some c ∧ s.drop (i + 1) = r := by
  have hi : i < s.length := by
    rcases Nat.lt_or_ge i s.length with h' | h'
    · exact h'
    · rw [List.drop_eq_nil_iff.2 h'] at h; cases h
  rw [List.drop_eq_getElem_cons hi] at h
  simp only [List.cons.injEq] at h
  exact ⟨hi, by rw [List.getElem?_eq_getElem hi, h.1], h.2⟩

/-! ### without noughts at the end -/
def stripZ : List UInt8 → List UInt8
  | [] => []
  | c :: r => if stripZ r = [] ∧ c = 48 then [] else c :: stripZ r

theorem strip_take : ∀ l, l.take (stripZ l).length = stripZ l
  | [] => rfl
  | c :: r => by
    unfold stripZ
    split
    · rfl
    · simp [strip_take r]
theorem strip_len (l : List UInt8) : (stripZ l).length ≤ l.length := by
  have := congrArg List.length (strip_take l)
  simp at this; omega

def endF : Nat → Nat → List UInt8 → Nat
  | e, _, [] => e
  | e, i, c :: r => endF (if c = 48 then e else i + 1) (i + 1) r

theorem endF_eq : ∀ (r : List UInt8) (e i : Nat), endF e i r = if stripZ r = [] then e else i + (stripZ r).length
  | [], e, i => rfl
  | c :: r, e, i => by
    unfold endF
    rw [endF_eq r]
    by_cases h : stripZ r = []
    · rw [if_pos h]
      by_cases hc : c = 48
      · have hs : stripZ (c :: r) = [] := if_pos ⟨h, hc⟩
        rw [if_pos hc, if_pos hs]
      · have hs : stripZ (c :: r) = c :: stripZ r := if_neg (fun x => hc x.2)
        rw [if_neg hc, hs, if_neg (by simp), h]; simp
    · have hs : stripZ (c :: r) = c :: stripZ r := if_neg (fun x => h x.1)
      rw [if_neg h, hs, if_neg (by simp)]; simp; omega

theorem strip_zero : ∀ r, stripZ (r ++ [48]) = stripZ r
  | [] => by decide
  | c :: r => by
    rw [List.cons_append, stripZ, stripZ, strip_zero r]
theorem strip_app {c : UInt8} (hc : c ≠ 48) : ∀ r, stripZ (r ++ [c]) = r ++ [c]
  | [] => by simp [stripZ, hc]
  | a :: r => by
    rw [List.cons_append, stripZ, strip_app hc r, if_neg (by simp)]

def digB0 (c : UInt8) : Prop := 48 ≤ c.toNat ∧ c.toNat ≤ 57

theorem dgN_dig (n : Nat) : digB0 (dgN n) := by
  unfold digB0 dgN
  rw [UInt8.toNat_ofNat']
  omega
theorem digC_dig : ∀ f n m, ∀ c ∈ digC f n m, digB0 c
  | 0, _, _, c, h => by cases h
  | f + 1, n, m, c, h => by
    unfold digC at h
    split at h
    · cases h
    · rw [List.mem_append] at h
      rcases h with h | h
      · exact digC_dig f _ _ c h
      · simp at h; subst h; exact dgN_dig n

theorem digC_zero : ∀ f n m, n < 10 ^ f → stripZ (digC f n m) = [] → n = 0
  | 0, n, m, hn, _ => by simpa using hn
  | f + 1, n, m, hn, h => by
    unfold digC at h
    split at h
    · rename_i h0; exact h0.1
    · by_cases hd : dgN n = 48
      · rw [hd, strip_zero] at h
        have hpp : 10 ^ (f + 1) = 10 ^ f * 10 := Nat.pow_succ ..
        have := digC_zero f (n / 10) (m - 1) (by omega) h
        have hm : n % 10 = 0 := by
          have := congrArg UInt8.toNat hd
          unfold dgN at this
          rw [UInt8.toNat_ofNat'] at this
          have h48 : (48 : UInt8).toNat = 48 := rfl
          omega
        omega
      · rw [strip_app hd] at h
        simp at h

theorem digC_len6 : ∀ k f u, u < 10 ^ k → k ≤ f → (digC f u k).length = k
  | 0, 0, u, _, _ => rfl
  | 0, f + 1, u, h, _ => by
    have : u = 0 := by simpa using h
    subst this
    rfl
  | k + 1, 0, u, _, h => by omega
  | k + 1, f + 1, u, h, hf => by
    have hpp : 10 ^ (k + 1) = 10 ^ k * 10 := Nat.pow_succ ..
    unfold digC
    rw [if_neg (by omega), Nat.add_sub_cancel, List.length_append, digC_len6 k f (u / 10) (by omega) (by omega)]
    rfl

theorem digC_one : ∀ k f u, u < 10 ^ k → k < f → digC f (10 ^ k + u) 1 = 49 :: digC f u k
  | 0, 0, _, _, h => by omega
  | 0, f + 1, u, hu, _ => by
    have : u = 0 := by simpa using hu
    subst this
    have h1 : digC f 0 0 = [] := by cases f <;> rfl
    unfold digC
    rw [if_neg (by omega), if_pos ⟨rfl, rfl⟩]
    have : (10 ^ 0 + 0) / 10 = 0 := by decide
    rw [this, show 1 - 1 = 0 from rfl, h1]
    rfl
  | k + 1, 0, _, _, h => by omega
  | k + 1, f + 1, u, hu, hf => by
    have hpp : 10 ^ (k + 1) = 10 ^ k * 10 := Nat.pow_succ ..
    have hp : 1 ≤ 10 ^ k := Nat.one_le_pow _ _ (by omega)
    have e1 : (10 ^ (k + 1) + u) / 10 = 10 ^ k + u / 10 := by omega
    have e2 : dgN (10 ^ (k + 1) + u) = dgN u := by
      unfold dgN
      have : (10 ^ (k + 1) + u) % 10 = u % 10 := by omega
      rw [this]
    have l : digC (f + 1) (10 ^ (k + 1) + u) 1 = digC f (10 ^ k + u / 10) 0 ++ [dgN u] := by
      conv => lhs; rw [digC]
      rw [if_neg (by omega), e1, e2]
    have r : digC (f + 1) u (k + 1) = digC f (u / 10) k ++ [dgN u] := by
      conv => lhs; rw [digC]
      rw [if_neg (by omega), Nat.add_sub_cancel]
    rw [l, r, ← digC_10 f _ (by omega), digC_one k f (u / 10) (by omega) (by omega)]
    rfl

/-- Microseconds behind a point. -/
def fracN (u : Nat) : List UInt8 := if u = 0 ∨ 999999 < u then [] else 46 :: stripZ (digC 20 u 6)

theorem fracN_len (u : Nat) : (fracN u).length ≤ 21 := by
  unfold fracN
  split
  · simp
  · have h1 := strip_len (digC 20 u 6)
    have h2 := digC_len 20 u 6
    simp; omega

theorem frac_loop (s : List UInt8) (hl : s.length ≤ 100) (hd : ∀ c ∈ s, digB0 c) : ∀ (r : List UInt8) (i e : Nat), s.drop i = r → i ≤ s.length → e ≤ i →
    clock_Fraction_c6 s (e : Int) s i = some (.str (46 :: s.take (endF e i r)))
  | [], i, e, hr, hi, he => by
    have := drop_nil hr
    rw [clock_Fraction_c6_eq, c_ltnF (by omega), takeS_n (by omega)]
    simp only [Option.bind_some]
    rw [catS_ok (by first | omega | (simp; omega))]
    rfl
  | c :: r, i, e, hr, hi, he => by
    obtain ⟨h1, h2, h3⟩ := drop_cons hr
    have hc : digB0 c := hd c (List.mem_of_getElem? h2)
    have hdc := decR_low h2 (by unfold digB0 at hc; omega)
    rw [clock_Fraction_c6_eq, c_ltnT h1, hdc]
    simp only
    unfold endF
    by_cases h48 : c = 48
    · have : (((c.toNat : Nat) : Int)) = 48 := by rw [h48]; rfl
      rw [c_not, c_eqT this, if_pos h48, frac_loop s hl hd r (i + 1) e h3 (by omega) (by omega)]
    · have : ¬ (((c.toNat : Nat) : Int)) = 48 := by
        intro h
        apply h48
        have h' : c.toNat = 48 := by omega
        exact UInt8.toNat_inj.1 h'
      have e1 : IntKind.i64.wrap (((i : Nat) : Int) + 1) = ((i + 1 : Nat) : Int) := by rw [w64 (by omega) (by omega)]; omega
      rw [c_not, c_eqF this, if_neg h48, e1, frac_loop s hl hd r (i + 1) (i + 1) h3 (by omega) (by omega)]

theorem frac_s {a : Int} (h0 : 0 ≤ a) (h1 : a ≤ 9223372036854775807) : clock_Fraction a = some (.str (fracN a.toNat)) := by
  rw [clock_Fraction_eq]
  unfold fracN
  by_cases ha : a ≤ 0
  · rw [c_leT ha, clock_Fraction_c2_eq, if_pos (by omega)]
  · rw [c_leF ha]
    by_cases hb : 999999 < a
    · rw [c_ltT hb, clock_Fraction_c2_eq, if_pos (by omega)]
    · have e : IntKind.u64.wrap a = ((a.toNat : Nat) : Int) := by rw [wu64 h0 (by omega)]; omega
      have hds := digits_s a.toNat 6 (by omega) (by omega)
      rw [show ((6 : Nat) : Int) = 6 from rfl] at hds
      rw [c_ltF hb, clock_Fraction_c3_eq, e, hds, if_neg (by omega)]
      simp only [Option.bind_some, toS_str]
      have hl := digC_len 20 a.toNat 6
      have := frac_loop (digC 20 a.toNat 6) (by omega) (digC_dig 20 _ _) (digC 20 a.toNat 6) 0 0 rfl (by omega) (by omega)
      rw [show ((0 : Nat) : Int) = 0 from rfl] at this
      rw [this, endF_eq]
      by_cases hz : stripZ (digC 20 a.toNat 6) = []
      · rw [if_pos hz, hz]; rfl
      · rw [if_neg hz, Nat.zero_add, strip_take]

theorem rstrip_loop : ∀ (n : Nat) (s : List UInt8), s.length = n → n ≤ 100 → stripZ s ≠ [] → computusref03_Fraction_c4 s = some (.str (46 :: stripZ s))
  | 0, s, hn, _, h => by
    have : s = [] := List.length_eq_zero_iff.1 hn
    subst this
    exact absurd rfl h
  | n + 1, s, hn, hle, h => by
    have hne : s ≠ [] := by rintro rfl; simp at hn
    obtain ⟨r, c, rfl⟩ : ∃ r c, s = r ++ [c] := ⟨s.dropLast, s.getLast hne, (List.dropLast_concat_getLast hne).symm⟩
    have hlen : (r ++ [c]).length = r.length + 1 := by simp
    have hrn : r.length = n := by omega
    have e1 : IntKind.i64.wrap ((((r ++ [c]).length : Nat) : Int) - 1) = (r.length : Int) := by rw [hlen, w64 (by omega) (by omega)]; omega
    have hg : (r ++ [c])[r.length]? = some c := by simp
    rw [computusref03_Fraction_c4_eq, e1, atS_ok hg]
    simp only [Option.bind_some]
    by_cases h48 : c = 48
    · have : (((c.toNat : Nat) : Int)) = 48 := by rw [h48]; rfl
      rw [c_eqT this, takeS_n (by simp)]
      simp only [Option.bind_some]
      rw [List.take_left, h48, strip_zero]
      rw [h48, strip_zero] at h
      exact rstrip_loop n r hrn (by omega) h
    · have : ¬ (((c.toNat : Nat) : Int)) = 48 := by
        intro h
        apply h48
        have h' : c.toNat = 48 := by omega
        exact UInt8.toNat_inj.1 h'
      rw [c_eqF this, catS_ok (by first | omega | (simp; omega)), strip_app h48]
      rfl

theorem rfrac_s {a : Int} (h0 : 0 ≤ a) (h1 : a ≤ 9223372036854775807) : computusref03_Fraction a = some (.str (fracN a.toNat)) := by
  rw [computusref03_Fraction_eq]
  unfold fracN
  by_cases ha : a < 1
  · rw [c_ltT ha, computusref03_Fraction_c2_eq, if_pos (by omega)]
  · rw [c_ltF ha]
    by_cases hb : 999999 < a
    · rw [c_ltT hb, computusref03_Fraction_c2_eq, if_pos (by omega)]
    · have hlt : a.toNat < 10 ^ 6 := by omega
      have hd : decI (1000000 + a) = 49 :: digC 20 a.toNat 6 := by
        unfold decI
        rw [if_neg (by omega)]
        have := digC_one 6 20 a.toNat hlt (by omega)
        unfold digN
        rw [← this]
        congr 1
        omega
      have hl := digC_len 20 a.toNat 6
      rw [c_ltF hb, computusref03_Fraction_c3_eq, w64 (by omega) (by omega), rdigits_s (by omega) (by omega), if_neg (by omega), hd]
      simp only [Option.bind_some, toS_str]
      have : dropS (49 :: digC 20 a.toNat 6) 1 = some (digC 20 a.toNat 6) := by rw [dropS_ok (by omega) (by simp; omega)]; rfl
      rw [this]
      simp only [Option.bind_some]
      refine rstrip_loop _ _ rfl (by omega) (fun h => ?_)
      have := digC_zero 20 a.toNat 6 (Nat.lt_trans hlt (by decide)) h
      omega

/-! ### times -/
def textN (t : Nat) : List UInt8 := twoN (t / 3600000000) ++ (58 :: (twoN (t / 60000000 % 60) ++ (58 :: (twoN (t / 1000000 % 60) ++ fracN (t % 1000000)))))
theorem textN_len (t : Nat) : (textN t).length ≤ 90 := by
  have h1 := twoN_len (t / 3600000000)
  have h2 := twoN_len (t / 60000000 % 60)
  have h3 := twoN_len (t / 1000000 % 60)
  have h4 := fracN_len (t % 1000000)
  unfold textN
  simp; omega

theorem tdivN (a b : Nat) : Int.tdiv (a : Int) (b : Int) = ((a / b : Nat) : Int) := by rw [Int.tdiv_eq_ediv_of_nonneg (by omega)]; rfl
theorem tmodN (a b : Nat) : Int.tmod (a : Int) (b : Int) = ((a % b : Nat) : Int) := by rw [Int.tmod_eq_emod_of_nonneg (by omega)]; rfl

theorem text_s (t : Nat) (h : t < 18446744073709551616) : clock_text (t : Int) = some (.str (textN t)) := by
  have h1 := twoN_len (t / 3600000000)
  have h2 := twoN_len (t / 60000000 % 60)
  have h3 := twoN_len (t / 1000000 % 60)
  have h4 := fracN_len (t % 1000000)
  have e1 : IntKind.i64.wrap (IntKind.u64.wrap (Int.tdiv (t : Int) 3600000000)) = ((t / 3600000000 : Nat) : Int) := by
    have := tdivN t 3600000000
    rw [show ((3600000000 : Nat) : Int) = 3600000000 from rfl] at this
    rw [this, wu64 (by omega) (by omega), w64 (by omega) (by omega)]
  have e2 : IntKind.i64.wrap (Int.tmod (IntKind.u64.wrap (Int.tdiv (t : Int) 60000000)) 60) = ((t / 60000000 % 60 : Nat) : Int) := by
    have := tdivN t 60000000
    rw [show ((60000000 : Nat) : Int) = 60000000 from rfl] at this
    rw [this, wu64 (by omega) (by omega)]
    have := tmodN (t / 60000000) 60
    rw [show ((60 : Nat) : Int) = 60 from rfl] at this
    rw [this, w64 (by omega) (by omega)]
  have e3 : IntKind.i64.wrap (Int.tmod (IntKind.u64.wrap (Int.tdiv (t : Int) 1000000)) 60) = ((t / 1000000 % 60 : Nat) : Int) := by
    have := tdivN t 1000000
    rw [show ((1000000 : Nat) : Int) = 1000000 from rfl] at this
    rw [this, wu64 (by omega) (by omega)]
    have := tmodN (t / 1000000) 60
    rw [show ((60 : Nat) : Int) = 60 from rfl] at this
    rw [this, w64 (by omega) (by omega)]
  have e4 : IntKind.i64.wrap (Int.tmod (t : Int) 1000000) = ((t % 1000000 : Nat) : Int) := by
    have := tmodN t 1000000
    rw [show ((1000000 : Nat) : Int) = 1000000 from rfl] at this
    rw [this, w64 (by omega) (by omega)]
  rw [clock_text_eq, clock_parts_eq, e1, e2, e3, e4]
  simp only [Option.bind_some, tn0, tn1, tn2, tn3, toI_int]
  rw [two_s (by omega) (by omega), two_s (by omega) (by omega), two_s (by omega) (by omega), frac_s (by omega) (by omega)]
  simp only [Option.bind_some, toS_str, Int.toNat_natCast]
  rw [catS_ok (by first | omega | (simp; omega))]
  simp only [Option.bind_some]
  rw [catS_ok (by first | omega | (simp; omega))]
  simp only [Option.bind_some]
  rw [catS_ok (by first | omega | (simp; omega))]
  simp only [Option.bind_some]
  rw [catS_ok (by first | omega | (simp; omega))]
  simp only [Option.bind_some]
  rw [catS_ok (by first | omega | (simp; omega))]
  simp only [Option.bind_some]
  unfold textN
  simp

def longI (a : Int) : List UInt8 := if a < 0 then 45 :: textN (-a).toNat else textN a.toNat
theorem longI_len (a : Int) : (longI a).length ≤ 91 := by
  unfold longI
  split
  · have := textN_len (-a).toNat; simp; omega
  · have := textN_len a.toNat; omega

theorem wneg64 {a : Int} (h1 : -9223372036854775808 ≤ a) (ha : a < 0) : IntKind.u64.wrap (0 - IntKind.u64.wrap a) = (((-a).toNat : Nat) : Int) := by
  simp only [IntKind.wrap, IntKind.bits, IntKind.signed]
  simp
  omega

theorem long_s {a : Int} (h1 : -9223372036854775808 ≤ a) (h2 : a ≤ 9223372036854775807) : clock_Long a = some (.str (longI a)) := by
  rw [clock_Long_eq]
  unfold longI
  by_cases ha : a < 0
  · have hl := textN_len (-a).toNat
    rw [c_ltT ha, if_pos ha, wneg64 h1 ha, text_s _ (by omega)]
    simp only [Option.bind_some, toS_str]
    rw [catS_ok (by first | omega | (simp; omega))]; rfl
  · have e : IntKind.u64.wrap a = ((a.toNat : Nat) : Int) := by rw [wu64 (by omega) (by omega)]; omega
    rw [c_ltF ha, if_neg ha, e, text_s _ (by omega)]; rfl

theorem rlong_c6 (t : Nat) (h : t < 18446744073709551616) (x : List UInt8) (hx : x.length ≤ 1) : computusref03_Long_c6 (t : Int) x = some (.str (x ++ textN t)) := by
  have h1 := twoN_len (t / 3600000000)
  have h2 := twoN_len (t / 60000000 % 60)
  have h3 := twoN_len (t / 1000000 % 60)
  have h4 := fracN_len (t % 1000000)
  have e0 : IntKind.i64.wrap (IntKind.u64.wrap (Int.tdiv (t : Int) 1000000)) = ((t / 1000000 : Nat) : Int) := by
    have := tdivN t 1000000
    rw [show ((1000000 : Nat) : Int) = 1000000 from rfl] at this
    rw [this, wu64 (by omega) (by omega), w64 (by omega) (by omega)]
  have e1 : IntKind.i64.wrap (Int.tdiv ((t / 1000000 : Nat) : Int) 3600) = ((t / 3600000000 : Nat) : Int) := by
    have := tdivN (t / 1000000) 3600
    rw [show ((3600 : Nat) : Int) = 3600 from rfl] at this
    rw [this, w64 (by omega) (by omega), Nat.div_div_eq_div_mul]
  have e2 : Int.tmod (IntKind.i64.wrap (Int.tdiv ((t / 1000000 : Nat) : Int) 60)) 60 = ((t / 60000000 % 60 : Nat) : Int) := by
    have := tdivN (t / 1000000) 60
    rw [show ((60 : Nat) : Int) = 60 from rfl] at this
    rw [this, w64 (by omega) (by omega), Nat.div_div_eq_div_mul]
    exact tmodN _ 60
  have e3 : Int.tmod ((t / 1000000 : Nat) : Int) 60 = ((t / 1000000 % 60 : Nat) : Int) := tmodN _ 60
  have e4 : IntKind.i64.wrap (Int.tmod (t : Int) 1000000) = ((t % 1000000 : Nat) : Int) := by
    have := tmodN t 1000000
    rw [show ((1000000 : Nat) : Int) = 1000000 from rfl] at this
    rw [this, w64 (by omega) (by omega)]
  rw [computusref03_Long_c6_eq, e0, e1, e2, e3, e4, rtwo_s (by omega) (by omega), rtwo_s (by omega) (by omega), rtwo_s (by omega) (by omega), rfrac_s (by omega) (by omega)]
  simp only [Option.bind_some, toS_str, Int.toNat_natCast]
  rw [catS_ok (by first | omega | (simp; omega))]
  simp only [Option.bind_some]
  rw [catS_ok (by first | omega | (simp; omega))]
  simp only [Option.bind_some]
  rw [catS_ok (by first | omega | (simp; omega))]
  simp only [Option.bind_some]
  rw [catS_ok (by first | omega | (simp; omega))]
  simp only [Option.bind_some]
  rw [catS_ok (by first | omega | (simp; omega))]
  simp only [Option.bind_some]
  rw [catS_ok (by first | omega | (simp; omega))]
  simp only [Option.bind_some]
  unfold textN
  simp

theorem rlong_s {a : Int} (h1 : -9223372036854775808 ≤ a) (h2 : a ≤ 9223372036854775807) : computusref03_Long a = some (.str (longI a)) := by
  rw [computusref03_Long_eq]
  unfold longI
  by_cases ha : a < 0
  · rw [c_ltT ha, if_pos ha, wneg64 h1 ha, rlong_c6 _ (by omega) _ (by simp)]; rfl
  · have e : IntKind.u64.wrap a = ((a.toNat : Nat) : Int) := by rw [wu64 (by omega) (by omega)]; omega
    rw [c_ltF ha, if_neg ha, e, rlong_c6 _ (by omega) _ (by simp)]; rfl
end Dv

/- Parts that are joined. -/
namespace Dv
open Go

def totL : List (List UInt8) → Nat
  | [] => 0
  | s :: l => s.length + totL l
theorem totL_flat : ∀ l, l.flatten.length = totL l
  | [] => rfl
  | s :: l => by simp [totL, totL_flat l]

theorem join_loop (l : List (List UInt8)) (hl : l.length ≤ 1000) : ∀ (r : List (List UInt8)) (i : Nat) (acc : List UInt8), l.drop i = r → i ≤ l.length → acc.length + totL r ≤ 1000000 →
    show_join_c3 (l.map PV.str) (l.length : Int) (i : Int) (acc.map byteV) = some (.str (acc ++ r.flatten))
  | [], i, acc, hr, hi, ht => by
    have := drop_nil hr
    rw [show_join_c3_eq, c_ltF (by omega), bytes_byteV]
    simp
  | s :: r, i, acc, hr, hi, ht => by
    obtain ⟨h1, h2, h3⟩ := drop_cons hr
    have e1 : IntKind.i64.wrap ((i : Int) + 1) = ((i + 1 : Nat) : Int) := by rw [w64 (by omega) (by omega)]; omega
    simp only [totL] at ht
    rw [show_join_c3_eq, c_ltT (by omega), rdI_n, rdT_str h2]
    simp only [Option.bind_some, toS_str]
    rw [decide_eq_true (by omega), cond_true, Int.toNat_natCast, List.take_length, appL_ok (by simp; omega)]
    simp only [Option.bind_some]
    rw [e1, ← List.map_append, join_loop l hl r (i + 1) (acc ++ s) h3 (by omega) (by simp; omega)]
    simp

theorem join_s (l : List (List UInt8)) (hl : l.length ≤ 1000) (ht : totL l ≤ 1000000) : show_join (l.map PV.str) = some (.str l.flatten) := by
  rw [show_join_eq, List.length_map]
  have := join_loop l hl l 0 [] rfl (by omega) (by simpa using ht)
  exact this

/-! ### strings.Join -/
def joinB (sep : List UInt8) : List (List UInt8) → List UInt8
  | [] => []
  | [a] => a
  | a :: b :: r => a ++ (sep ++ joinB sep (b :: r))

def tailB (sep : List UInt8) : List (List UInt8) → List UInt8
  | [] => []
  | a :: r => sep ++ (a ++ tailB sep r)
theorem joinB_tail (sep a : List UInt8) : ∀ r, joinB sep (a :: r) = a ++ tailB sep r
  | [] => by simp [joinB, tailB]
  | b :: r => by
    rw [joinB, tailB, joinB_tail sep b r]

theorem tailB_len (sep : List UInt8) : ∀ l, (tailB sep l).length = totL l + sep.length * l.length
  | [] => by simp [tailB, totL]
  | a :: r => by
    simp only [tailB, totL, List.length_append, tailB_len sep r, List.length_cons, Nat.mul_add, Nat.mul_one]
    omega

theorem join_c22 (sep : List UInt8) (hsep : 1 ≤ sep.length ∧ sep.length ≤ 100) (l : List (List UInt8)) (hl : l.length ≤ 1000) : ∀ (r : List (List UInt8)) (i : Nat) (acc : List UInt8), l.drop i = r → i ≤ l.length →
    acc.length + (tailB sep r).length ≤ 10000000 → acc ++ tailB sep r ≠ [] →
    strings_Join_c22 sep (l.map PV.str) (l.length : Int) (i : Int) (acc.map byteV) = some (.str (acc ++ tailB sep r))
  | [], i, acc, hr, hi, ht, hne => by
    have := drop_nil hr
    have hacc : acc ≠ [] := by simpa [tailB] using hne
    have hn : isNilL (acc.map byteV) = false := by cases acc with | nil => exact absurd rfl hacc | cons => rfl
    rw [strings_Join_c22_eq, c_ltF (by omega), hn]
    simp only [tailB, List.length_nil, Nat.add_zero, List.append_nil] at ht ⊢
    simp only [Bool.not_false, Bool.and_self, cond_true, cond_false]
    rw [decide_eq_true ⟨trivial, by rw [List.length_map]; omega⟩, cond_true, bytes_byteV]
    rfl
  | s :: r, i, acc, hr, hi, ht, hne => by
    obtain ⟨h1, h2, h3⟩ := drop_cons hr
    have e1 : IntKind.i64.wrap ((i : Int) + 1) = ((i + 1 : Nat) : Int) := by rw [w64 (by omega) (by omega)]; omega
    simp only [tailB, List.length_append] at ht
    rw [strings_Join_c22_eq, c_ltT (by omega), rdI_n, rdT_str h2]
    simp only [Option.bind_some, toS_str]
    rw [appL_ok (by simp; omega)]
    simp only [Option.bind_some]
    rw [appL_ok (by simp; omega)]
    simp only [Option.bind_some]
    rw [e1, ← List.map_append, ← List.map_append, join_c22 sep hsep l hl r (i + 1) (acc ++ sep ++ s) h3 (by omega) (by simp; omega) (by
      intro h
      have := congrArg List.length h
      simp only [List.length_append, List.length_nil] at this
      omega)]
    simp [tailB]

theorem join_c12 (sep : List UInt8) (l : List (List UInt8)) (hl : l.length ≤ 1000) (x0 : List PV) : ∀ (r : List (List UInt8)) (i n : Nat), l.drop i = r → i ≤ l.length → n + totL r ≤ 10000000 →
    strings_Join_c12 x0 sep (n : Int) (l.map PV.str) (l.length : Int) (i : Int) = if n + totL r = 0 then strings_Join_c20_1 x0 sep else strings_Join_c20 x0 sep []
  | [], i, n, hr, hi, ht => by
    have := drop_nil hr
    simp only [totL, Nat.add_zero] at ht
    have h0 : n + totL [] = n := rfl
    have e0 : IntKind.i64.wrap (0 - 0) = 0 := by decide
    have e1 : IntKind.i64.wrap (2 * 0) = 0 := by decide
    rw [strings_Join_c12_eq, c_ltF (by omega), c_ltF (by omega), e0, e1, w64 (n := 0 + (n : Int)) (by omega) (by omega)]
    by_cases hn : n = 0
    · rw [c_ltF (by omega), if_pos (h0.trans hn)]
    · rw [c_ltT (by omega), if_neg (by rw [h0]; exact hn), decide_eq_true (by omega), cond_true]
  | s :: r, i, n, hr, hi, ht => by
    obtain ⟨h1, h2, h3⟩ := drop_cons hr
    have e1 : IntKind.i64.wrap ((i : Int) + 1) = ((i + 1 : Nat) : Int) := by rw [w64 (by omega) (by omega)]; omega
    simp only [totL] at ht
    have h0 : n + totL (s :: r) = n + s.length + totL r := by simp only [totL]; omega
    have e2 : IntKind.i64.wrap ((n : Int) + ((s.length : Nat) : Int)) = ((n + s.length : Nat) : Int) := by rw [w64 (by omega) (by omega)]; omega
    rw [strings_Join_c12_eq, c_ltT (by omega), rdI_n, rdT_str h2]
    simp only [Option.bind_some, toS_str]
    rw [w64 (by omega) (by omega), c_ltF (by omega), strings_Join_c16_eq, e1, e2, join_c12 sep l hl x0 r (i + 1) (n + s.length) h3 (by omega) (by omega), h0]

theorem join_c21 (sep : List UInt8) (hsep : 1 ≤ sep.length ∧ sep.length ≤ 100) (a b : List UInt8) (r : List (List UInt8)) (hl : r.length ≤ 900) (ht : a.length + totL (b :: r) ≤ 1000000) :
    strings_Join_c21 ((a :: b :: r).map PV.str) sep (a.map byteV) = some (.str (joinB sep (a :: b :: r))) := by
  have e : dropS ((a :: b :: r).map PV.str) 1 = some ((b :: r).map PV.str) := by rw [dropS_ok (by omega) (by simp; omega)]; rfl
  rw [strings_Join_c21_eq, e]
  simp only [Option.bind_some]
  rw [List.length_map, joinB_tail]
  have htl := tailB_len sep (b :: r)
  have hm : sep.length * (b :: r).length ≤ 100 * 901 := Nat.mul_le_mul hsep.2 (by simp; omega)
  have := join_c22 sep hsep (b :: r) (by simp; omega) (b :: r) 0 a rfl (by omega) (by omega) (by
    intro h
    have := congrArg List.length h
    simp only [List.length_append, htl, List.length_cons, List.length_nil, Nat.mul_add] at this
    omega)
  exact this

/-- strings.Join, with a sign that is no empty text. -/
theorem sjoin_s (sep : List UInt8) (hsep : 1 ≤ sep.length ∧ sep.length ≤ 100) (l : List (List UInt8)) (hl : l.length ≤ 900) (ht : totL l ≤ 1000000) : strings_Join (l.map PV.str) sep = some (.str (joinB sep l)) := by
  match l, hl, ht with
  | [], _, _ => rw [strings_Join_eq]; rfl
  | [a], _, _ =>
    rw [strings_Join_eq]
    have e1 : ((([a].map PV.str).length : Nat) : Int) = 1 := rfl
    rw [e1, c_eqF (by omega), c_eqT rfl]
    rfl
  | a :: b :: r, hl, ht =>
    simp only [List.length_cons] at hl
    have hlen : (((a :: b :: r).map PV.str).length : Int) = ((r.length + 2 : Nat) : Int) := by simp only [List.length_map, List.length_cons]
    have e2 : IntKind.i64.wrap (((r.length + 2 : Nat) : Int) - 1) = ((r.length + 1 : Nat) : Int) := by rw [w64 (by omega) (by omega)]; omega
    have e3 : 1000000 ≤ IntKind.i64.wrap (Int.tdiv 9223372036854775807 ((r.length + 1 : Nat) : Int)) := by
      have := tdivN 9223372036854775807 (r.length + 1)
      rw [show ((9223372036854775807 : Nat) : Int) = 9223372036854775807 from rfl] at this
      have h1 : 9223372036854775807 / (r.length + 1) ≤ 9223372036854775807 := Nat.div_le_self _ _
      have h2 : 1000000 ≤ 9223372036854775807 / (r.length + 1) := by
        rw [Nat.le_div_iff_mul_le (by omega)]
        omega
      rw [this, w64 (by omega) (by omega)]
      omega
    have hm : sep.length * (r.length + 1) ≤ 100 * 901 := Nat.mul_le_mul hsep.2 (by omega)
    have hmi : ((sep.length : Nat) : Int) * ((r.length + 1 : Nat) : Int) = ((sep.length * (r.length + 1) : Nat) : Int) := by push_cast; rfl
    rw [strings_Join_eq, hlen, c_eqF (by omega), c_eqF (by omega), c_ltT (by omega), e2, c_eqF (by omega), c_leF (by omega), strings_Join_c10_eq, hlen, e2, hmi, w64 (n := ((sep.length * (r.length + 1) : Nat) : Int)) (by omega) (by omega),
      Int.zero_add, w64 (by omega) (by omega), strings_Join_c11_eq, hlen]
    have hll : ((r.length + 2 : Nat) : Int) = (((a :: b :: r).length : Nat) : Int) := by simp only [List.length_cons]
    rw [hll]
    have h12 := join_c12 sep (a :: b :: r) (by simp; omega) ((a :: b :: r).map PV.str) (a :: b :: r) 0 (sep.length * (r.length + 1)) rfl (by omega) (by omega)
    rw [show ((0 : Nat) : Int) = 0 from rfl] at h12
    have hpos : 1 * 1 ≤ sep.length * (r.length + 1) := Nat.mul_le_mul hsep.1 (by omega)
    rw [h12, if_neg (by omega), strings_Join_c20_eq]
    have hr0 : rdI tiStr ((a :: b :: r).map PV.str) 0 = some (.str a) := rfl
    rw [hr0]
    simp only [totL] at ht
    simp only [Option.bind_some, toS_str]
    rw [appL_ok (by simp; omega)]
    simp only [Option.bind_some, List.nil_append]
    exact join_c21 sep hsep a b r (by omega) (by simp only [totL]; omega)

/-! ### parts that are not empty -/
def fullL (l : List (List UInt8)) : List (List UInt8) := l.filter fun s => !eqS s []

theorem totL_app : ∀ a b, totL (a ++ b) = totL a + totL b
  | [], b => by simp [totL]
  | s :: a, b => by simp only [List.cons_append, totL, totL_app a b]; omega

theorem between_loop (sep : List UInt8) (hsep : 1 ≤ sep.length ∧ sep.length ≤ 100) (l : List (List UInt8)) (hl : l.length ≤ 400) : ∀ (r : List (List UInt8)) (i : Nat) (acc : List (List UInt8)), l.drop i = r → i ≤ l.length →
    totL acc + totL r ≤ 1000000 → acc.length + r.length ≤ 400 → show_between_c3 sep (l.map PV.str) (l.length : Int) (i : Int) (acc.map PV.str) = some (.str (joinB sep (acc ++ fullL r)))
  | [], i, acc, hr, hi, ht, hn => by
    have := drop_nil hr
    simp only [totL, List.length_nil] at ht hn
    rw [show_between_c3_eq, c_ltF (by omega), sjoin_s sep hsep acc (by omega) (by omega)]
    simp [fullL, PV.toS]
  | s :: r, i, acc, hr, hi, ht, hn => by
    obtain ⟨h1, h2, h3⟩ := drop_cons hr
    have e1 : IntKind.i64.wrap ((i : Int) + 1) = ((i + 1 : Nat) : Int) := by rw [w64 (by omega) (by omega)]; omega
    simp only [totL, List.length_cons] at ht hn
    rw [show_between_c3_eq, c_ltT (by omega), rdI_n, rdT_str h2]
    simp only [Option.bind_some, toS_str]
    by_cases hs : s = []
    · rw [c_not, c_eqsT hs, e1, between_loop sep hsep l hl r (i + 1) acc h3 (by omega) (by omega) (by omega)]
      have : fullL (s :: r) = fullL r := by unfold fullL; rw [List.filter_cons_of_neg]; simp [eqS, hs]
      rw [this]
    · rw [c_not, c_eqsF hs, appL_ok (by simp; omega)]
      simp only [Option.bind_some]
      have e2 : acc.map PV.str ++ [PV.str s] = (acc ++ [s]).map PV.str := by simp
      rw [e1, e2, between_loop sep hsep l hl r (i + 1) (acc ++ [s]) h3 (by omega) (by rw [totL_app]; simp only [totL]; omega) (by simp; omega)]
      have : fullL (s :: r) = s :: fullL r := by unfold fullL; rw [List.filter_cons_of_pos]; simp [eqS, hs]
      rw [this]
      simp

theorem between_s (sep : List UInt8) (hsep : 1 ≤ sep.length ∧ sep.length ≤ 100) (l : List (List UInt8)) (hl : l.length ≤ 400) (ht : totL l ≤ 1000000) : show_between sep (l.map PV.str) = some (.str (joinB sep (fullL l))) := by
  rw [show_between_eq, List.length_map]
  have := between_loop sep hsep l hl l 0 [] rfl (by omega) (by simpa [totL] using ht) (by simpa using hl)
  exact this
end Dv

/- Intervals as texts: the program's, the reference's. -/
namespace Dv
open Go

abbrev InS (n : Int) : Prop := -9223372036854775807 ≤ n ∧ n ≤ 9223372036854775807

/-! ### which can be -/
def spanR (i m d u : Int) : Bool :=
  if i = 0 then decide (-2147483647 ≤ m ∧ m ≤ 2147483647 ∧ -2147483647 ≤ d ∧ d ≤ 2147483647 ∧ -9223372036854775807 ≤ u ∧ u ≤ 9223372036854775807) else decide ((i = -1 ∨ i = 1) ∧ m = 0 ∧ d = 0 ∧ u = 0)
def styleR (a b c : Int) : Bool := decide (0 ≤ a ∧ a ≤ 1 ∧ 0 ≤ b ∧ b ≤ 2 ∧ 0 ≤ c ∧ c ≤ 2)

theorem style_s (a b c : Int) : show_Right a b c = some (.bool (styleR a b c)) := by
  rw [show_Right_eq]
  unfold styleR leB
  by_cases h1 : 0 ≤ a <;> by_cases h2 : a ≤ 1 <;> by_cases h3 : 0 ≤ b <;> by_cases h4 : b ≤ 2 <;> by_cases h5 : 0 ≤ c <;> by_cases h6 : c ≤ 2 <;> simp [h1, h2, h3, h4, h5, h6]
theorem rstyle_s (a b c : Int) : computusref19_Right a b c = some (.bool (styleR a b c)) := by
  rw [computusref19_Right_eq]
  unfold styleR leB
  by_cases h1 : 0 ≤ a <;> by_cases h2 : a ≤ 1 <;> by_cases h3 : 0 ≤ b <;> by_cases h4 : b ≤ 2 <;> by_cases h5 : 0 ≤ c <;> by_cases h6 : c ≤ 2 <;> simp [h1, h2, h3, h4, h5, h6]

theorem neg_ok {u : Int} (h1 : -9223372036854775808 ≤ u) (h2 : u ≤ 9223372036854775807) : ∃ n, num_Neg u = some (.tuple [.int .i64 n, .int .i64 (if u = -9223372036854775808 then 10 else 0)]) := by
  rw [num_Neg_eq, num_Sub_eq]
  by_cases h : u = -9223372036854775808
  · subst h
    refine ⟨0, ?_⟩
    kernel_rfl
  · have e : IntKind.i64.wrap (0 - u) = -u := by rw [w64 (by omega) (by omega)]; omega
    refine ⟨-u, ?_⟩
    rw [e]
    have hb : (ltB (-u) 0 == ltB 0 u) = true := by
      unfold ltB
      by_cases hu : 0 < u
      · rw [decide_eq_true hu, decide_eq_true (by omega)]; rfl
      · rw [decide_eq_false hu, decide_eq_false (by omega)]; rfl
    rw [hb, if_neg h]
    rfl

theorem within_s (n : Int) : span_within n = some (.bool (decide (-2147483647 ≤ n ∧ n ≤ 2147483647))) := by
  rw [span_within_eq]
  unfold leB
  by_cases h1 : -2147483647 ≤ n <;> by_cases h2 : n ≤ 2147483647 <;> simp [h1, h2]
theorem rwithin_s {n m : Int} (hm : 0 ≤ m ∧ m ≤ 9223372036854775807) : computusref16_within n m = some (.bool (decide (-m ≤ n ∧ n ≤ m))) := by
  have e : IntKind.i64.wrap (0 - m) = -m := by rw [w64 (by omega) (by omega)]; omega
  rw [computusref16_within_eq, e]
  unfold leB
  by_cases h1 : -m ≤ n <;> by_cases h2 : n ≤ m <;> simp [h1, h2]

theorem right_s {i m d u : Int} (h1 : -9223372036854775808 ≤ u) (h2 : u ≤ 9223372036854775807) : span_Right i m d u = some (.bool (spanR i m d u)) := by
  rw [span_Right_eq]
  unfold spanR
  by_cases hi : i = 0
  · obtain ⟨n, hn⟩ := neg_ok h1 h2
    rw [c_not, c_eqT hi, if_pos hi, hn, within_s, within_s]
    simp only [Option.bind_some, toB_bool, tn1, toI_int]
    by_cases hm : -2147483647 ≤ m ∧ m ≤ 2147483647
    · rw [decide_eq_true hm, cond_true]
      by_cases hd : -2147483647 ≤ d ∧ d ≤ 2147483647
      · rw [decide_eq_true hd, cond_true]
        unfold eqB
        by_cases hu : u = -9223372036854775808
        · simp [hu]
        · have : -9223372036854775807 ≤ u := by omega
          simp [hu, hm, hd, this, h2]
      · rw [decide_eq_false hd, cond_false, decide_eq_false (by omega)]
    · rw [decide_eq_false hm, cond_false, decide_eq_false (by omega)]
  · rw [c_not, c_eqF hi, if_neg hi]
    unfold eqB leB
    by_cases a1 : m = 0 <;> by_cases a2 : d = 0 <;> by_cases a3 : u = 0 <;> simp [a1, a2, a3]
    by_cases b1 : -1 ≤ i <;> by_cases b2 : i ≤ 1 <;> simp [b1, b2] <;> omega

theorem rright_s {i m d u : Int} : computusref16_Right i m d u = some (.bool (spanR i m d u)) := by
  rw [computusref16_Right_eq]
  unfold spanR
  by_cases hi : i = 0
  · rw [c_not, c_eqT hi, if_pos hi, rwithin_s (by omega), rwithin_s (by omega), rwithin_s (by omega)]
    simp only [Option.bind_some, toB_bool]
    by_cases hm : -2147483647 ≤ m ∧ m ≤ 2147483647
    · rw [decide_eq_true hm, cond_true]
      by_cases hd : -2147483647 ≤ d ∧ d ≤ 2147483647
      · rw [decide_eq_true hd, cond_true]
        congr 2
        simp [hm, hd]
      · rw [decide_eq_false hd, cond_false, decide_eq_false (by omega)]
    · rw [decide_eq_false hm, cond_false, decide_eq_false (by omega)]
  · rw [c_not, c_eqF hi, if_neg hi]
    unfold eqB
    by_cases b1 : i = -1 <;> by_cases b2 : i = 1 <;> by_cases a1 : m = 0 <;> by_cases a2 : d = 0 <;> by_cases a3 : u = 0 <;> simp [b1, b2, a1, a2, a3]

theorem spanR_fin {m d u : Int} (h : spanR 0 m d u = true) : -2147483647 ≤ m ∧ m ≤ 2147483647 ∧ -2147483647 ≤ d ∧ d ≤ 2147483647 ∧ -9223372036854775807 ≤ u ∧ u ≤ 9223372036854775807 := by
  unfold spanR at h
  rw [if_pos rfl] at h
  exact of_decide_eq_true h

theorem inf_s {i : Int} (h : i ≠ 0) : show_infinite i = computusref19_inf i := by
  rw [show_infinite_eq, computusref19_inf_eq]
  by_cases hi : i < 0
  · rw [c_ltT hi, c_ltT hi]
  · rw [c_ltF hi, c_ltF hi, c_ltT (by omega)]
theorem inf_str {i : Int} (h : i ≠ 0) : ∃ s, show_infinite i = some (.str s) := by
  rw [show_infinite_eq]
  by_cases hi : i < 0
  · rw [c_ltT hi]; exact ⟨_, rfl⟩
  · rw [c_ltF hi]; exact ⟨_, rfl⟩

/-! ### numbers and their signs -/
theorem number_s {a : Int} (h : InS a) : show_number a = some (.str (decI a)) := by
  rw [show_number_eq]
  unfold decI
  by_cases ha : a < 0
  · have e : IntKind.i64.wrap (0 - a) = -a := by rw [w64 (by omega) (by omega)]; omega
    have hl := digN_len (-a).toNat
    rw [c_ltT ha, if_pos ha, e, sdigits_s (by omega) (by omega)]
    simp only [Option.bind_some, toS_str]
    have := join_s [[45], digN (-a).toNat] (by simp) (by simp [totL]; omega)
    simp only [List.map_cons, List.map_nil] at this
    rw [this]
    simp
    rfl
  · rw [c_ltF ha, if_neg ha, sdigits_s (by omega) (by omega)]; rfl

def sgnB (a : Int) : List UInt8 := if a < 0 then [45] else [43]
def absI (a : Int) : Int := if a < 0 then -a else a
theorem signed_s {a : Int} (h : InS a) : show_signed a = some (.tuple [.str (sgnB a), .int .i64 (absI a)]) := by
  rw [show_signed_eq]
  unfold sgnB absI
  by_cases ha : a < 0
  · have e : IntKind.i64.wrap (0 - a) = -a := by rw [w64 (by omega) (by omega)]; omega
    rw [c_ltT ha, if_pos ha, if_pos ha, e]
  · rw [c_ltF ha, if_neg ha, if_neg ha]
theorem size_s {a : Int} (h : InS a) : computusref19_size a = some (.tuple [.int .i64 (absI a), .str (sgnB a)]) := by
  rw [computusref19_size_eq]
  unfold sgnB absI
  by_cases ha : a < 0
  · have e : IntKind.i64.wrap (0 - a) = -a := by rw [w64 (by omega) (by omega)]; omega
    rw [c_ltT ha, if_pos ha, if_pos ha, e]
  · rw [c_ltF ha, if_neg ha, if_neg ha]
theorem absI_rng {a : Int} (h : InS a) : 0 ≤ absI a ∧ absI a ≤ 9223372036854775807 := by unfold absI; split <;> omega
theorem sgnB_len (a : Int) : (sgnB a).length = 1 := by unfold sgnB; split <;> rfl
end Dv

/- Intervals as texts, in words. -/
namespace Dv
open Go

def unitB (n : Int) (name : List UInt8) (was : Int) : List UInt8 :=
  if n = 0 then [] else (if was < 0 ∧ 0 < n then [43] else []) ++ (decI n ++ (32 :: (name ++ (if n = 1 then [] else [115]))))
def nextW (n was : Int) : Int := if n = 0 then was else n
def timeB (u was : Int) : List UInt8 := if 0 < u ∧ was < 0 then 43 :: longI u else if u ≠ 0 ∨ was = 0 then longI u else []

theorem unitB_len (n : Int) (name : List UInt8) (was : Int) (h : name.length ≤ 10) : (unitB n name was).length ≤ 40 := by
  have := decI_len n
  unfold unitB
  split
  · simp
  · split <;> split <;> simp <;> omega
theorem timeB_len (u was : Int) : (timeB u was).length ≤ 92 := by
  have := longI_len u
  unfold timeB
  split
  · simp; omega
  · split
    · omega
    · simp

/-- What stands behind a text, with a blank between. -/
def addW (t s : List UInt8) : List UInt8 := if s = [] then t else if t = [] then s else t ++ (32 :: s)

theorem join_addW (a b c d : List UInt8) : joinB [32] (fullL [a, b, c, d]) = addW (addW (addW a b) c) d := by
  unfold addW fullL eqS
  by_cases h1 : a = [] <;> by_cases h2 : b = [] <;> by_cases h3 : c = [] <;> by_cases h4 : d = [] <;> simp [h1, h2, h3, h4, joinB]

theorem unit_join (p n x m : List UInt8) (hp : p.length ≤ 10) (hn : n.length ≤ 100) (hx : x.length ≤ 10) (hm : m.length ≤ 10) :
    show_join [.str p, .str n, .str [32], .str x, .str m] = some (.str (p ++ (n ++ (32 :: (x ++ m))))) := by
  have := join_s [p, n, [32], x, m] (by simp) (by simp [totL]; omega)
  simp only [List.map_cons, List.map_nil] at this
  rw [this]
  simp

theorem between4 (a b c d : List UInt8) (ha : a.length ≤ 100) (hb : b.length ≤ 100) (hc : c.length ≤ 100) (hd : d.length ≤ 100) :
    show_between [32] [.str a, .str b, .str c, .str d] = some (.str (addW (addW (addW a b) c) d)) := by
  have := between_s [32] (by simp) [a, b, c, d] (by simp) (by simp [totL]; omega)
  simp only [List.map_cons, List.map_nil] at this
  rw [this, join_addW]

def yearN : List UInt8 := [121, 101, 97, 114]
def monN : List UInt8 := [109, 111, 110]
def dayN : List UInt8 := [100, 97, 121]

theorem pg_c5 (a b c : List UInt8) (ha : a.length ≤ 100) (hb : b.length ≤ 100) (hc : c.length ≤ 100) (i m d : Int) {u : Int} (hu : InS u) (was : Int) :
    show_postgres_c5 a b c i m d u was = some (.str (addW (addW (addW a b) c) (timeB u was))) := by
  have hl := longI_len u
  have c8 : ¬ (0 < u ∧ was < 0) → show_postgres_c8 a b c [] i m d u was = some (.str (addW (addW (addW a b) c) (timeB u was))) := by
    intro hn
    rw [show_postgres_c8_eq, long_s (by omega) (by omega)]
    unfold timeB
    rw [if_neg hn]
    by_cases h0 : u = 0
    · rw [c_not, c_eqT h0]
      by_cases hw : was = 0
      · rw [c_eqT hw, if_pos (.inr hw)]
        simp only [Option.bind_some, toS_str]
        rw [between4 a b c (longI u) ha hb hc (by omega)]
        rfl
      · rw [c_eqF hw, if_neg (fun h => h.elim (fun h => h h0) hw), between4 a b c [] ha hb hc (by simp)]
        rfl
    · rw [c_not, c_eqF h0, if_pos (.inl h0)]
      simp only [Option.bind_some, toS_str]
      rw [between4 a b c (longI u) ha hb hc (by omega)]
      rfl
  rw [show_postgres_c5_eq]
  by_cases h1 : 0 < u
  · rw [c_ltT h1]
    by_cases h2 : was < 0
    · rw [c_ltT h2, show_postgres_c7_eq, long_s (by omega) (by omega)]
      simp only [Option.bind_some, toS_str]
      have hj := join_s [[43], longI u] (by simp) (by simp [totL]; omega)
      simp only [List.map_cons, List.map_nil] at hj
      have ht : timeB u was = 43 :: longI u := if_pos ⟨h1, h2⟩
      rw [hj, ht]
      simp only [Option.bind_some, toS_str]
      rw [between4 a b c _ ha hb hc (by simp; omega)]
      simp only [Option.bind_some, toS_str]
      simp
    · rw [c_ltF h2]; exact c8 (fun h => h2 h.2)
  · rw [c_ltF h1]; exact c8 (fun h => h1 h.1)

theorem pg_c4 (a b : List UInt8) (ha : a.length ≤ 100) (hb : b.length ≤ 100) (i m : Int) {d u : Int} (hd : InS d) (hu : InS u) (was : Int) :
    show_postgres_c4 a b i m d u was = some (.str (addW (addW (addW a b) (unitB d dayN was)) (timeB u (nextW d was)))) := by
  have hn := decI_len d
  have hl := unitB_len d dayN was (by decide)
  rw [show_postgres_c4_eq]
  by_cases h0 : d = 0
  · rw [c_eqT h0, pg_c5 a b [] ha hb (by simp) i m d hu was]
    unfold unitB nextW
    rw [if_pos h0, if_pos h0]
  · rw [c_eqF h0, number_s hd]
    have hw : nextW d was = d := if_neg h0
    rw [hw]
    have fin : ∀ p q : List UInt8, unitB d dayN was = p ++ (decI d ++ (32 :: (dayN ++ q))) → p.length ≤ 10 → q.length ≤ 10 →
        ((some (PV.str (decI d))).bind fun v => (show_join [.str p, .str v.toS, .str [32], .str [100, 97, 121], .str q]).bind fun w => show_postgres_c5 a b w.toS i m d u d) =
          some (.str (addW (addW (addW a b) (unitB d dayN was)) (timeB u d))) := by
      intro p q h hp hq
      simp only [Option.bind_some, toS_str]
      have := unit_join p (decI d) dayN q hp (by omega) (by decide) hq
      unfold dayN at this
      rw [this]
      simp only [Option.bind_some, toS_str]
      rw [h] at hl ⊢
      exact pg_c5 a b _ ha hb (by unfold dayN at hl; omega) i m d hu d
    have hu' : unitB d dayN was = (if was < 0 ∧ 0 < d then [43] else []) ++ (decI d ++ (32 :: (dayN ++ (if d = 1 then [] else [115])))) := if_neg h0
    by_cases h1 : was < 0
    · rw [c_ltT h1]
      by_cases h2 : 0 < d
      · rw [c_ltT h2]
        rw [if_pos ⟨h1, h2⟩] at hu'
        by_cases h3 : d = 1
        · rw [c_eqT h3]; rw [if_pos h3] at hu'; exact fin _ _ hu' (by simp) (by simp)
        · rw [c_eqF h3]; rw [if_neg h3] at hu'; exact fin _ _ hu' (by simp) (by simp)
      · rw [c_ltF h2]
        rw [if_neg (fun h => h2 h.2)] at hu'
        by_cases h3 : d = 1
        · rw [c_eqT h3]; rw [if_pos h3] at hu'; exact fin _ _ hu' (by simp) (by simp)
        · rw [c_eqF h3]; rw [if_neg h3] at hu'; exact fin _ _ hu' (by simp) (by simp)
    · rw [c_ltF h1]
      rw [if_neg (fun h => h1 h.1)] at hu'
      by_cases h3 : d = 1
      · rw [c_eqT h3]; rw [if_pos h3] at hu'; exact fin _ _ hu' (by simp) (by simp)
      · rw [c_eqF h3]; rw [if_neg h3] at hu'; exact fin _ _ hu' (by simp) (by simp)

theorem tmod12 (m : Int) : InS (m.tmod 12) := by
  have := Int.lt_tmod_of_pos m (show (0 : Int) < 12 by omega)
  have := Int.tmod_lt_of_pos m (show (0 : Int) < 12 by omega)
  exact ⟨by omega, by omega⟩

theorem pg_c3 (a : List UInt8) (ha : a.length ≤ 50) (i m : Int) {d u : Int} (hd : InS d) (hu : InS u) (was : Int) :
    show_postgres_c3 a i m d u was = some (.str (addW (addW (addW a (unitB (m.tmod 12) monN was)) (unitB d dayN (nextW (m.tmod 12) was))) (timeB u (nextW d (nextW (m.tmod 12) was))))) := by
  have hr := tmod12 m
  have hn := decI_len (m.tmod 12)
  have hl := unitB_len (m.tmod 12) monN was (by decide)
  rw [show_postgres_c3_eq]
  by_cases h0 : m.tmod 12 = 0
  · rw [c_eqT h0, pg_c4 a [] (by omega) (by simp) i m hd hu was]
    unfold unitB nextW
    rw [if_pos h0, if_pos h0]
  · rw [c_eqF h0, number_s hr]
    have hw : nextW (m.tmod 12) was = m.tmod 12 := if_neg h0
    rw [hw]
    have fin : ∀ p q : List UInt8, unitB (m.tmod 12) monN was = p ++ (decI (m.tmod 12) ++ (32 :: (monN ++ q))) → p.length ≤ 10 → q.length ≤ 10 →
        ((some (PV.str (decI (m.tmod 12)))).bind fun v => (show_join [.str p, .str v.toS, .str [32], .str [109, 111, 110], .str q]).bind fun w => show_postgres_c4 a w.toS i m d u (m.tmod 12)) =
          some (.str (addW (addW (addW a (unitB (m.tmod 12) monN was)) (unitB d dayN (m.tmod 12))) (timeB u (nextW d (m.tmod 12))))) := by
      intro p q h hp hq
      simp only [Option.bind_some, toS_str]
      have := unit_join p (decI (m.tmod 12)) monN q hp (by omega) (by decide) hq
      unfold monN at this
      rw [this]
      simp only [Option.bind_some, toS_str]
      rw [h] at hl ⊢
      exact pg_c4 a _ (by omega) (by unfold monN at hl; omega) i m hd hu (m.tmod 12)
    have hu' : unitB (m.tmod 12) monN was = (if was < 0 ∧ 0 < m.tmod 12 then [43] else []) ++ (decI (m.tmod 12) ++ (32 :: (monN ++ (if m.tmod 12 = 1 then [] else [115])))) := if_neg h0
    by_cases h1 : was < 0
    · rw [c_ltT h1]
      by_cases h2 : 0 < m.tmod 12
      · rw [c_ltT h2]
        rw [if_pos ⟨h1, h2⟩] at hu'
        by_cases h3 : m.tmod 12 = 1
        · rw [c_eqT h3]; rw [if_pos h3] at hu'; exact fin _ _ hu' (by simp) (by simp)
        · rw [c_eqF h3]; rw [if_neg h3] at hu'; exact fin _ _ hu' (by simp) (by simp)
      · rw [c_ltF h2]
        rw [if_neg (fun h => h2 h.2)] at hu'
        by_cases h3 : m.tmod 12 = 1
        · rw [c_eqT h3]; rw [if_pos h3] at hu'; exact fin _ _ hu' (by simp) (by simp)
        · rw [c_eqF h3]; rw [if_neg h3] at hu'; exact fin _ _ hu' (by simp) (by simp)
    · rw [c_ltF h1]
      rw [if_neg (fun h => h1 h.1)] at hu'
      by_cases h3 : m.tmod 12 = 1
      · rw [c_eqT h3]; rw [if_pos h3] at hu'; exact fin _ _ hu' (by simp) (by simp)
      · rw [c_eqF h3]; rw [if_neg h3] at hu'; exact fin _ _ hu' (by simp) (by simp)

theorem tdiv12 {m : Int} (h : -2147483647 ≤ m ∧ m ≤ 2147483647) : -2147483647 ≤ m.tdiv 12 ∧ m.tdiv 12 ≤ 2147483647 := by
  rcases Int.lt_or_le m 0 with h0 | h0
  · have : m.tdiv 12 = -((-m).tdiv 12) := by rw [Int.neg_tdiv]; omega
    rw [this, Int.tdiv_eq_ediv_of_nonneg (show 0 ≤ -m by omega)]
    omega
  · rw [Int.tdiv_eq_ediv_of_nonneg h0]; omega

def pgB (m d u : Int) : List UInt8 :=
  addW (addW (addW (unitB (m.tdiv 12) yearN 0) (unitB (m.tmod 12) monN (m.tdiv 12))) (unitB d dayN (nextW (m.tmod 12) (m.tdiv 12)))) (timeB u (nextW d (nextW (m.tmod 12) (m.tdiv 12))))

theorem postgres_s (i : Int) {m d u : Int} (hm : -2147483647 ≤ m ∧ m ≤ 2147483647) (hd : InS d) (hu : InS u) : show_postgres i m d u = some (.str (pgB m d u)) := by
  have hy := tdiv12 hm
  have hn := decI_len (m.tdiv 12)
  have hl := unitB_len (m.tdiv 12) yearN 0 (by decide)
  rw [show_postgres_eq, w64 (by omega) (by omega)]
  unfold pgB
  by_cases h0 : m.tdiv 12 = 0
  · rw [c_eqT h0, pg_c3 [] (by simp) i m hd hu 0, h0]
    unfold unitB
    rw [if_pos rfl]
  · rw [c_eqF h0, number_s (by exact ⟨by omega, by omega⟩)]
    have fin : ∀ q : List UInt8, unitB (m.tdiv 12) yearN 0 = [] ++ (decI (m.tdiv 12) ++ (32 :: (yearN ++ q))) → q.length ≤ 10 →
        ((some (PV.str (decI (m.tdiv 12)))).bind fun v => (show_join [.str [], .str v.toS, .str [32], .str [121, 101, 97, 114], .str q]).bind fun w => show_postgres_c3 w.toS i m d u (m.tdiv 12)) =
          some (.str (addW (addW (addW (unitB (m.tdiv 12) yearN 0) (unitB (m.tmod 12) monN (m.tdiv 12))) (unitB d dayN (nextW (m.tmod 12) (m.tdiv 12)))) (timeB u (nextW d (nextW (m.tmod 12) (m.tdiv 12)))))) := by
      intro q h hq
      simp only [Option.bind_some, toS_str]
      have := unit_join [] (decI (m.tdiv 12)) yearN q (by simp) (by omega) (by decide) hq
      unfold yearN at this
      rw [this]
      simp only [Option.bind_some, toS_str]
      rw [h] at hl ⊢
      exact pg_c3 _ (by unfold yearN at hl; omega) i m hd hu (m.tdiv 12)
    have hu' : unitB (m.tdiv 12) yearN 0 = (if (0 : Int) < 0 ∧ 0 < m.tdiv 12 then [43] else []) ++ (decI (m.tdiv 12) ++ (32 :: (yearN ++ (if m.tdiv 12 = 1 then [] else [115])))) := if_neg h0
    rw [if_neg (by omega)] at hu'
    by_cases h3 : m.tdiv 12 = 1
    · rw [c_eqT h3]; rw [if_pos h3] at hu'; exact fin _ hu' (by simp)
    · rw [c_eqF h3]; rw [if_neg h3] at hu'; exact fin _ hu' (by simp)

/-! ### the reference's -/
theorem runit_s {n : Int} (hn : InS n) (h0 : n ≠ 0) (name : List UInt8) (hname : name.length ≤ 10) (was : Int) : computusref19_unit n name was = some (.str (unitB n name was)) := by
  have hl := decI_len n
  rw [computusref19_unit_eq, rdigits_s (by omega) (by omega)]
  simp only [Option.bind_some, toS_str]
  rw [catS_ok (by simp; omega)]
  simp only [Option.bind_some]
  rw [catS_ok (by simp; omega)]
  simp only [Option.bind_some]
  have c4 : ∀ q : List UInt8, q.length ≤ 10 → (if n = 1 then [] else [115]) = q → computusref19_unit_c4 n was (decI n ++ [32] ++ name ++ q) = some (.str (unitB n name was)) := by
    intro q hq hqq
    have hu : unitB n name was = (if was < 0 ∧ 0 < n then [43] else []) ++ (decI n ++ (32 :: (name ++ q))) := by rw [← hqq]; exact if_neg h0
    rw [computusref19_unit_c4_eq, hu]
    by_cases h1 : was < 0
    · rw [c_ltT h1]
      by_cases h2 : 0 < n
      · rw [c_ltT h2, if_pos ⟨h1, h2⟩, catS_ok (by simp; omega)]; simp
      · rw [c_ltF h2, if_neg (fun h => h2 h.2)]; simp
    · rw [c_ltF h1, if_neg (fun h => h1 h.1)]; simp
  by_cases h3 : n = 1
  · rw [c_not, c_eqT h3]
    have := c4 [] (by simp) (if_pos h3)
    rw [List.append_nil] at this
    exact this
  · rw [c_not, c_eqF h3, catS_ok (by simp; omega)]
    simp only [Option.bind_some]
    exact c4 [115] (by simp) (if_neg h3)

theorem unitB_nil {n : Int} (name : List UInt8) (was : Int) : unitB n name was = [] ↔ n = 0 := by
  unfold unitB
  constructor
  · intro h
    by_cases h0 : n = 0
    · exact h0
    · rw [if_neg h0] at h
      have := congrArg List.length h
      simp at this
  · intro h; rw [if_pos h]
theorem addW_nilr (t : List UInt8) : addW t [] = t := by unfold addW; rw [if_pos rfl]
theorem addW_nil {a b : List UInt8} : addW a b = [] ↔ a = [] ∧ b = [] := by
  unfold addW
  by_cases h1 : b = [] <;> by_cases h2 : a = [] <;> simp [h1, h2]
theorem addW_len (a b : List UInt8) : (addW a b).length ≤ a.length + b.length + 1 := by
  unfold addW
  split
  · omega
  · split
    · omega
    · simp; omega
theorem timeB_nil {u was : Int} : timeB u was = [] ↔ u = 0 ∧ was ≠ 0 := by
  have hl : longI u ≠ [] := by
    have : ∀ t, textN t ≠ [] := by
      intro t h
      have := congrArg List.length h
      simp [textN] at this
    unfold longI
    split
    · simp
    · exact this _
  unfold timeB
  split
  · constructor
    · intro h; simp at h
    · intro h; omega
  · split
    · rename_i h
      constructor
      · intro h'; exact absurd h' hl
      · intro h'; omega
    · rename_i h
      constructor
      · intro _; omega
      · intro _; rfl

theorem rpg_c15 (x : List UInt8) (hx : x.length ≤ 500) (was a b c : Int) {u : Int} (hu : InS u) (h : timeB u was ≠ []) : computusref19_postgres_c15 x was a b c u = some (.str (addW x (timeB u was))) := by
  have hl := longI_len u
  have c17 : ∀ y : List UInt8, y.length ≤ 600 → computusref19_postgres_c17 y was a b c u = some (.str (y ++ timeB u was)) := by
    intro y hy
    have hnn : ¬ (u = 0 ∧ was ≠ 0) := fun h' => h (timeB_nil.2 h')
    rw [computusref19_postgres_c17_eq, rlong_s (by omega) (by omega)]
    unfold timeB
    by_cases h1 : was < 0
    · rw [c_ltT h1]
      by_cases h2 : 0 < u
      · rw [c_ltT h2, if_pos ⟨h2, h1⟩, catS_ok (by simp; omega)]
        simp only [Option.bind_some, toS_str]
        rw [catS_ok (by simp; omega)]
        simp
      · rw [c_ltF h2, if_neg (fun h => h2 h.1), if_pos (by omega)]
        simp only [Option.bind_some, toS_str]
        rw [catS_ok (by omega)]
        rfl
    · rw [c_ltF h1, if_neg (fun h => h1 h.2), if_pos (by omega)]
      simp only [Option.bind_some, toS_str]
      rw [catS_ok (by omega)]
      rfl
  rw [computusref19_postgres_c15_eq]
  unfold addW
  rw [if_neg h]
  by_cases hx0 : x = []
  · rw [c_not, c_eqsT hx0, c17 x (by omega), if_pos hx0, hx0]; rfl
  · rw [c_not, c_eqsF hx0, catS_ok (by simp; omega), if_neg hx0]
    simp only [Option.bind_some]
    rw [c17 _ (by simp; omega)]
    simp

theorem rpg_c6 (x : List UInt8) (hx : x.length ≤ 500) (was : Int) (k : Nat) (hk : k < 3) (a b c : Int) {u : Int} (ns : List Int) (hns : ns.length = 3) (names : List (List UInt8)) (hnames : names.length = 3) (hnl : ∀ s ∈ names, s.length ≤ 10)
    (hin : ∀ n ∈ ns, InS n) (n : Int) (name : List UInt8) (h1 : ns[k]? = some n) (h2 : names[k]? = some name) (y z : Nat) :
    computusref19_postgres_c6 x was (k : Int) a b c u (ns.map (PV.int .i64)) y (names.map PV.str) z =
      computusref19_postgres_c6 (addW x (unitB n name was)) (nextW n was) ((k + 1 : Nat) : Int) a b c u (ns.map (PV.int .i64)) y (names.map PV.str) z := by
  have hn : InS n := hin n (List.mem_of_getElem? h1)
  have hnm : name.length ≤ 10 := hnl name (List.mem_of_getElem? h2)
  have hul := unitB_len n name was hnm
  have e1 : IntKind.i64.wrap ((k : Int) + 1) = ((k + 1 : Nat) : Int) := by rw [w64 (by omega) (by omega)]; omega
  have r1 : rdT (tiInt .i64) (ns.map (PV.int .i64)) k 0 = some (.int .i64 n) := by unfold rdT; rw [List.getElem?_map, h1]; rfl
  rw [computusref19_postgres_c6_eq, c_ltT (by omega), c_inT (by simp; omega), Int.toNat_natCast, r1]
  simp only [Option.bind_some, toI_int]
  by_cases h0 : n = 0
  · rw [c_eqT h0, computusref19_postgres_c7_eq, e1]
    have hu : unitB n name was = [] := (unitB_nil name was).2 h0
    rw [hu]
    unfold addW nextW
    rw [if_pos rfl, if_pos h0]
  · have c11 : ∀ t : List UInt8, t.length ≤ 600 → computusref19_postgres_c11 t was (k : Int) a b c u (ns.map (PV.int .i64)) y (names.map PV.str) z =
        computusref19_postgres_c6 (t ++ unitB n name was) n ((k + 1 : Nat) : Int) a b c u (ns.map (PV.int .i64)) y (names.map PV.str) z := by
      intro t ht
      rw [computusref19_postgres_c11_eq, c_inT (by simp; omega), Int.toNat_natCast, r1]
      simp only [Option.bind_some, toI_int]
      rw [c_inT (by simp; omega), rdT_str h2]
      simp only [Option.bind_some, toS_str]
      rw [runit_s hn h0 name hnm was]
      simp only [Option.bind_some, toS_str]
      rw [catS_ok (by omega)]
      simp only [Option.bind_some]
      rw [c_inT (by simp; omega), computusref19_postgres_c7_eq, e1]
    have hu : unitB n name was ≠ [] := fun h => h0 ((unitB_nil name was).1 h)
    have hw : nextW n was = n := if_neg h0
    rw [c_eqF h0, hw]
    unfold addW
    rw [if_neg hu]
    by_cases hx0 : x = []
    · rw [c_not, c_eqsT hx0, c11 x (by omega), if_pos hx0, hx0]; rfl
    · rw [c_not, c_eqsF hx0, catS_ok (by simp; omega), if_neg hx0]
      simp only [Option.bind_some]
      rw [c11 _ (by simp; omega)]
      simp

theorem rpostgres_s (i : Int) {m d u : Int} (hm : -2147483647 ≤ m ∧ m ≤ 2147483647) (hd : InS d) (hu : InS u) : computusref19_postgres i m d u = some (.str (pgB m d u)) := by
  have hy := tdiv12 hm
  have hr := tmod12 m
  have l1 := unitB_len (m.tdiv 12) yearN 0 (by decide)
  have l2 := unitB_len (m.tmod 12) monN (m.tdiv 12) (by decide)
  have l3 := unitB_len d dayN (nextW (m.tmod 12) (m.tdiv 12)) (by decide)
  have a1 := addW_len [] (unitB (m.tdiv 12) yearN 0)
  have a2 := addW_len (unitB (m.tdiv 12) yearN 0) (unitB (m.tmod 12) monN (m.tdiv 12))
  have a3 := addW_len (addW (unitB (m.tdiv 12) yearN 0) (unitB (m.tmod 12) monN (m.tdiv 12))) (unitB d dayN (nextW (m.tmod 12) (m.tdiv 12)))
  have n0 : addW [] (unitB (m.tdiv 12) yearN 0) = unitB (m.tdiv 12) yearN 0 := by
    unfold addW
    split
    · rename_i h; exact h.symm
    · rw [if_pos rfl]
  have w0 : nextW (m.tdiv 12) 0 = m.tdiv 12 := by unfold nextW; split <;> omega
  rw [computusref19_postgres_eq, w64 (by omega) (by omega)]
  have hin : ∀ n ∈ [m.tdiv 12, m.tmod 12, d], InS n := by
    intro n hn
    simp at hn
    rcases hn with rfl | rfl | rfl
    · exact ⟨by omega, by omega⟩
    · exact hr
    · exact hd
  have hnl : ∀ s ∈ [yearN, monN, dayN], s.length ≤ 10 := by decide
  have s1 := rpg_c6 [] (by simp) 0 0 (by omega) i m d (u := u) [m.tdiv 12, m.tmod 12, d] rfl [yearN, monN, dayN] rfl hnl hin _ _ rfl rfl 3 3
  have s2 := rpg_c6 (unitB (m.tdiv 12) yearN 0) (by omega) (m.tdiv 12) 1 (by omega) i m d (u := u) [m.tdiv 12, m.tmod 12, d] rfl [yearN, monN, dayN] rfl hnl hin _ _ rfl rfl 3 3
  have s3 := rpg_c6 (addW (unitB (m.tdiv 12) yearN 0) (unitB (m.tmod 12) monN (m.tdiv 12))) (by omega) (nextW (m.tmod 12) (m.tdiv 12)) 2 (by omega) i m d (u := u) [m.tdiv 12, m.tmod 12, d] rfl [yearN, monN, dayN] rfl hnl hin _ _ rfl rfl 3 3
  rw [n0, w0] at s1
  simp only [List.map_cons, List.map_nil] at s1 s2 s3
  refine (s1.trans (s2.trans s3)).trans ?_
  rw [computusref19_postgres_c6_eq, c_ltF (by omega)]
  have ht := timeB_len u (nextW d (nextW (m.tmod 12) (m.tdiv 12)))
  have hz : addW (addW (unitB (m.tdiv 12) yearN 0) (unitB (m.tmod 12) monN (m.tdiv 12))) (unitB d dayN (nextW (m.tmod 12) (m.tdiv 12))) = [] ↔ nextW d (nextW (m.tmod 12) (m.tdiv 12)) = 0 := by
    rw [addW_nil, addW_nil, unitB_nil, unitB_nil, unitB_nil]
    unfold nextW
    by_cases h1 : d = 0 <;> by_cases h2 : m.tmod 12 = 0 <;> simp [h1, h2]
  unfold pgB
  by_cases hn : timeB u (nextW d (nextW (m.tmod 12) (m.tdiv 12))) = []
  · obtain ⟨hu0, hw⟩ := timeB_nil.1 hn
    have hne : ¬ addW (addW (unitB (m.tdiv 12) yearN 0) (unitB (m.tmod 12) monN (m.tdiv 12))) (unitB d dayN (nextW (m.tmod 12) (m.tdiv 12))) = [] := fun h => hw (hz.1 h)
    rw [c_eqT hu0, c_not, c_eqsF hne, computusref19_postgres_c14_eq, hn, addW_nilr]
  · have c15 := rpg_c15 _ (show (addW (addW (unitB (m.tdiv 12) yearN 0) (unitB (m.tmod 12) monN (m.tdiv 12))) (unitB d dayN (nextW (m.tmod 12) (m.tdiv 12)))).length ≤ 500 by omega) _ i m d hu hn
    by_cases hu0 : u = 0
    · have hw : nextW d (nextW (m.tmod 12) (m.tdiv 12)) = 0 := by
        by_cases h : nextW d (nextW (m.tmod 12) (m.tdiv 12)) = 0
        · exact h
        · exact absurd (timeB_nil.2 ⟨hu0, h⟩) hn
      rw [c_eqT hu0, c_not, c_eqsT (hz.2 hw)]
      exact c15
    · rw [c_eqF hu0]
      exact c15
end Dv

/- Intervals as texts: three words, letters; the law. -/
namespace Dv
open Go

/-! ### a number and its sign -/
theorem nat_or (u : Int) : ∃ n : Nat, (u = (n : Int) ∧ 0 ≤ u) ∨ (u = -(n : Int) ∧ u < 0) := by
  rcases Int.lt_or_le u 0 with h | h
  · exact ⟨(-u).toNat, .inr ⟨by omega, h⟩⟩
  · exact ⟨u.toNat, .inl ⟨by omega, h⟩⟩
theorem tdiv_neg (n k : Nat) : Int.tdiv (-(n : Int)) (k : Int) = -((n / k : Nat) : Int) := by rw [Int.neg_tdiv, tdivN]
theorem tmod_neg (n k : Nat) : Int.tmod (-(n : Int)) (k : Int) = -((n % k : Nat) : Int) := by rw [Int.neg_tmod, tmodN]

/-! ### strings.Cut at the first colon -/
theorem extIB : findExt fn_bytealg_IndexByteString EE.ext = some extIndexByte := by kernel_rfl
theorem sIndexByte_s (s : List UInt8) (c : UInt8) : stringslite_IndexByte s (c.toNat : Int) = some (.int .i64 (Lib.indexByte s c)) := by
  rw [stringslite_IndexByte_eq, callW_ext EE _ _ _ extIB]
  have e : extIndexByte [.str s, .int .u8 (c.toNat : Int)] = some (.int .i64 (Lib.indexByte s c)) := by
    unfold extIndexByte
    simp
  rw [e]; rfl
theorem cut_two (r : List UInt8) : strings_Cut (48 :: 48 :: 58 :: r) [58] = some (.tuple [.str [48, 48], .str r, .bool true]) := by
  have hi : Lib.indexByte (48 :: 48 :: 58 :: r) 58 = 2 := by simp [Lib.indexByte]
  have e1 : (((List.length [(58 : UInt8)] : Nat)) : Int) = 1 := rfl
  have e2 : IntKind.i64.wrap (2 + 1) = 3 := by decide
  have hc := sIndexByte_s (48 :: 48 :: 58 :: r) 58
  rw [show (((58 : UInt8).toNat : Nat) : Int) = 58 from rfl] at hc
  have hidx : stringslite_Index (48 :: 48 :: 58 :: r) [58] = some (.int .i64 2) := by
    rw [stringslite_Index_eq, e1, c_eqF (by omega), c_eqsF (by simp), stringslite_Index_c4_eq, c_eqT rfl, atS_z (c := 58) rfl]
    simp only [Option.bind_some]
    rw [show (((58 : UInt8).toNat : Nat) : Int) = 58 from rfl, hc, hi]
    rfl
  have ht : takeS (48 :: 48 :: 58 :: r) 2 = some [48, 48] := by rw [takeS_ok (by omega) (by simp; omega)]; rfl
  have hd : dropS (48 :: 48 :: 58 :: r) 3 = some r := by rw [dropS_ok (by omega) (by simp; omega)]; rfl
  rw [strings_Cut_eq, stringslite_Cut_eq, hidx]
  simp only [Option.bind_some, toI_int]
  rw [c_leT (by omega), ht, e1, e2]
  simp only [Option.bind_some]
  rw [hd]
  rfl

theorem trimP_minus : strings_TrimPrefix [45] [43] = some (.str [45]) := by
  have ht : takeS [(45 : UInt8)] 1 = some [45] := rfl
  have e1 : (((List.length [(43 : UInt8)] : Nat)) : Int) = 1 := rfl
  have e2 : (((List.length [(45 : UInt8)] : Nat)) : Int) = 1 := rfl
  rw [strings_TrimPrefix_eq, stringslite_TrimPrefix_eq, stringslite_HasPrefix_eq, e1, e2, c_leT (by omega), ht]
  rfl
theorem trimP_plus : strings_TrimPrefix [43] [43] = some (.str []) := by
  have ht : takeS [(43 : UInt8)] 1 = some [43] := rfl
  have e1 : (((List.length [(43 : UInt8)] : Nat)) : Int) = 1 := rfl
  have hd : dropS [(43 : UInt8)] 1 = some [] := rfl
  rw [strings_TrimPrefix_eq, stringslite_TrimPrefix_eq, stringslite_HasPrefix_eq, e1, c_leT (by omega), ht]
  simp only [Option.bind_some, toB_bool]
  have : eqS [(43 : UInt8)] [43] = true := rfl
  rw [this, cond_true, hd]
  rfl

/-! ### three words -/
def clockN (n : Nat) : List UInt8 := digN (n / 3600000000) ++ (58 :: (twoN (n / 60000000 % 60) ++ (58 :: (twoN (n / 1000000 % 60) ++ fracN (n % 1000000)))))
def wordsB (m d u : Int) : List UInt8 :=
  sgnB m ++ (digN ((absI m).toNat / 12) ++ (45 :: (digN ((absI m).toNat % 12) ++ (32 :: (sgnB d ++ (digN (absI d).toNat ++ (32 :: (sgnB u ++ clockN (absI u).toNat))))))))

theorem absI_nat {a : Int} (h : InS a) : absI a = (((absI a).toNat : Nat) : Int) := by have := absI_rng h; omega

theorem long_zero {t : Nat} (ht : t < 3600000000) : clock_Long (t : Int) = some (.str (48 :: 48 :: 58 :: (twoN (t / 60000000 % 60) ++ (58 :: (twoN (t / 1000000 % 60) ++ fracN (t % 1000000)))))) := by
  rw [long_s (by omega) (by omega)]
  unfold longI
  rw [if_neg (by omega), Int.toNat_natCast]
  unfold textN
  have : t / 3600000000 = 0 := by omega
  rw [this]
  rfl

theorem sql_s (i : Int) {m d u : Int} (hm : InS m) (hd : InS d) (hu : InS u) : show_sql i m d u = some (.str (wordsB m d u)) := by
  have rm := absI_rng hm
  have rd := absI_rng hd
  have ru := absI_rng hu
  have em := absI_nat hm
  have ed := absI_nat hd
  have eu := absI_nat hu
  have k1 := sgnB_len m
  have k2 := sgnB_len d
  have k3 := sgnB_len u
  have g1 := digN_len ((absI m).toNat / 12)
  have g2 := digN_len ((absI m).toNat % 12)
  have g3 := digN_len (absI d).toNat
  have g4 := digN_len ((absI u).toNat / 3600000000)
  have g5 := twoN_len ((absI u).toNat / 60000000 % 60)
  have g6 := twoN_len ((absI u).toNat / 1000000 % 60)
  have g7 := fracN_len ((absI u).toNat % 1000000)
  rw [show_sql_eq, signed_s hm, signed_s hd, signed_s hu]
  simp only [Option.bind_some, tn0, tn1, toI_int, toS_str]
  unfold wordsB clockN
  rw [em, ed, eu]
  generalize (absI m).toNat = a at *
  generalize (absI d).toNat = b at *
  generalize (absI u).toNat = n at *
  have q1 : Int.tmod (n : Int) 3600000000 = ((n % 3600000000 : Nat) : Int) := tmodN n 3600000000
  have q2 : IntKind.i64.wrap (Int.tdiv (a : Int) 12) = ((a / 12 : Nat) : Int) := by
    have := tdivN a 12
    rw [show ((12 : Nat) : Int) = 12 from rfl] at this
    rw [this, w64 (by omega) (by omega)]
  have q3 : Int.tmod (a : Int) 12 = ((a % 12 : Nat) : Int) := tmodN a 12
  have q4 : IntKind.i64.wrap (Int.tdiv (n : Int) 3600000000) = ((n / 3600000000 : Nat) : Int) := by
    have := tdivN n 3600000000
    rw [show ((3600000000 : Nat) : Int) = 3600000000 from rfl] at this
    rw [this, w64 (by omega) (by omega)]
  have p1 : n % 3600000000 / 60000000 % 60 = n / 60000000 % 60 := by omega
  have p2 : n % 3600000000 / 1000000 % 60 = n / 1000000 % 60 := by omega
  have p3 : n % 3600000000 % 1000000 = n % 1000000 := by omega
  rw [q1, q2, q3, q4, long_zero (by omega), p1, p2, p3]
  simp only [Option.bind_some, toS_str]
  rw [cut_two, sdigits_s (by omega) (by omega), sdigits_s (by omega) (by omega), sdigits_s (by omega) (by omega), sdigits_s (by omega) (by omega)]
  simp only [Option.bind_some, toS_str, tn1, Int.toNat_natCast]
  have j1 := join_s [sgnB m, digN (a / 12), [45], digN (a % 12)] (by simp) (by simp [totL]; omega)
  have j2 := join_s [sgnB d, digN b] (by simp) (by simp [totL]; omega)
  have j3 := join_s [sgnB u, digN (n / 3600000000), [58], twoN (n / 60000000 % 60) ++ (58 :: (twoN (n / 1000000 % 60) ++ fracN (n % 1000000)))] (by simp) (by simp [totL]; omega)
  simp only [List.map_cons, List.map_nil] at j1 j2 j3
  rw [j1, j2, j3]
  simp only [Option.bind_some, toS_str]
  have ne : ∀ (x : Int) (r : List UInt8), eqS (sgnB x ++ r) [] = false := by
    intro x r
    unfold sgnB
    split <;> rfl
  have bt := between_s [32] (by simp) [[sgnB m, digN (a / 12), [45], digN (a % 12)].flatten, [sgnB d, digN b].flatten, [sgnB u, digN (n / 3600000000), [58], twoN (n / 60000000 % 60) ++ (58 :: (twoN (n / 1000000 % 60) ++ fracN (n % 1000000)))].flatten] (by simp) (by simp [totL]; omega)
  simp only [List.map_cons, List.map_nil] at bt
  rw [bt]
  have hf : fullL [[sgnB m, digN (a / 12), [45], digN (a % 12)].flatten, [sgnB d, digN b].flatten, [sgnB u, digN (n / 3600000000), [58], twoN (n / 60000000 % 60) ++ (58 :: (twoN (n / 1000000 % 60) ++ fracN (n % 1000000)))].flatten] =
      [[sgnB m, digN (a / 12), [45], digN (a % 12)].flatten, [sgnB d, digN b].flatten, [sgnB u, digN (n / 3600000000), [58], twoN (n / 60000000 % 60) ++ (58 :: (twoN (n / 1000000 % 60) ++ fracN (n % 1000000)))].flatten] := by
    unfold fullL
    rw [List.filter_eq_self]
    intro x hx
    simp only [List.mem_cons, List.not_mem_nil, or_false] at hx
    rcases hx with rfl | rfl | rfl <;> rw [List.flatten_cons, ne] <;> rfl
  rw [hf]
  simp [joinB, PV.toS]

theorem rsql_s (i : Int) {m d u : Int} (hm : InS m) (hd : InS d) (hu : InS u) : computusref19_sql i m d u = some (.str (wordsB m d u)) := by
  have rm := absI_rng hm
  have rd := absI_rng hd
  have ru := absI_rng hu
  have em := absI_nat hm
  have ed := absI_nat hd
  have eu := absI_nat hu
  have k1 := sgnB_len m
  have k2 := sgnB_len d
  have k3 := sgnB_len u
  have g1 := digN_len ((absI m).toNat / 12)
  have g2 := digN_len ((absI m).toNat % 12)
  have g3 := digN_len (absI d).toNat
  have g4 := digN_len ((absI u).toNat / 3600000000)
  have g5 := twoN_len ((absI u).toNat / 60000000 % 60)
  have g6 := twoN_len ((absI u).toNat / 1000000 % 60)
  have g7 := fracN_len ((absI u).toNat % 1000000)
  rw [computusref19_sql_eq, size_s hm, size_s hd, size_s hu]
  simp only [Option.bind_some, tn0, tn1, toI_int, toS_str]
  unfold wordsB clockN
  rw [em, ed, eu]
  generalize (absI m).toNat = a at *
  generalize (absI d).toNat = b at *
  generalize (absI u).toNat = n at *
  have q2 : IntKind.i64.wrap (Int.tdiv (a : Int) 12) = ((a / 12 : Nat) : Int) := by
    have := tdivN a 12
    rw [show ((12 : Nat) : Int) = 12 from rfl] at this
    rw [this, w64 (by omega) (by omega)]
  have q3 : Int.tmod (a : Int) 12 = ((a % 12 : Nat) : Int) := tmodN a 12
  have q5 : IntKind.i64.wrap (Int.tdiv (n : Int) 1000000) = ((n / 1000000 : Nat) : Int) := by
    have := tdivN n 1000000
    rw [show ((1000000 : Nat) : Int) = 1000000 from rfl] at this
    rw [this, w64 (by omega) (by omega)]
  have q6 : IntKind.i64.wrap (Int.tdiv ((n / 1000000 : Nat) : Int) 3600) = ((n / 3600000000 : Nat) : Int) := by
    have := tdivN (n / 1000000) 3600
    rw [show ((3600 : Nat) : Int) = 3600 from rfl] at this
    rw [this, w64 (by omega) (by omega), Nat.div_div_eq_div_mul]
  have q7 : Int.tmod (IntKind.i64.wrap (Int.tdiv ((n / 1000000 : Nat) : Int) 60)) 60 = ((n / 60000000 % 60 : Nat) : Int) := by
    have := tdivN (n / 1000000) 60
    rw [show ((60 : Nat) : Int) = 60 from rfl] at this
    rw [this, w64 (by omega) (by omega), Nat.div_div_eq_div_mul]
    exact tmodN _ 60
  have q8 : Int.tmod ((n / 1000000 : Nat) : Int) 60 = ((n / 1000000 % 60 : Nat) : Int) := tmodN _ 60
  have q9 : Int.tmod (n : Int) 1000000 = ((n % 1000000 : Nat) : Int) := tmodN _ 1000000
  have dn : ∀ k : Nat, decI (k : Int) = digN k := fun k => by unfold decI; rw [if_neg (by omega), Int.toNat_natCast]
  rw [q2, q3, q5, q6, q7, q8, q9, rdigits_s (by omega) (by omega), rdigits_s (by omega) (by omega), rdigits_s (by omega) (by omega), rdigits_s (by omega) (by omega), rtwo_s (by omega) (by omega), rtwo_s (by omega) (by omega), rfrac_s (by omega) (by omega)]
  simp only [Option.bind_some, toS_str, Int.toNat_natCast, dn]
  rw [catS_ok (by first | omega | (simp; omega))]
  simp only [Option.bind_some]
  rw [catS_ok (by first | omega | (simp; omega))]
  simp only [Option.bind_some]
  rw [catS_ok (by first | omega | (simp; omega))]
  simp only [Option.bind_some]
  rw [catS_ok (by first | omega | (simp; omega))]
  simp only [Option.bind_some]
  rw [catS_ok (by first | omega | (simp; omega))]
  simp only [Option.bind_some]
  rw [catS_ok (by first | omega | (simp; omega))]
  simp only [Option.bind_some]
  rw [catS_ok (by first | omega | (simp; omega))]
  simp only [Option.bind_some]
  rw [catS_ok (by first | omega | (simp; omega))]
  simp only [Option.bind_some]
  rw [catS_ok (by first | omega | (simp; omega))]
  simp only [Option.bind_some]
  rw [catS_ok (by first | omega | (simp; omega))]
  simp only [Option.bind_some]
  rw [catS_ok (by first | omega | (simp; omega))]
  simp only [Option.bind_some]
  rw [catS_ok (by first | omega | (simp; omega))]
  simp only [Option.bind_some]
  rw [catS_ok (by first | omega | (simp; omega))]
  simp only [Option.bind_some]
  rw [catS_ok (by first | omega | (simp; omega))]
  simp only [Option.bind_some]
  simp
end Dv

/- Intervals as texts: letters; fixed calls; the law. -/
namespace Dv
open Go

def partB (n : Int) (c : UInt8) : List UInt8 := if n = 0 then [] else decI n ++ [c]
def secB (u : Int) : List UInt8 := if u = 0 then [] else (if u < 0 then [45] else []) ++ (digN ((absI u).toNat / 1000000) ++ (fracN ((absI u).toNat % 1000000) ++ [83]))
def hourI (u : Int) : Int := u.tdiv 3600000000
def minI' (u : Int) : Int := (u.tmod 3600000000).tdiv 60000000
def isoH (m d : Int) : List UInt8 := 80 :: (partB (m.tdiv 12) 89 ++ (partB (m.tmod 12) 77 ++ partB d 68))
def isoT (m d u : Int) : List UInt8 := if u = 0 then isoH m d else isoH m d ++ (84 :: (partB (hourI u) 72 ++ (partB (minI' u) 77 ++ secB (u.tmod 60000000))))
def isoB (m d u : Int) : List UInt8 := if isoT m d u = [80] then [80, 84, 48, 83] else isoT m d u

theorem partB_len (n : Int) (c : UInt8) : (partB n c).length ≤ 22 := by
  have := decI_len n
  unfold partB
  split
  · simp
  · simp; omega
theorem secB_len (u : Int) : (secB u).length ≤ 43 := by
  have h1 := digN_len ((absI u).toNat / 1000000)
  have h2 := fracN_len ((absI u).toNat % 1000000)
  unfold secB
  split
  · simp
  · split <;> simp <;> omega

theorem letter_s {n : Int} (hn : InS n) (c : UInt8) : show_letter n [c] = some (.str (partB n c)) := by
  have hl := decI_len n
  rw [show_letter_eq]
  unfold partB
  by_cases h : n = 0
  · rw [c_eqT h, if_pos h]
  · rw [c_eqF h, if_neg h, number_s hn]
    simp only [Option.bind_some, toS_str]
    have := join_s [decI n, [c]] (by simp) (by simp [totL]; omega)
    simp only [List.map_cons, List.map_nil] at this
    rw [this]
    simp [PV.toS]
theorem rpart_s {n : Int} (hn : InS n) (c : UInt8) : computusref19_part n [c] = some (.str (partB n c)) := by
  have hl := decI_len n
  rw [computusref19_part_eq]
  unfold partB
  by_cases h : n = 0
  · rw [c_eqT h, if_pos h]
  · rw [c_eqF h, if_neg h, rdigits_s (by omega) (by omega)]
    simp only [Option.bind_some, toS_str]
    rw [catS_ok (by simp; omega)]
    rfl

theorem tmod_rngN {u : Int} {k : Nat} (hk : 0 < k) : -(k : Int) < u.tmod k ∧ u.tmod k < k := by
  exact ⟨Int.lt_tmod_of_pos u (by omega), Int.tmod_lt_of_pos u (by omega)⟩

theorem seconds_s {u : Int} (hu : InS u) : show_seconds u = some (.str (secB u)) := by
  have ru := absI_rng hu
  have eu := absI_nat hu
  have h1 := digN_len ((absI u).toNat / 1000000)
  have h2 := fracN_len ((absI u).toNat % 1000000)
  rw [show_seconds_eq]
  unfold secB
  by_cases h : u = 0
  · rw [c_eqT h, if_pos h]
  · have ht : strings_TrimPrefix (sgnB u) [43] = some (.str (if u < 0 then [45] else [])) := by
      unfold sgnB
      by_cases hs : u < 0
      · rw [if_pos hs, if_pos hs, trimP_minus]
      · rw [if_neg hs, if_neg hs, trimP_plus]
    rw [c_eqF h, if_neg h, signed_s hu]
    simp only [Option.bind_some, tn0, tn1, toS_str, toI_int]
    rw [ht, eu]
    generalize (absI u).toNat = n at *
    have q1 : IntKind.i64.wrap (Int.tdiv (n : Int) 1000000) = ((n / 1000000 : Nat) : Int) := by
      have := tdivN n 1000000
      rw [show ((1000000 : Nat) : Int) = 1000000 from rfl] at this
      rw [this, w64 (by omega) (by omega)]
    have q2 : Int.tmod (n : Int) 1000000 = ((n % 1000000 : Nat) : Int) := tmodN _ 1000000
    rw [q1, q2, sdigits_s (by omega) (by omega), frac_s (by omega) (by omega)]
    simp only [Option.bind_some, toS_str, Int.toNat_natCast]
    have hp : (if u < 0 then [(45 : UInt8)] else []).length ≤ 1 := by split <;> simp
    generalize (if u < 0 then [(45 : UInt8)] else []) = p at hp ⊢
    have := join_s [p, digN (n / 1000000), fracN (n % 1000000), [83]] (by simp) (by simp [totL]; omega)
    simp only [List.map_cons, List.map_nil] at this
    rw [this]
    simp [PV.toS]

theorem iso_parts {u : Int} (hu : InS u) : IntKind.i64.wrap (u.tdiv 3600000000) = hourI u ∧ IntKind.i64.wrap (Int.tdiv (u.tmod 3600000000) 60000000) = minI' u ∧ InS (hourI u) ∧ InS (minI' u) ∧ InS (u.tmod 60000000) ∧
    IntKind.i64.wrap (Int.tdiv (IntKind.i64.wrap (Int.tdiv u 1000000)) 3600) = hourI u ∧ Int.tmod (IntKind.i64.wrap (Int.tdiv (IntKind.i64.wrap (Int.tdiv u 1000000)) 60)) 60 = minI' u := by
  have hs : InS (u.tmod 60000000) := by
    have := tmod_rngN (u := u) (k := 60000000) (by omega)
    rw [show ((60000000 : Nat) : Int) = 60000000 from rfl] at this
    exact ⟨by omega, by omega⟩
  unfold hourI minI'
  obtain ⟨n, ⟨hn, h0⟩ | ⟨hn, h0⟩⟩ := nat_or u
  · subst hn
    have a1 : Int.tdiv (n : Int) 3600000000 = ((n / 3600000000 : Nat) : Int) := tdivN n 3600000000
    have a2 : Int.tmod (n : Int) 3600000000 = ((n % 3600000000 : Nat) : Int) := tmodN n 3600000000
    have a3 : Int.tdiv ((n % 3600000000 : Nat) : Int) 60000000 = ((n % 3600000000 / 60000000 : Nat) : Int) := tdivN _ 60000000
    have a4 : Int.tdiv (n : Int) 1000000 = ((n / 1000000 : Nat) : Int) := tdivN n 1000000
    have a5 : Int.tdiv ((n / 1000000 : Nat) : Int) 3600 = ((n / 1000000 / 3600 : Nat) : Int) := tdivN _ 3600
    have a6 : Int.tdiv ((n / 1000000 : Nat) : Int) 60 = ((n / 1000000 / 60 : Nat) : Int) := tdivN _ 60
    have a7 : Int.tmod ((n / 1000000 / 60 : Nat) : Int) 60 = ((n / 1000000 / 60 % 60 : Nat) : Int) := tmodN _ 60
    rw [a1, a2, a3, a4, w64 (n := ((n / 1000000 : Nat) : Int)) (by omega) (by omega), a5, a6, w64 (n := ((n / 1000000 / 60 : Nat) : Int)) (by omega) (by omega), a7, w64 (by omega) (by omega), w64 (by omega) (by omega), w64 (by omega) (by omega)]
    exact ⟨rfl, rfl, ⟨by omega, by omega⟩, ⟨by omega, by omega⟩, hs, by omega, by omega⟩
  · subst hn
    have a1 : Int.tdiv (-(n : Int)) 3600000000 = -((n / 3600000000 : Nat) : Int) := tdiv_neg n 3600000000
    have a2 : Int.tmod (-(n : Int)) 3600000000 = -((n % 3600000000 : Nat) : Int) := tmod_neg n 3600000000
    have a3 : Int.tdiv (-((n % 3600000000 : Nat) : Int)) 60000000 = -((n % 3600000000 / 60000000 : Nat) : Int) := tdiv_neg _ 60000000
    have a4 : Int.tdiv (-(n : Int)) 1000000 = -((n / 1000000 : Nat) : Int) := tdiv_neg n 1000000
    have a5 : Int.tdiv (-((n / 1000000 : Nat) : Int)) 3600 = -((n / 1000000 / 3600 : Nat) : Int) := tdiv_neg _ 3600
    have a6 : Int.tdiv (-((n / 1000000 : Nat) : Int)) 60 = -((n / 1000000 / 60 : Nat) : Int) := tdiv_neg _ 60
    have a7 : Int.tmod (-((n / 1000000 / 60 : Nat) : Int)) 60 = -((n / 1000000 / 60 % 60 : Nat) : Int) := tmod_neg _ 60
    rw [a1, a2, a3, a4, w64 (n := -((n / 1000000 : Nat) : Int)) (by omega) (by omega), a5, a6, w64 (n := -((n / 1000000 / 60 : Nat) : Int)) (by omega) (by omega), a7, w64 (by omega) (by omega), w64 (by omega) (by omega), w64 (by omega) (by omega)]
    exact ⟨rfl, rfl, ⟨by omega, by omega⟩, ⟨by omega, by omega⟩, hs, by omega, by omega⟩

theorem iso_s (i : Int) {m d u : Int} (hm : -2147483647 ≤ m ∧ m ≤ 2147483647) (hd : InS d) (hu : InS u) : show_iso i m d u = some (.str (isoB m d u)) := by
  have hy := tdiv12 hm
  have hr := tmod12 m
  obtain ⟨p1, p2, p3, p4, p5, _, _⟩ := iso_parts hu
  have l1 := partB_len (m.tdiv 12) 89
  have l2 := partB_len (m.tmod 12) 77
  have l3 := partB_len d 68
  have l4 := partB_len (hourI u) 72
  have l5 := partB_len (minI' u) 77
  have l6 := secB_len (u.tmod 60000000)
  rw [show_iso_eq, w64 (n := m.tdiv 12) (by omega) (by omega), letter_s (n := m.tdiv 12) (by exact ⟨by omega, by omega⟩), letter_s hr, letter_s hd, p1, p2, letter_s p3, letter_s p4, seconds_s p5]
  simp only [Option.bind_some, toS_str]
  have j1 := join_s [[80], partB (m.tdiv 12) 89, partB (m.tmod 12) 77, partB d 68] (by simp) (by simp [totL]; omega)
  simp only [List.map_cons, List.map_nil] at j1
  have e1 : [[80], partB (m.tdiv 12) 89, partB (m.tmod 12) 77, partB d 68].flatten = isoH m d := by simp [isoH]
  have hlen : (isoH m d).length ≤ 70 := by unfold isoH; simp; omega
  rw [j1, e1]
  simp only [Option.bind_some, toS_str]
  unfold isoB isoT
  by_cases h : u = 0
  · rw [c_not, c_eqT h, if_pos h]
    by_cases hq : isoH m d = [80]
    · rw [c_eqsT hq, if_pos hq]
    · rw [c_eqsF hq, if_neg hq]
  · have j2 := join_s [isoH m d, [84], partB (hourI u) 72, partB (minI' u) 77, secB (u.tmod 60000000)] (by simp) (by simp [totL]; omega)
    simp only [List.map_cons, List.map_nil] at j2
    have e2 : [isoH m d, [84], partB (hourI u) 72, partB (minI' u) 77, secB (u.tmod 60000000)].flatten = isoH m d ++ (84 :: (partB (hourI u) 72 ++ (partB (minI' u) 77 ++ secB (u.tmod 60000000)))) := by simp
    rw [c_not, c_eqF h, if_neg h, j2, e2]
    simp only [Option.bind_some, toS_str]
    by_cases hq : isoH m d ++ (84 :: (partB (hourI u) 72 ++ (partB (minI' u) 77 ++ secB (u.tmod 60000000)))) = [80]
    · rw [c_eqsT hq, if_pos hq]
    · rw [c_eqsF hq, if_neg hq]

theorem riso_s (i : Int) {m d u : Int} (hm : -2147483647 ≤ m ∧ m ≤ 2147483647) (hd : InS d) (hu : InS u) : computusref19_iso i m d u = some (.str (isoB m d u)) := by
  have hy := tdiv12 hm
  have hr := tmod12 m
  obtain ⟨_, _, p3, p4, p5, p6, p7⟩ := iso_parts hu
  have l1 := partB_len (m.tdiv 12) 89
  have l2 := partB_len (m.tmod 12) 77
  have l3 := partB_len d 68
  have l4 := partB_len (hourI u) 72
  have l5 := partB_len (minI' u) 77
  have l6 := secB_len (u.tmod 60000000)
  have hlen : (isoH m d).length ≤ 70 := by unfold isoH; simp; omega
  have fin : ∀ x : List UInt8, (bif eqS x [80] then some (PV.str [80, 84, 48, 83]) else some (PV.str x)) = some (.str (if x = [80] then [80, 84, 48, 83] else x)) := by
    intro x
    by_cases hq : x = [80]
    · rw [c_eqsT hq, if_pos hq]
    · rw [c_eqsF hq, if_neg hq]
  rw [computusref19_iso_eq, w64 (n := m.tdiv 12) (by omega) (by omega), rpart_s (n := m.tdiv 12) (by exact ⟨by omega, by omega⟩), rpart_s hr, rpart_s hd, p6, p7, rpart_s p3, rpart_s p4, size_s p5]
  simp only [Option.bind_some, toS_str]
  rw [catS_ok (by first | omega | (simp; omega))]
  simp only [Option.bind_some]
  rw [catS_ok (by first | omega | (simp; omega))]
  simp only [Option.bind_some]
  rw [catS_ok (by first | omega | (simp; omega))]
  simp only [Option.bind_some]
  have e1 : [80] ++ partB (m.tdiv 12) 89 ++ partB (m.tmod 12) 77 ++ partB d 68 = isoH m d := by simp [isoH]
  rw [e1]
  unfold isoB isoT
  by_cases h : u = 0
  · rw [c_not, c_eqT h, if_pos h]
    exact fin _
  · rw [c_not, c_eqF h, if_neg h, catS_ok (by first | omega | (simp; omega))]
    simp only [Option.bind_some]
    rw [catS_ok (by first | omega | (simp; omega))]
    simp only [Option.bind_some]
    rw [catS_ok (by first | omega | (simp; omega))]
    simp only [Option.bind_some, tn0, tn1, toI_int, toS_str]
    have e2 : isoH m d ++ (84 :: (partB (hourI u) 72 ++ (partB (minI' u) 77 ++ secB (u.tmod 60000000)))) = isoH m d ++ [84] ++ partB (hourI u) 72 ++ partB (minI' u) 77 ++ secB (u.tmod 60000000) := by simp
    rw [e2]
    have hxl : (isoH m d ++ [84] ++ partB (hourI u) 72 ++ partB (minI' u) 77).length ≤ 200 := by simp; omega
    generalize isoH m d ++ [84] ++ partB (hourI u) 72 ++ partB (minI' u) 77 = x at hxl ⊢
    generalize u.tmod 60000000 = s at p5 l6 ⊢
    have rs := absI_rng p5
    have es := absI_nat p5
    have hz : absI s = 0 ↔ s = 0 := by unfold absI; split <;> omega
    have g1 := digN_len ((absI s).toNat / 1000000)
    have g2 := fracN_len ((absI s).toNat % 1000000)
    by_cases h0 : s = 0
    · have : secB s = [] := if_pos h0
      rw [c_not, c_eqT (hz.2 h0), this, List.append_nil]
      exact fin x
    · have c8 : ∀ p : List UInt8, p.length ≤ 300 → computusref19_iso_c8 p (absI s) = some (.str (if p ++ (digN ((absI s).toNat / 1000000) ++ (fracN ((absI s).toNat % 1000000) ++ [83])) = [80] then [80, 84, 48, 83] else p ++ (digN ((absI s).toNat / 1000000) ++ (fracN ((absI s).toNat % 1000000) ++ [83])))) := by
        intro p hp
        rw [computusref19_iso_c8_eq]
        conv => lhs; rw [es]
        generalize (absI s).toNat = n at *
        have q1 : IntKind.i64.wrap (Int.tdiv (n : Int) 1000000) = ((n / 1000000 : Nat) : Int) := by
          have := tdivN n 1000000
          rw [show ((1000000 : Nat) : Int) = 1000000 from rfl] at this
          rw [this, w64 (by omega) (by omega)]
        have q2 : Int.tmod (n : Int) 1000000 = ((n % 1000000 : Nat) : Int) := tmodN _ 1000000
        have dn : ∀ k : Nat, decI (k : Int) = digN k := fun k => by unfold decI; rw [if_neg (by omega), Int.toNat_natCast]
        rw [q1, q2, rdigits_s (by omega) (by omega), rfrac_s (by omega) (by omega)]
        simp only [Option.bind_some, toS_str, Int.toNat_natCast, dn]
        rw [catS_ok (by first | omega | (simp; omega))]
        simp only [Option.bind_some]
        rw [catS_ok (by first | omega | (simp; omega))]
        simp only [Option.bind_some]
        rw [catS_ok (by first | omega | (simp; omega))]
        simp only [Option.bind_some]
        have e3 : p ++ digN (n / 1000000) ++ fracN (n % 1000000) ++ [83] = p ++ (digN (n / 1000000) ++ (fracN (n % 1000000) ++ [83])) := by simp
        rw [e3]
        exact fin _
      rw [c_not, c_eqF (fun h => h0 (hz.1 h))]
      unfold secB sgnB
      rw [if_neg h0]
      by_cases hs : s < 0
      · rw [if_pos hs, if_pos hs, c_eqsT rfl, catS_ok (by first | omega | (simp; omega))]
        simp only [Option.bind_some]
        rw [c8 _ (by simp; omega)]
        simp
      · rw [if_neg hs, if_neg hs, c_eqsF (by simp), c8 _ (by omega)]
        simp
end Dv

/- Intervals as texts: fixed calls; the law. -/
namespace Dv
open Go

theorem k_parts : civil_parts 8826 = some (.tuple [.int .i64 2024, .int .i64 3, .int .i64 1]) := by rw [civil_parts_eq, civil_floor_eq]; kernel_rfl
theorem k_first : civil_First = some (.int .i64 (-2453698)) := by
  rw [civil_First_eq, civil_day_eq, c_leT (by decide), civil_day_c3_eq, civil_floor_eq]; kernel_rfl
theorem k_last : civil_Last = some (.int .i64 106754173) := by
  rw [civil_Last_eq, civil_day_eq, c_leF (by decide), civil_day_c3_eq, civil_floor_eq]; kernel_rfl
theorem k_can : civil_can 8826 = some (.bool true) := by
  rw [civil_can_eq, k_first, k_last]; kernel_rfl
theorem k_date : civil_Date 8826 = some (.tuple [.int .i64 2024, .int .i64 3, .int .i64 1, .int .i64 0]) := by
  rw [civil_Date_eq, k_can, k_parts]; kernel_rfl
theorem k_inside : day_inside 8826 = some (.bool true) := by
  rw [day_inside_eq, k_date]; kernel_rfl
theorem k_right : day_Right 0 8826 = some (.bool true) := by
  rw [day_Right_eq, k_inside]; kernel_rfl
theorem k_dparts : day_Parts 0 8826 = some (.tuple [.int .i64 2024, .int .i64 3, .int .i64 1, .int .i64 0]) := by
  rw [day_Parts_eq, k_right, k_date]; kernel_rfl

theorem k_show : show_Date 0 8826 1 1 0 = some (.tuple [.str [48, 49, 47, 48, 51, 47, 50, 48, 50, 52], .int .i64 0]) := by
  have d1 : digN 2024 = [50, 48, 50, 52] := by kernel_rfl
  have t1 : twoN 3 = [48, 51] := by kernel_rfl
  have t2 : twoN 1 = [48, 49] := by kernel_rfl
  have r0 : strings_Repeat [48] 0 = some (.str []) := by rw [strings_Repeat_eq, c_eqT rfl]
  have j1 := join_s [[], [50, 48, 50, 52]] (by simp) (by simp [totL])
  have j2 := join_s [[48, 49, 47, 48, 51, 47, 50, 48, 50, 52], []] (by simp) (by simp [totL])
  have b1 := between_s [47] (by simp) [[48, 49], [48, 51], [50, 48, 50, 52]] (by simp) (by simp [totL])
  simp only [List.map_cons, List.map_nil] at j1 j2 b1
  have hd : show_date 0 8826 1 1 0 = some (.tuple [.str [48, 49, 47, 48, 51, 47, 50, 48, 50, 52], .str []]) := by
    rw [show_date_eq, k_dparts]
    simp only [Option.bind_some, tn0, tn1, tn2, toI_int]
    rw [c_ltF (by decide), show_date_c5_eq, sdigits_s (by decide) (by decide)]
    simp only [Option.bind_some, toS_str]
    have e : (2024 : Int).toNat = 2024 := rfl
    rw [e, d1]
    have m0 : maxI 0 (IntKind.i64.wrap (4 - ((([50, 48, 50, 52] : List UInt8).length : Nat) : Int))) = 0 := by kernel_rfl
    rw [m0, r0]
    simp only [Option.bind_some, toS_str]
    rw [j1, two_s (by decide) (by decide), two_s (by decide) (by decide)]
    simp only [Option.bind_some, toS_str]
    have e3 : (3 : Int).toNat = 3 := rfl
    have e1 : (1 : Int).toNat = 1 := rfl
    rw [e3, e1, t1, t2, c_eqF (by decide), c_eqF (by decide), c_eqT rfl]
    have f1 : ([[], [50, 48, 50, 52]] : List (List UInt8)).flatten = [50, 48, 50, 52] := rfl
    rw [f1, b1]
    rfl
  rw [show_Date_eq, k_right]
  simp only [Option.bind_some, toB_bool]
  rw [c_not, c_true, style_s]
  have hs : styleR 1 1 0 = true := rfl
  rw [hs]
  simp only [Option.bind_some, toB_bool]
  rw [c_not, c_true, show_Date_c3_eq, c_not, c_eqT rfl, hd]
  simp only [Option.bind_some, tn0, tn1, toS_str]
  rw [j2]
  rfl

/-! ### the law -/
def spanV (i m d u a b c : Int) : PV :=
  if spanR i m d u = true ∧ styleR a b c = true then
    if i ≠ 0 then .tuple [.str (if i < 0 then [45, 105, 110, 102, 105, 110, 105, 116, 121] else [105, 110, 102, 105, 110, 105, 116, 121]), .int .i64 0]
    else .tuple [.str (if c = 1 then wordsB m d u else if c = 2 then isoB m d u else pgB m d u), .int .i64 0]
  else .tuple [.str [], .int .i64 1]

theorem infS {i : Int} (h : i ≠ 0) : show_infinite i = some (.str (if i < 0 then [45, 105, 110, 102, 105, 110, 105, 116, 121] else [105, 110, 102, 105, 110, 105, 116, 121])) := by
  rw [show_infinite_eq]
  by_cases hi : i < 0
  · rw [c_ltT hi, if_pos hi]
  · rw [c_ltF hi, if_neg hi]

theorem span_s {i m d u : Int} (h1 : -9223372036854775808 ≤ u) (h2 : u ≤ 9223372036854775807) (a b c : Int) : show_Span i m d u a b c = some (spanV i m d u a b c) := by
  rw [show_Span_eq, right_s h1 h2]
  unfold spanV
  simp only [Option.bind_some, toB_bool]
  cases hr : spanR i m d u with
  | false => rw [c_not, c_false, if_neg (by simp)]
  | true =>
  rw [c_not, c_true, style_s]
  simp only [Option.bind_some, toB_bool]
  cases hs : styleR a b c with
  | false => rw [c_not, c_false, if_neg (by simp)]
  | true =>
  rw [c_not, c_true, show_Span_c3_eq, if_pos (by simp)]
  by_cases hi : i = 0
  · subst hi
    obtain ⟨m1, m2, d1, d2, u1, u2⟩ := spanR_fin hr
    rw [c_not, c_eqT rfl, if_neg (by simp)]
    by_cases c1 : c = 1
    · rw [c_eqT c1, if_pos c1, sql_s 0 ⟨by omega, by omega⟩ ⟨by omega, by omega⟩ ⟨u1, u2⟩]; rfl
    · rw [c_eqF c1, if_neg c1]
      by_cases c2 : c = 2
      · rw [c_eqT c2, if_pos c2, iso_s 0 ⟨m1, m2⟩ ⟨by omega, by omega⟩ ⟨u1, u2⟩]; rfl
      · rw [c_eqF c2, if_neg c2, postgres_s 0 ⟨m1, m2⟩ ⟨by omega, by omega⟩ ⟨u1, u2⟩]; rfl
  · rw [c_not, c_eqF hi, if_pos hi, infS hi]; rfl

theorem rspan_s {i m d u : Int} (a b c : Int) : computusref19_Span i m d u a b c = some (spanV i m d u a b c) := by
  rw [computusref19_Span_eq, rright_s]
  unfold spanV
  simp only [Option.bind_some, toB_bool]
  cases hr : spanR i m d u with
  | false => rw [c_not, c_false, computusref19_Span_c2_eq, if_neg (by simp)]
  | true =>
  rw [c_not, c_true, rstyle_s]
  simp only [Option.bind_some, toB_bool]
  cases hs : styleR a b c with
  | false => rw [c_not, c_false, computusref19_Span_c2_eq, if_neg (by simp)]
  | true =>
  rw [c_not, c_true, computusref19_Span_c3_eq, if_pos (by simp)]
  by_cases hi : i = 0
  · subst hi
    obtain ⟨m1, m2, d1, d2, u1, u2⟩ := spanR_fin hr
    rw [c_not, c_eqT rfl, if_neg (by simp)]
    by_cases c1 : c = 1
    · rw [c_eqT c1, if_pos c1, rsql_s 0 ⟨by omega, by omega⟩ ⟨by omega, by omega⟩ ⟨u1, u2⟩]; rfl
    · rw [c_eqF c1, if_neg c1]
      by_cases c2 : c = 2
      · rw [c_eqT c2, if_pos c2, riso_s 0 ⟨m1, m2⟩ ⟨by omega, by omega⟩ ⟨u1, u2⟩]; rfl
      · rw [c_eqF c2, if_neg c2, rpostgres_s 0 ⟨m1, m2⟩ ⟨by omega, by omega⟩ ⟨u1, u2⟩]; rfl
  · rw [c_not, c_eqF hi, if_pos hi, ← inf_s hi, infS hi]; rfl

theorem known19_s : computuslaw19_known = some (.bool true) := by
  rw [computuslaw19_known_eq, span_s (by decide) (by decide), span_s (by decide) (by decide), span_s (by decide) (by decide), span_s (by decide) (by decide), k_show]
  kernel_rfl

theorem showSpans_s {i m d u : Int} (h1 : -9223372036854775808 ≤ u) (h2 : u ≤ 9223372036854775807) (a b c : Int) : computuslaw19_ShowSpans i m d u a b c = some (.bool true) := by
  rw [computuslaw19_ShowSpans_eq, span_s h1 h2, rspan_s, known19_s]
  simp only [Option.bind_some]
  rw [c_eqsT rfl, c_eqT rfl]
  rfl
end Dv
