/- The seat's proofs. -/
import Derived.Test.YtdniadhpgohccaaGreatDoorVQ1
import Derived.Test.YtdniadhpgohccaaGreatDoorVL3
import Derived.Test.YtdniadhpgohccaaGreatDoorVQ2
import Derived.Laws.Bits64
import Derived.Laws.RangeAny
import Derived.Lib.TrimUEq
import Derived.Lib.IndexLaws
import Derived.Test.YtdniadhpgohccaaGreatDoorVL1
set_option linter.unusedVariables false
set_option linter.unusedSimpArgs false
namespace Dv
open Go
theorem chkNames:z12s EE.P.funcs.toList=true:=by kernel_rfl
theorem chkTypes:z14t EE.P 0 EE.tt=true:=by kernel_rfl
theorem chkEqs:eqsChk EE=true:=by kernel_rfl
theorem chkMt:allB (mtChk EE.P) EE.mt=true:=by kernel_rfl
theorem chkOrders:EE.P.follows .mixedOrders=true:=by kernel_rfl
theorem sameOk:∀ g,memN g EE.same=true→ExtAt EE g Extern.AbiNoEscape.same:=by
 intro g h
 have he:EE.same=[206]:=rfl
 rw [he] at h
 simp only [memN,Bool.or_eq_true,Bool.or_false,beq_iff_eq,Bool.false_eq_true] at h
 subst h
 exact ⟨⟨(EE.P.funcs[206]?).getD default,by kernel_rfl,by kernel_rfl,by kernel_rfl,by kernel_rfl,by kernel_rfl⟩⟩
theorem mnzOk:∀ g e,findN g EE.mnz=some e→∃ ps t,EE.P.underlying t=some (.slice e)∧ExtAt EE g (Extern.BytealgMakeNoZero.makeNoZero ps #[t]):=by
 intro g e h
 have he:EE.mnz=[(207,5)]:=rfl
 rw [he] at h
 simp only [findN] at h
 cases h1:(g == 207) with
 | true =>
  rw [h1] at h
  simp only [cond_true,oJ] at h
  have:=eq_of_beq h1
  subst this; subst h
  exact ⟨((EE.P.funcs[207]?).getD default).params,((EE.P.funcs[207]?).getD default).resultTypes.getD 0 0,by kernel_rfl,⟨⟨(EE.P.funcs[207]?).getD default,by kernel_rfl,by kernel_rfl,by kernel_rfl,by kernel_rfl,by kernel_rfl⟩⟩⟩
 | false =>
 rw [h1] at h
 simp only [cond_false] at h
 cases h
theorem envOk:EnvOk EE:=envChk_ok (by unfold envChk; rw [chkNames,chkTypes,chkEqs,chkMt,chkOrders]; rfl) sameOk mnzOk
theorem extOk:ExtOk EE:=by
 intro g m h args r hr
 right
 have he:EE.ext=[(209,zvn),(210,z5b),(214,zig)]:=rfl
 rw [he] at h
 simp only [z9f] at h
 cases h1:(g == 209) with
 | true =>
  rw [h1] at h
  simp only [cond_true,oJ] at h
  have:=eq_of_beq h1
  subst this; subst h
  exact ext_add64 ⟨⟨(EE.P.funcs[209]?).getD default,by kernel_rfl,by kernel_rfl,by kernel_rfl,by kernel_rfl,by kernel_rfl⟩⟩ args r hr
 | false =>
 rw [h1] at h
 simp only [cond_false] at h
 cases h1:(g == 210) with
 | true =>
  rw [h1] at h
  simp only [cond_true,oJ] at h
  have:=eq_of_beq h1
  subst this; subst h
  exact z13f ⟨⟨(EE.P.funcs[210]?).getD default,by kernel_rfl,by kernel_rfl,by kernel_rfl,by kernel_rfl,by kernel_rfl⟩⟩ args r hr
 | false =>
 rw [h1] at h
 simp only [cond_false] at h
 cases h1:(g == 214) with
 | true =>
  rw [h1] at h
  simp only [cond_true,oJ] at h
  have:=eq_of_beq h1
  subst this; subst h
  exact ext_count ⟨⟨(EE.P.funcs[214]?).getD default,by kernel_rfl,by kernel_rfl,by kernel_rfl,by kernel_rfl,by kernel_rfl⟩⟩ args r hr
 | false =>
 rw [h1] at h
 simp only [cond_false] at h
 cases h
end Dv

namespace Dv
open Go
abbrev In64 (n:Int):Prop:=-9223372036854775808≤n∧n≤9223372036854775807
theorem zij (a:Int) {b:Int} (hb:0<b):0≤a % b∧a % b<b:=⟨Int.emod_nonneg a (by omega),Int.emod_lt_of_pos a hb⟩
theorem z11t (a:Int) {b:Int} (hb:0<b):-b<a.tmod b∧a.tmod b<b:=by
 have h2:=zij a hb
 rcases Int.lt_or_le a 0 with h | h
 ·have h4:a.tmod b=-((-a).tmod b):=by rw [Int.neg_tmod]; omega
  have h6:(-a).tmod b=(-a) % b:=zmr (by omega)
  have:=zij (-a) hb
  omega
 ·rw [zmr h]; omega
theorem zs2 {a b:Int} (hb:0<b) (hb2:b≤9223372036854775807):z49 a b=some (.int .i64 (a % b)):=by
 rw [znj,← zms hb]
 have:=z11t a hb
 rw [c_eqF (by omega)]
 by_cases h:a.tmod b<0
 ·rw [c_ltT h,if_pos h,w64 (by omega) (by omega)]
 ·rw [c_ltF h,if_neg h]
theorem z19o {a b:Int} (ha:In64 a) (hb:0<b):-9223372036854775808≤a.tdiv b∧a.tdiv b≤9223372036854775807:=by
 have h1:=Int.tmod_add_mul_tdiv a b
 have h2:=z11t a hb
 rcases Int.lt_or_le a 0 with h | h
 ·have h3:a.tdiv b=-((-a) / b):=by rw [← za9 (by omega),Int.neg_tdiv]; omega
  have h4:(-a) / b≤-a:=Int.ediv_le_self b (by omega)
  have h5:0≤(-a) / b:=Int.ediv_nonneg (by omega) (by omega)
  omega
 ·rw [za9 h]
  have h4:a / b≤a:=Int.ediv_le_self b h
  have h5:0≤a / b:=Int.ediv_nonneg h (by omega)
  omega
theorem ref_div {a b:Int} (ha:In64 a) (ha2:-9223372036854775808<a) (hb:1<b):z95 a b=some (.int .i64 (a / b)):=by
 rw [znk,← zrw (by omega:0<b)]
 have h1:=z19o ha (by omega:0<b)
 rw [c_eqF (by omega),c_eqF (by omega)]
 by_cases h:a.tmod b<0
 ·rw [c_ltT h,if_pos h,w64 h1.1 h1.2]
  have h3:(if a.tmod b<0 then a.tdiv b-1 else a.tdiv b)=a / b:=zrw (by omega)
  rw [if_pos h] at h3
  have h4:a≤a / b*b+(b-1):=by
   have:=Int.emod_add_mul_ediv a b
   have:=zij a (by omega:0<b)
   rw [Int.mul_comm]; omega
  have h5:-9223372036854775808≤a.tdiv b-1:=by
   have ha0:a<0:=by
    rcases Int.lt_or_le a 0 with h' | h'
    ·exact h'
    ·rw [zmr h'] at h; have:=zij a (by omega:0<b); omega
   have:a.tdiv b=-((-a) / b):=by rw [← za9 (by omega),Int.neg_tdiv]; omega
   have h6:(-a) / b≤-a:=Int.ediv_le_self b (by omega)
   omega
  rw [w64 h5 (by omega)]
 ·rw [c_ltF h,if_neg h,w64 h1.1 h1.2]
theorem z16j {a b:Int} (ha:In64 a) (ha2:-9223372036854775808<a) (hb:1<b) (hb2:b≤9223372036854775807):zis a b=some (.tuple [.int .i64 (a / b),.int .i64 (a % b)]):=by
 have h1:=z19o ha (by omega:0<b)
 have hm:=zms (a:=a) (by omega:0<b)
 have hd:=zrw (a:=a) (by omega:0<b)
 have hr:=zij a (by omega:0<b)
 have hq:=Int.emod_add_mul_ediv a b
 rw [zzk,c_eqF (by omega),c_eqF (by omega)]
 by_cases h:a.tmod b<0
 ·rw [if_pos h] at hm hd
  have ha0:a<0:=by
   rcases Int.lt_or_le a 0 with h' | h'
   ·exact h'
   ·rw [zmr h'] at h; omega
  have h5:a.tdiv b=-((-a) / b):=by rw [← za9 (by omega),Int.neg_tdiv]; omega
  have h6:(-a) / b≤-a:=Int.ediv_le_self b (by omega)
  rw [c_ltT h,w64 h1.1 h1.2,w64 (n:=a.tdiv b-1) (by omega) (by omega),hm,hd,w64 (by omega) (by omega)]
 ·rw [if_neg h] at hm hd
  rw [c_ltF h,w64 h1.1 h1.2,hm,hd]
theorem z12f (y:Int):z6o y=some (.bool (leapI y)):=by
 rw [zkx,zs2 (by omega) (by omega),zs2 (by omega) (by omega),zs2 (by omega) (by omega)]
 simp only [oB,PV.toI,leapI]
 by_cases a4:y % 4=0 <;> by_cases a1:y % 100=0 <;> by_cases a0:y % 400=0 <;> simp [a4,a1,a0,PV.toI,eqB]
theorem zw6 (a:Int) {b:Int} (hb:0<b):a.tmod b=0↔a % b=0:=by
 have h1:=zms (a:=a) hb
 have h2:=z11t a hb
 split at h1 <;> omega
theorem civ_leap (y:Int):zsf y=some (.bool (leapI y)):=by
 have h4:=zw6 y (by omega:(0:Int)<4)
 have h1:=zw6 y (by omega:(0:Int)<100)
 have h0:=zw6 y (by omega:(0:Int)<400)
 rw [z13i]
 by_cases a4:y % 4=0 <;> by_cases a1:y % 100=0 <;> by_cases a0:y % 400=0 <;> simp [leapI,h4,h1,h0,a4,a1,a0,eqB]
theorem mcases {m:Int} (h1:1≤m) (h2:m≤12):m=1∨m=2∨m=3∨m=4∨m=5∨m=6∨m=7∨m=8∨m=9∨m=10∨m=11∨m=12:=by omega
theorem zwl {y m:Int} (h1:1≤m) (h2:m≤12):z4a y m=some (.int .i64 (lenI y m)):=by
 rw [znm]
 rcases mcases h1 h2 with rfl | rfl | rfl | rfl | rfl | rfl | rfl | rfl | rfl | rfl | rfl | rfl
 case inr.inl =>
  simp only [zaw,zhq,z12f,oB,PV.toB]
  unfold lenI
  cases leapI y <;> rfl
 all_goals first | rfl | (simp only [zaw]; rfl)
theorem civ_len {y m:Int} (h1:1≤m) (h2:m≤12):zhu y m=some (.int .i64 (lenI y m)):=by
 rw [zl3,c_ltF (by omega),c_ltF (by omega),zy4]
 rcases mcases h1 h2 with rfl | rfl | rfl | rfl | rfl | rfl | rfl | rfl | rfl | rfl | rfl | rfl
 case inr.inl =>
  simp only [civ_leap,oB,PV.toB]
  unfold lenI
  cases leapI y <;> rfl
 all_goals rfl
theorem znw {y x:Int} (hy:-4800≤y∧y≤294500):∀ (j:Nat) (k:Int),0≤k→k+j=(y-2000) % 400→-3000000≤x→x≤108000000 →
  z3r y (x+zcn k) k=some (.int .i64 (x+zcn ((y-2000) % 400)))
 | 0,k,h0,hk,hx1,hx2=>by
  rw [za7,w64 (by omega) (by omega),zs2 (by omega) (by omega)]
  simp only [oB,PV.toI]
  rw [c_ltF (by omega)]
  congr 3
  rw [show k=(y-2000) % 400 by omega]
 | j+1,k,h0,hk,hx1,hx2=>by
  have hr:=zij (y-2000) (by omega:(0:Int)<400)
  have hs:=zvq h0 (by omega)
  have hy0:0≤zcn k∧zcn k≤146097:=by unfold zcn; omega
  have ih:=znw (x:=x) hy j (k+1) (by omega) (by omega) hx1 hx2
  rw [za7,w64 (by omega) (by omega),zs2 (by omega) (by omega)]
  simp only [oB,PV.toI]
  rw [c_ltT (by omega),w64 (n:=2000+k) (by omega) (by omega),z12f]
  simp only [oB,PV.toB]
  rw [w64 (n:=x+zcn k+365) (by omega) (by omega),w64 (n:=k+1) (by omega) (by omega)]
  cases hl:leapI (2000+k) with
  | true =>
   rw [hl] at hs
   simp only [if_true] at hs
   rw [cond_true,w64 (by omega) (by omega),← ih,hs]
   congr 1; omega
  | false =>
   rw [hl] at hs
   simp only [Bool.false_eq_true,if_false] at hs
   rw [cond_false,← ih,hs]
   congr 1; omega
theorem ref_start {y:Int} (hy:-4800≤y∧y≤294500):zak y=some (.int .i64 (jan1 y)):=by
 have hr:=zij (y-2000) (by omega:(0:Int)<400)
 have hq:-17≤(y-2000) / 400∧(y-2000) / 400≤732:=by omega
 rw [zjh,w64 (by omega) (by omega),ref_div (by unfold In64; omega) (by omega) (by omega)]
 simp only [oB,PV.toI]
 rw [w64 (by omega) (by omega)]
 have:=znw (y:=y) (x:=(y-2000) / 400*146097) hy ((y-2000) % 400).toNat 0 (by omega) (by omega) (by omega) (by omega)
 rw [z197,Int.add_zero] at this
 exact this
theorem zt9 {y m x:Int} (h2:m≤12):∀ (j:Nat) (k:Int),1≤k→k+j=m→-4000000≤x→x≤109000000 →
  z71 y m (x+z3i y k) k=some (.int .i64 (x+z3i y m))
 | 0,k,h0,hk,hx1,hx2=>by
  rw [zca,c_ltF (by omega),show k=m by omega]
 | j+1,k,h0,hk,hx1,hx2=>by
  have hs:=zdq (y:=y) h0 (by omega:k≤12)
  have hb:=znz (y:=y) h0 (by omega:k≤12)
  have hl:=zhb y k h0 (by omega)
  have ih:=zt9 (y:=y) (x:=x) h2 j (k+1) (by omega) (by omega) hx1 hx2
  rw [zca,c_ltT (by omega),zwl h0 (by omega)]
  simp only [oB,PV.toI]
  rw [w64 (by omega) (by omega),w64 (by omega) (by omega),← ih,hs]
  congr 1; omega
theorem z182 {y m d:Int} (hy:-4800≤y∧y≤294500) (h1:1≤m) (h2:m≤12) (hd:-1000≤d∧d≤1000):z7d y m d=some (.int .i64 (dayI y m d)):=by
 have hj:=z18i hy.1 hy.2
 rw [znl,ref_start hy]
 simp only [oB,PV.toI]
 rw [w64 (n:=jan1 y+d) (by omega) (by omega),w64 (by omega) (by omega)]
 have:=zt9 (y:=y) (m:=m) (x:=jan1 y+d-1) h2 (m-1).toNat 1 (by omega) (by omega) (by omega) (by omega)
 rw [z12t,Int.add_zero] at this
 rw [this]
 unfold dayI
 congr 2; omega
theorem z1ce {y:Int} (hy:-4801≤y∧y≤294500):-3000000≤y / 400*146097∧y / 400*146097≤108000000∧0≤y % 400∧y % 400≤399∧0≤y % 400 / 4∧y % 400 / 4≤99∧0≤y % 400 / 100∧y % 400 / 100≤3:=by
 refine ⟨?_,?_,?_,?_,?_,?_,?_,?_⟩ <;> omega
theorem z10y {y m d:Int} (hy:-4801≤y∧y≤294500) (hm:3≤m∧m≤14) (hd:-1000≤d∧d≤1000):zgd y m d=some (.int .i64 (zo1 y+(153*(m-3)+2) / 5+d-1-730425)):=by
 have hr:=z1ce hy
 have h5:0≤(153*(m-3)+2) / 5∧(153*(m-3)+2) / 5≤400:=by omega
 rw [zy2,z16j (by unfold In64; omega) (by omega) (by omega) (by omega)]
 simp only [oB,PV.tnth,nthD,PV.toI]
 rw [za9 (a:=y % 400) (by omega),za9 (a:=y % 400) (by omega),w64 (n:=m-3) (by omega) (by omega),w64 (n:=153*(m-3)) (by omega) (by omega),w64 (n:=153*(m-3)+2) (by omega) (by omega),za9 (a:=153*(m-3)+2) (by omega)]
 unfold zo1
 generalize y / 400*146097=a at *
 generalize y % 400=b at *
 generalize b / 4=c at *
 generalize b / 100=e at *
 generalize (153*(m-3)+2) / 5=f at *
 rw [w64 (n:=a) (by omega) (by omega),w64 (n:=b*365) (by omega) (by omega),w64 (n:=c) (by omega) (by omega),w64 (n:=e) (by omega) (by omega),w64 (n:=f) (by omega) (by omega),
  w64 (n:=a+b*365) (by omega) (by omega),w64 (n:=a+b*365+c) (by omega) (by omega),w64 (n:=a+b*365+c-e) (by omega) (by omega),w64 (n:=a+b*365+c-e+f) (by omega) (by omega),
  w64 (n:=a+b*365+c-e+f+d) (by omega) (by omega),w64 (n:=a+b*365+c-e+f+d-1) (by omega) (by omega),w64 (by omega) (by omega)]
theorem z18z {y m d:Int} (hy:-4800≤y∧y≤294500) (h1:1≤m) (h2:m≤12) (hd:-1000≤d∧d≤1000):zl2 y m d=some (.int .i64 (dayI y m d)):=by
 have hm:=zx7 (y:=y) (d:=d) h1 h2
 rw [z16h]
 by_cases h:m≤2
 ·rw [c_leT h,w64 (by omega) (by omega),w64 (by omega) (by omega),z10y (by omega) (by omega) hd]
  rw [if_pos h,if_pos h] at hm
  rw [hm]
 ·rw [c_leF h,z10y (by omega) (by omega) hd]
  rw [if_neg h,if_neg h] at hm
  rw [hm]
def rightI (y m d:Int):Bool:=decide (-4718≤y∧y≤294282∧1≤m∧m≤12∧1≤d∧d≤lenI y m)
theorem ref_right (y m d:Int):zal y m d=some (.bool (rightI y m d)):=by
 rw [zji]
 unfold rightI
 by_cases a:-4718≤y <;> by_cases b:y≤294282 <;> by_cases c:1≤m <;> by_cases e:m≤12 <;> by_cases f:1≤d <;> simp [a,b,c,e,f,leB]
 rw [zwl c e]; rfl
theorem civ_right (y m d:Int):zp5 y m d=some (.bool (rightI y m d)):=by
 rw [zzl]
 unfold rightI
 by_cases a:-4718≤y <;> by_cases b:y≤294282 <;> by_cases f:1≤d <;> simp [a,b,f,leB]
 by_cases c:1≤m <;> by_cases e:m≤12
 ·rw [civ_len c e]; simp [c,e]; rfl
 all_goals
  have hz:zhu y m=some (.int .i64 0):=by
   rw [zl3]
   by_cases hm:m<1
   ·rw [c_ltT hm,zfg]
   ·rw [c_ltF hm,c_ltT (by omega),zfg]
  rw [hz]
  simp [c,e,PV.toI]
  try exact decide_eq_false (by omega)
def daysV (y m d:Int):PV:=bif rightI y m d then .tuple [.int .i64 (dayI y m d),.int .i64 0] else .tuple [.int .i64 0,.int .i64 10]
theorem ref_days (y m d:Int):zcb y m d=some (daysV y m d):=by
 rw [zkz,ref_right]
 unfold daysV
 simp only [oB,PV.toB]
 cases h:rightI y m d with
 | false=>rfl
 | true =>
  have:=of_decide_eq_true h
  have hl:=zhb y m this.2.2.1 this.2.2.2.1
  rw [z182 (by omega) (by omega) (by omega) (by omega)]; rfl
theorem civ_days (y m d:Int):zsg y m d=some (daysV y m d):=by
 rw [z13k,civ_right]
 unfold daysV
 simp only [oB,PV.toB]
 cases h:rightI y m d with
 | false=>rfl
 | true =>
  have:=of_decide_eq_true h
  have hl:=zhb y m this.2.2.1 this.2.2.2.1
  rw [z18z (by omega) (by omega) (by omega) (by omega)]; rfl
end Dv

namespace Dv
open Go
def wdOk (wd:Int):Bool:=leB 0 wd&&leB wd 6
def dayOk (n:Int):Bool:=leB 1 n&&leB n 31
def rightV (k wd n:Int):Bool :=
 bif eqB k 0 then dayOk n&&eqB wd 0 else bif eqB k 1 then wdOk wd&&eqB n 0 else bif eqB k 2 then wdOk wd&&dayOk n else bif eqB k 3 then wdOk wd&&dayOk n else false
def onI (n wd:Int):Int:=n+(wd-wkI n) % 7
def backI (n wd:Int):Int:=n-(wkI n-wd) % 7
def dayK (y m k wd n:Int):Int :=
 if k=0 then dayI y m 1+n-1 else if k=1 then backI (dayI y m 1+lenI y m-1) wd else if k=2 then onI (dayI y m 1+n-1) wd else backI (dayI y m 1+n-1) wd
def canBL (y m k wd n:Int):Bool:=rightV k wd n&&(leB 1 m&&leB m 12)
def yearB (y:Int):Bool:=ltB (-4718) y&&ltB y 294282
def dayV (y m k wd n:Int):PV :=
 bif !canBL y m k wd n then .tuple [.int .i64 0,.int .i64 1] else bif !yearB y then .tuple [.int .i64 0,.int .i64 10] else .tuple [.int .i64 (dayK y m k wd n),.int .i64 0]
def dvR (n:Int):PV:=.tuple [.int .i64 n,.int .i64 0]
end Dv

namespace Dv
open Go
abbrev Small (s:List UInt8):Prop:=s.length≤70368744177664
theorem z14d (s:List UInt8) (hs:Small s):∀ (j i:Nat),i+j=s.length→z8x (s.length:Int) (i:Int) ((lowS (s.take i)++s.drop i).map byteV)=some (.str (lowS s))
 | 0,i,h=>by
  have:i=s.length:=by omega
  subst this
  rw [ziu,c_ltF (by omega)]
  simp only [List.take_length,List.drop_length,List.append_nil,zp6,oB]
 | j+1,i,h=>by
  have hi:i<s.length:=by omega
  have hlen:(lowS (s.take i)).length=i:=by simp; omega
  have hget:(lowS (s.take i)++s.drop i)[i]?=some s[i]:=by
   rw [List.getElem?_append_right (by omega),hlen,Nat.sub_self,List.getElem?_drop,Nat.add_zero,List.getElem?_eq_getElem hi]
  have hl2:((lowS (s.take i)++s.drop i).map byteV).length=s.length:=by simp; omega
  have ih:=z14d s hs j (i+1) (by omega)
  have hset:(lowS (s.take i)++s.drop i).set i (lowB s[i])=lowS (s.take (i+1))++s.drop (i+1):=by
   rw [List.drop_eq_getElem_cons hi,List.take_succ_eq_append_getElem hi]
   rw [List.set_append,if_neg (by omega),hlen,Nat.sub_self,List.set_cons_zero]
   show _=(s.take i++[s[i]]).map lowB++_
   rw [List.map_append,List.append_assoc]; rfl
  have hsame:¬ (65≤s[i].toNat∧s[i].toNat≤90)→lowS (s.take i)++s.drop i=lowS (s.take (i+1))++s.drop (i+1):=by
   intro hn
   have:lowB s[i]=s[i]:=by unfold lowB; rw [if_neg hn]
   rw [← hset,this]
   apply List.ext_getElem?
   intro k
   by_cases hk:i=k
   ·subst hk; rw [List.getElem?_set_self (by simp; omega),hget]
   ·rw [List.getElem?_set_ne hk]
  have hcast:((i+1:Nat):Int)=(i:Int)+1:=by omega
  rw [ziu,c_ltT (by omega),c_inT (by rw [hl2]; omega),Int.toNat_natCast,rdT_byte hget]
  simp only [oB,getD_byte]
  rw [hl2]
  by_cases h1:65≤s[i].toNat
  ·rw [c_leT (by omega)]
   by_cases h2:s[i].toNat≤90
   ·rw [c_leT (by omega),c_inT (by omega)]
    have ho:=or32 ⟨s[i].toNat,UInt8.toNat_lt _⟩ h1 h2
    simp only at ho
    rw [ho]
    have hb:(PV.int .u8 ((s[i].toNat+32:Nat):Int))=byteV (lowB s[i]):=by
     unfold lowB byteV
     rw [if_pos ⟨h1,h2⟩,add32 _ ⟨h1,h2⟩]; rfl
    rw [hb,stC_map (by simp; omega)]
    simp only [oB]
    rw [hset,w64 (by omega) (by omega),← hcast]
    exact ih
   ·rw [c_leF (by omega),w64 (by omega) (by omega),← hcast,hsame (by omega)]
    exact ih
  ·rw [c_leF (by omega),w64 (by omega) (by omega),← hcast,hsame (by omega)]
   exact ih
theorem zso (s:List UInt8) (hs:Small s):z8y s=some (.str (lowS s)):=by
 rw [z11c,List.length_map]
 have:=z14d s hs s.length 0 (by omega)
 simpa [lowS] using this
theorem z157 (s:List UInt8) (hs:Small s):∀ (j i:Nat),i+j=s.length→z2n s (i:Int) ((lowS (s.take i)).map byteV)=some (.str (lowS s))
 | 0,i,h=>by
  have:i=s.length:=by omega
  subst this
  rw [za6,c_ltF (by omega)]
  simp only [List.take_length,zp6,oB]
 | j+1,i,h=>by
  have hi:i<s.length:=by omega
  have hlen:((lowS (s.take i)).map byteV).length=i:=by simp; omega
  have ih:=z157 s hs j (i+1) (by omega)
  have hnext:(lowS (s.take i)).map byteV++[byteV (lowB s[i])]=(lowS (s.take (i+1))).map byteV:=by
   rw [List.take_succ_eq_append_getElem hi]
   show _=((s.take i++[s[i]]).map lowB).map byteV
   rw [List.map_append,List.map_append]; rfl
  have hcast:((i+1:Nat):Int)=(i:Int)+1:=by omega
  have happ:∀ v,appL 1 ((lowS (s.take i)).map byteV) [v]=some ((lowS (s.take i)).map byteV++[v]):=fun v=>zit (by rw [hlen]; simp; omega)
  have hlt:=UInt8.toNat_lt s[i]
  rw [za6,c_ltT (by omega),ztz (List.getElem?_eq_getElem hi)]
  simp only [oB]
  have plain:¬ (65≤s[i].toNat∧s[i].toNat≤90)→(PV.int .u8 (s[i].toNat:Int))=byteV (lowB s[i]):=by
   intro hn; unfold lowB byteV; rw [if_neg hn]
  by_cases h1:65≤s[i].toNat
  ·rw [c_leT (by omega)]
   by_cases h2:s[i].toNat≤90
   ·rw [c_leT (by omega),zgy,wu8 (by omega) (by omega)]
    have hb:(PV.int .u8 ((s[i].toNat:Int)+32))=byteV (lowB s[i]):=by
     unfold lowB byteV
     rw [if_pos ⟨h1,h2⟩,add32 _ ⟨h1,h2⟩]
    rw [hb,happ]
    simp only [oB]
    rw [hnext,w64 (by omega) (by omega),← hcast]
    exact ih
   ·rw [c_leF (by omega),plain (by omega),happ]
    simp only [oB]
    rw [hnext,w64 (by omega) (by omega),← hcast]
    exact ih
  ·rw [c_leF (by omega),plain (by omega),happ]
   simp only [oB]
   rw [hnext,w64 (by omega) (by omega),← hcast]
   exact ih
theorem rlow_s (s:List UInt8) (hs:Small s):z7u s=some (.str (lowS s)):=by
 rw [zjg]
 have:=z157 s hs s.length 0 (by omega)
 simpa [lowS] using this
theorem z179 (a b:List UInt8) (ha:Small a) (hb:Small b):zpf a b=some (.bool (sameB a b)):=by
 rw [z14b,zso a ha,zso b hb]; rfl
theorem zol (a b:List UInt8) (ha:Small a) (hb:Small b):z18 a b=some (.bool (sameB a b)):=by
 rw [zkw,rlow_s a ha,rlow_s b hb]; rfl
def begB (s t:List UInt8):Bool:=leN s.length t.length&&sameB s (t.take s.length)
def findI (s:List UInt8):Nat→List (List UInt8)→Int
 | _,[]=>-1
 | i,t::r=>bif begB s t then (i:Int) else findI s (i+1) r
def zt3 (s:List UInt8) (l:List (List UInt8)):Int:=if s.length<3 then -1 else findI s 0 l
theorem short1_s (s t:List UInt8) (hs:Small s) (ht:Small t):zjo t (.ref [.str s] 0)=some (.bool (begB s t)):=by
 rw [zvw]
 have e1:okOther (.ref [.str s] 0)=true:=rfl
 have e2:rdP tiStr (.ref [.str s] 0) 0=some (.str s):=rfl
 rw [e1,e2]
 simp only [cond_true,oB,PV.toS]
 unfold begB
 by_cases h:s.length≤t.length
 ·rw [c_leT (by omega),zi2 h]
  simp only [oB]
  rw [z179 _ _ hs (by simp; omega)]
  have:leN s.length t.length=true:=decide_eq_true h
  rw [this]; rfl
 ·rw [c_leF (by omega)]
  have:leN s.length t.length=false:=decide_eq_false h
  rw [this]; rfl
theorem z17v (s t:List UInt8) (hs:Small s) (ht:Small t):callW EE [zf0] (.func (.func z5j) [] [.ref [.str s] 0]) [.str t]=some (.bool (begB s t)):=by
 rw [callW_cap]
 have e:funTI EE z5j=[zf0]:=by kernel_rfl
 have h:=short1_s s t hs ht
 unfold zjo callF at h
 rw [e] at h
 exact h
theorem zo3 (s:List UInt8) (hs:Small s) (l:List (List UInt8)) (hl:l.length≤1000000) (ht:∀ t∈l,Small t):∀ (r:List (List UInt8)) (i:Nat),l.drop i=r →
  z1z (l.map PV.str) (.func (.func z5j) [] [.ref [.str s] 0]) (l.length:Int) (i:Int)=some (.int .i64 (findI s i r))
 | [],i,h=>by
  have hi:l.length≤i:=by
   rcases Nat.lt_or_ge i l.length with h' | h'
   ·rw [List.drop_eq_getElem_cons h'] at h; cases h
   ·exact h'
  rw [z59,c_ltF (by omega)]; rfl
 | t::r,i,h=>by
  have hi:i<l.length:=by
   rcases Nat.lt_or_ge i l.length with h' | h'
   ·exact h'
   ·rw [List.drop_of_length_le h'] at h; cases h
  have hg:l[i]?=some t:=by rw [← List.head?_drop,h]; rfl
  have hr:l.drop (i+1)=r:=by rw [← List.drop_drop,h]; rfl
  have ih:=zo3 s hs l hl ht r (i+1) hr
  rw [z59,c_ltT (by omega),rdI_n,z12l hg]
  simp only [oB,PV.toS]
  rw [z17v s t hs (ht t (List.mem_of_getElem? hg))]
  simp only [oB,PV.toB,findI]
  cases begB s t with
  | true=>rfl
  | false =>
   rw [cond_false,cond_false,w64 (by omega) (by omega),← ih]
   rfl
theorem wshort_s (s:List UInt8) (hs:Small s) (l:List (List UInt8)) (hl:l.length≤1000000) (ht:∀ t∈l,Small t):zre s (l.map PV.str)=some (.int .i64 (zt3 s l)):=by
 rw [z11a]
 unfold zt3
 by_cases h:s.length<3
 ·rw [c_ltT (by omega),if_pos h]
 ·rw [c_ltF (by omega),if_neg h,zbm]
  have:=zo3 s hs l hl ht l 0 rfl
  have e:(okOther (.func (.func z5j) [] [.ref [.str s] 0])&&true)=true:=rfl
  rw [e,cond_true,List.length_map]
  rw [show ((0:Nat):Int)=0 from rfl] at this
  rw [this]; rfl
theorem zwj (s:List UInt8) (hs:Small s) (h3:3≤s.length) (l:List (List UInt8)) (hl:l.length≤1000000) (ht:∀ t∈l,Small t):∀ (r:List (List UInt8)) (i:Nat),l.drop i=r →
  z3q s (l.map PV.str) (i:Int)=some (.int .i64 (findI s i r))
 | [],i,h=>by
  have hi:l.length≤i:=by
   rcases Nat.lt_or_ge i l.length with h' | h'
   ·rw [List.drop_eq_getElem_cons h'] at h; cases h
   ·exact h'
  rw [z6v,List.length_map,c_ltF (by omega)]; rfl
 | t::r,i,h=>by
  have hi:i<l.length:=by
   rcases Nat.lt_or_ge i l.length with h' | h'
   ·exact h'
   ·rw [List.drop_of_length_le h'] at h; cases h
  have hg:l[i]?=some t:=by rw [← List.head?_drop,h]; rfl
  have hr:l.drop (i+1)=r:=by rw [← List.drop_drop,h]; rfl
  have ih:=zwj s hs h3 l hl ht r (i+1) hr
  have hts:=ht t (List.mem_of_getElem? hg)
  rw [z6v,List.length_map,c_ltT (by omega),c_leT (by omega),zgx,rdI_n,z12l hg]
  simp only [oB,PV.toS,findI]
  unfold begB
  have hcast:((i+1:Nat):Int)=(i:Int)+1:=by omega
  by_cases hle:s.length≤t.length
  ·have e:leN s.length t.length=true:=decide_eq_true hle
   rw [c_leT (by omega),zi2 hle,e]
   simp only [oB,Bool.true_and]
   rw [zol _ _ hs (by simp; omega)]
   simp only [oB,PV.toB]
   cases sameB s (t.take s.length) with
   | true=>rfl
   | false=>rw [cond_false,cond_false,w64 (by omega) (by omega),← hcast,ih]
  ·have e:leN s.length t.length=false:=decide_eq_false hle
   rw [c_leF (by omega),e,w64 (by omega) (by omega),← hcast,ih]; rfl
theorem rshort_s (s:List UInt8) (hs:Small s) (l:List (List UInt8)) (hl:l.length≤1000000) (ht:∀ t∈l,Small t):zaj s (l.map PV.str)=some (.int .i64 (zt3 s l)):=by
 rw [zje]
 unfold zt3
 by_cases h:s.length<3
 ·rw [z6v,if_pos h]
  by_cases hl0:(0:Int)<((l.map PV.str).length:Nat)
  ·rw [c_ltT hl0,c_leF (by omega)]
  ·rw [c_ltF hl0]
 ·rw [if_neg h]
  have:=zwj s hs (by omega) l hl ht l 0 rfl
  exact this
def dayNames:List (List UInt8):=[[83,117,110,100,97,121],[77,111,110,100,97,121],[84,117,101,115,100,97,121],[87,101,100,110,101,115,100,97,121],[84,104,117,114,115,100,97,121],[70,114,105,100,97,121],[83,97,116,117,114,100,97,121]]
theorem zxs (s:List UInt8):∀ (l:List (List UInt8)) (i:Nat),-1≤findI s i l∧findI s i l<i+l.length
 | [],i=>by simp [findI]; omega
 | t::r,i=>by
  have:=zxs s r (i+1)
  unfold findI
  cases begB s t <;> simp <;> omega
end Dv

namespace Dv
open Go
theorem shr32 {a:Int}:shrI .u64 a 32=a / 4294967296:=by
 unfold shrI
 have:(min (32:Int).toNat IntKind.u64.bits)=32:=rfl
 rw [this]
 have h2:((2:Int) ^ 32)=4294967296:=by decide
 rw [h2,Int.fdiv_eq_ediv_of_nonneg _ (by omega)]
theorem and32 {a:Int} (h0:0≤a) (h1:a<18446744073709551616):andI .u64 a 4294967295=a % 4294967296:=by
 unfold andI
 obtain ⟨n,rfl⟩:=Int.eq_ofNat_of_zero_le h0
 have hb:IntKind.u64.bits=64:=rfl
 have e:(BitVec.ofInt IntKind.u64.bits (n:Int) &&& BitVec.ofInt IntKind.u64.bits 4294967295).toNat=n % 4294967296:=by
  rw [hb,BitVec.toNat_and]
  have e1:(BitVec.ofInt 64 (n:Int)).toNat=n:=by
   rw [BitVec.toNat_ofInt]; omega
  have e2:(BitVec.ofInt 64 4294967295).toNat=2 ^ 32-1:=by decide
  rw [e1,e2,Nat.and_two_pow_sub_one_eq_mod]
 rw [e,IntKind.wrap_u64]
 omega
theorem mul64_s {a b:Int} (ha:0≤a∧a<18446744073709551616) (hb:0≤b∧b<18446744073709551616) :
  zna a b=some (.tuple [.int .u64 (a*b / 18446744073709551616),.int .u64 (a*b % 18446744073709551616)]):=by
 rw [z13m]
 simp only [shr32,and32 ha.1 ha.2,and32 hb.1 hb.2]
 have hab:a*b=18446744073709551616*((a / 4294967296)*(b / 4294967296))+4294967296*((a / 4294967296)*(b % 4294967296)+(a % 4294967296)*(b / 4294967296))+(a % 4294967296)*(b % 4294967296):=by
  have gen:∀ x1 x0 y1 y0:Int,(4294967296*x1+x0)*(4294967296*y1+y0)=18446744073709551616*(x1*y1)+4294967296*(x1*y0+x0*y1)+x0*y0:=by
   intro x1 x0 y1 y0
   have e1:(4294967296*x1)*(4294967296*y1)=18446744073709551616*(x1*y1):=by
    rw [Int.mul_assoc,Int.mul_left_comm x1,← Int.mul_assoc]; rfl
   have e2:(4294967296*x1)*y0=4294967296*(x1*y0):=Int.mul_assoc _ _ _
   have e3:x0*(4294967296*y1)=4294967296*(x0*y1):=Int.mul_left_comm _ _ _
   rw [Int.add_mul,Int.mul_add,Int.mul_add,e1,e2,e3]
   omega
  have h:=gen (a / 4294967296) (a % 4294967296) (b / 4294967296) (b % 4294967296)
  have ea:4294967296*(a / 4294967296)+a % 4294967296=a:=by omega
  have eb:4294967296*(b / 4294967296)+b % 4294967296=b:=by omega
  rw [ea,eb] at h
  exact h
 have x1:0≤a / 4294967296∧a / 4294967296≤4294967295:=by omega
 have x0:0≤a % 4294967296∧a % 4294967296≤4294967295:=by omega
 have y1:0≤b / 4294967296∧b / 4294967296≤4294967295:=by omega
 have y0:0≤b % 4294967296∧b % 4294967296≤4294967295:=by omega
 rw [hab]
 generalize a / 4294967296=u1 at *
 generalize a % 4294967296=u0 at *
 generalize b / 4294967296=v1 at *
 generalize b % 4294967296=v2 at *
 have bd:∀ x y:Int,0≤x∧x≤4294967295→0≤y∧y≤4294967295→0≤x*y∧x*y≤18446744065119617025:=by
  intro x y hx hy
  refine ⟨Int.mul_nonneg hx.1 hy.1,?_⟩
  have:=Int.mul_le_mul hx.2 hy.2 hy.1 (by omega)
  omega
 have bp:=bd u0 v2 x0 y0
 have bq:=bd u1 v2 x1 y0
 have br:=bd u0 v1 x0 y1
 have bs:=bd u1 v1 x1 y1
 clear hab
 generalize u0*v2=p at *
 generalize u1*v2=q at *
 generalize u0*v1=r at *
 generalize u1*v1=s at *
 have wu:∀ n:Int,0≤n→n≤18446744073709551615→IntKind.u64.wrap n=n:=fun n h1 h2=>wu64 h1 h2
 have hp0:0≤p / 4294967296∧p / 4294967296≤4294967294:=by omega
 have ht:0≤q+p / 4294967296∧q+p / 4294967296≤18446744069414584319:=by omega
 rw [wu p (by omega) (by omega),wu q (by omega) (by omega),wu r (by omega) (by omega),wu s (by omega) (by omega),wu _ ht.1 (by omega),and32 ht.1 (by omega)]
 have hpq:∃ t,t=q+p / 4294967296:=⟨_,rfl⟩
 obtain ⟨t,hpq⟩:=hpq
 rw [← hpq] at ht ⊢
 have hw1:0≤t % 4294967296+r∧t % 4294967296+r≤18446744069414584320:=by omega
 have hs2:0≤s+t / 4294967296∧s+t / 4294967296≤18446744069414584320:=by omega
 rw [wu _ hw1.1 (by omega),wu _ hs2.1 (by omega)]
 have hw2:0≤(t % 4294967296+r) / 4294967296∧(t % 4294967296+r) / 4294967296≤4294967295:=by omega
 have key:(18446744073709551616*s+4294967296*(q+r)+p) / 18446744073709551616=s+t / 4294967296+(t % 4294967296+r) / 4294967296:=by
  have e1:4294967296*(q+r)+p=4294967296*(t+r)+p % 4294967296:=by omega
  have e2:t+r=4294967296*(t / 4294967296)+(t % 4294967296+r):=by omega
  omega
 rw [key,IntKind.wrap_u64,IntKind.wrap_u64]
 congr 3
 rw [Int.emod_eq_of_lt (by omega) (by omega)]
theorem size_sL {a:Int} (h:In64 a):zva a=some (.int .u64 (if a<0 then -a else a)):=by
 rw [z18b]
 unfold In64 at h
 by_cases h0:a<0
 ·rw [c_ltT h0,if_pos h0,IntKind.wrap_u64,IntKind.wrap_u64]
  congr 2; omega
 ·rw [c_ltF h0,if_neg h0,IntKind.wrap_u64]
  congr 2; omega
def limV (n:Int):PV:=if In64 n then .tuple [.int .i64 n,.int .i64 0] else .tuple [.int .i64 0,.int .i64 10]
theorem rd1 (x y:Int):rdT (tiInt .u64) [.int .u64 x,.int .u64 y] 1 0=some (.int .u64 y):=rfl
theorem signed_sL (neg:Bool) {m:Int} (h0:0≤m) (h1:m<340282366920938463463374607431768211456) :
  zs6 neg (m / 18446744073709551616) (m % 18446744073709551616)=some (limV (if neg then -m else m)):=by
 rw [z12n,zup,rd1,c_not]
 have hq:0≤m / 18446744073709551616:=by omega
 by_cases hz:m / 18446744073709551616=0
 ·rw [c_eqT hz]
  have hm:m % 18446744073709551616=m:=by omega
  rw [hm]
  simp only [oB,PV.toI]
  cases neg with
  | true =>
   simp only [cond_true,if_true]
   by_cases hl:m≤9223372036854775808
   ·rw [c_leT hl,IntKind.wrap_u64,IntKind.wrap_i64]
    unfold limV
    rw [if_pos (by unfold In64; omega)]
    congr 3
    congr 1
    omega
   ·rw [c_leF hl]
    unfold limV
    rw [if_neg (by unfold In64; omega)]
  | false =>
   simp only [cond_false,Bool.false_eq_true,if_false]
   by_cases hl:9223372036854775807<m
   ·rw [c_ltT hl]
    unfold limV
    rw [if_neg (by unfold In64; omega)]
   ·rw [c_ltF hl,w64 (by omega) (by omega)]
    unfold limV
    rw [if_pos (by unfold In64; omega)]
 ·rw [c_eqF hz]
  unfold limV
  rw [if_neg (by unfold In64; cases neg <;> simp <;> omega)]
theorem mul_s {a b:Int} (ha:In64 a) (hb:In64 b):zkh a b=some (limV (a*b)):=by
 rw [z1c9,zzb,size_sL ha,size_sL hb]
 simp only [oB,zq]
 unfold In64 at ha hb
 have h1:0≤(if a<0 then -a else a)∧(if a<0 then -a else a)≤9223372036854775808:=by split <;> omega
 have h2:0≤(if b<0 then -b else b)∧(if b<0 then -b else b)≤9223372036854775808:=by split <;> omega
 rw [mul64_s (by omega) (by omega)]
 simp only [oB,tn0,tn1,ag0,ag1,zq]
 have hm0:0≤(if a<0 then -a else a)*(if b<0 then -b else b):=Int.mul_nonneg h1.1 h2.1
 have hm1:(if a<0 then -a else a)*(if b<0 then -b else b)≤9223372036854775808*9223372036854775808:=Int.mul_le_mul h1.2 h2.2 h2.1 (by omega)
 rw [signed_sL _ hm0 (by omega)]
 have e:(if (!(ltB a 0 == ltB b 0))=true then -((if a<0 then -a else a)*(if b<0 then -b else b)) else (if a<0 then -a else a)*(if b<0 then -b else b))=a*b:=by
  by_cases x:a<0 <;> by_cases y:b<0 <;> simp [ltB,x,y,Int.neg_mul,Int.mul_neg]
 rw [e]
 simp only [oB]
 unfold limV
 by_cases h:In64 (a*b)
 ·rw [if_pos h]; rfl
 ·rw [if_neg h]; rfl
theorem add_s {a b:Int} (ha:In64 a) (hb:In64 b):zki a b=some (limV (a+b)):=by
 rw [z1ca,c_not]
 unfold In64 at ha hb
 unfold limV
 by_cases h:In64 (a+b)
 ·rw [if_pos h]
  unfold In64 at h
  rw [w64 h.1 h.2]
  have:(ltB a (a+b) == ltB 0 b)=true:=by
   unfold ltB
   by_cases hb0:0<b
   ·rw [decide_eq_true hb0,decide_eq_true (by omega)]; rfl
   ·rw [decide_eq_false hb0,decide_eq_false (by omega)]; rfl
  rw [this]; rfl
 ·rw [if_neg h]
  unfold In64 at h
  have:(ltB a (IntKind.i64.wrap (a+b)) == ltB 0 b)=false:=by
   unfold ltB
   rw [IntKind.wrap_i64]
   by_cases hb0:0<b
   ·rw [decide_eq_true hb0,decide_eq_false (by omega)]; rfl
   ·rw [decide_eq_false hb0,decide_eq_true (by omega)]; rfl
  rw [this]; rfl
end Dv

namespace Dv
open Go
theorem zhi {s:List UInt8} {i:Nat} {c:UInt8} (h:s[i]?=some c) (hc:c.toNat<128):decR s i=(c.toNat,1):=by
 have hi:i<s.length:=(List.getElem?_eq_some_iff.1 h).1
 have hs:i<(⟨s.toArray⟩:ByteArray).size:=by simpa [ByteArray.size] using hi
 have hg:(⟨s.toArray⟩:ByteArray)[i]'hs=c:=by
  have:=(List.getElem?_eq_some_iff.1 h).2
  exact this
 unfold decR
 rw [decode_ascii ⟨s.toArray⟩ i hs (by rw [hg]; exact hc),hg]
theorem z16c {s:List UInt8} {i:Nat} {c:UInt8} (h:s[i]?=some c) (hc:128≤c.toNat):128≤(decR s i).1∧1≤(decR s i).2:=by
 have hi:i<s.length:=(List.getElem?_eq_some_iff.1 h).1
 have hs:i<(⟨s.toArray⟩:ByteArray).size:=by simpa [ByteArray.size] using hi
 have hg:(⟨s.toArray⟩:ByteArray)[i]'hs=c:=(List.getElem?_eq_some_iff.1 h).2
 unfold decR
 exact decode_high ⟨s.toArray⟩ i hs (by rw [hg]; exact hc)
theorem z1cj {c:Int} (h:48≤c∧c≤57):zgz c=some (.int .i64 1):=by
 rw [zsm,c_leT h.1,c_leT h.2,zvv]
theorem z1ci {c:Int} (h:¬ (48≤c∧c≤57)):∃ k,zgz c=some (.int .i64 k)∧k≠1:=by
 have e:zgz c=zfu c:=by
  rw [zsm]
  by_cases h1:48≤c
  ·rw [c_leT h1,c_leF (by omega)]
  ·rw [c_leF h1]
 rw [e,zvu,zvs,zvt,zu1]
 cases eqB c 95 <;> cases ltB 127 c <;> cases leB 97 (orI .i32 c 32) <;> cases leB (orI .i32 c 32) 122 <;> cases eqB c 32 <;> cases eqB c 9 <;> cases eqB c 10 <;> cases eqB c 13 <;> cases ltB c 32 <;> cases eqB c 127 <;>
  exact ⟨_,rfl,by decide⟩
def digB (c:UInt8):Bool:=decide (48≤c.toNat∧c.toNat≤57)
def badV:PV:=.tuple [.int .i64 0,.int .i64 13]
def numG:List UInt8→Int→Bool→PV
 | [],n,o=>bif o then .tuple [.int .i64 0,.int .i64 10] else .tuple [.int .i64 n,.int .i64 0]
 | c::r,n,o=>bif digB c then (bif o then numG r 0 true else bif leB (10*n+((c.toNat:Int)-48)) 9223372036854775807 then numG r (10*n+((c.toNat:Int)-48)) false else numG r 0 true) else badV
def numV (s:List UInt8):PV:=bif eqS s [] then badV else numG s 0 false
theorem ze0 {α:Type} {s:List α} {i:Nat} (h:s.drop i=[]):s.length≤i:=by
 rcases Nat.lt_or_ge i s.length with h' | h'
 ·rw [List.drop_eq_getElem_cons h'] at h; cases h
 ·exact h'
theorem z5c {α:Type} {s r:List α} {c:α} {i:Nat} (h:s.drop i=c::r):i<s.length∧s[i]?=some c∧s.drop (i+1)=r:=by
 refine ⟨?_,?_,?_⟩
 ·rcases Nat.lt_or_ge i s.length with h' | h'
  ·exact h'
  ·rw [List.drop_of_length_le h'] at h; cases h
 ·rw [← List.head?_drop,h]; rfl
 ·rw [← List.drop_drop,h]; rfl
theorem zab (c:UInt8):digB c=true↔48≤c.toNat∧c.toNat≤57:=by simp [digB]
theorem wnum_bad {s x0:List UInt8} {i:Nat} {c:UInt8} (h:s[i]?=some c) (hd:digB c=false) (x e:Int):z6r x0 x e s i=some badV:=by
 have hi:i<s.length:=(List.getElem?_eq_some_iff.1 h).1
 have hk:∃ k,zgz ((decR s i).1:Int)=some (.int .i64 k)∧k≠1:=by
  apply z1ci
  have hn:¬ (48≤c.toNat∧c.toNat≤57):=by rw [← zab,hd]; simp
  by_cases hc:c.toNat<128
  ·rw [zhi h hc]; simp only; omega
  ·have:=z16c h (by omega); omega
 obtain ⟨k,hk,hne⟩:=hk
 rw [z8w,z16n hi,hk]
 simp only [oB,zq]
 rw [c_not,c_eqF hne]; rfl
theorem digit_val {c:UInt8} (hd:digB c=true):IntKind.i64.wrap (IntKind.i32.wrap ((c.toNat:Int)-48))=(c.toNat:Int)-48:=by
 have:=(zab c).1 hd
 rw [w32 (by omega) (by omega),w64 (by omega) (by omega)]
theorem limV_in {n:Int} (h:In64 n):limV n=.tuple [.int .i64 n,.int .i64 0]:=if_pos h
theorem z1ay {n:Int} (h:¬ In64 n):limV n=.tuple [.int .i64 0,.int .i64 10]:=if_neg h
theorem z14c (s:List UInt8) (hs:Small s) (hne:s≠[]):∀ (r:List UInt8) (i:Nat) (n:Int) (o:Bool),s.drop i=r→0≤n→n≤9223372036854775807 →
  z6r s (bif o then 0 else n) (bif o then 10 else 0) s i=some (numG r n o)
 | [],i,n,o,h,h0,h1=>by
  have hi:=ze0 h
  rw [z8w,z111 (by omega),zy8 hne]
  cases o <;> rfl
 | c::r,i,n,o,h,h0,h1=>by
  obtain ⟨hi,hg,hr⟩:=z5c h
  cases hd:digB c with
  | false=>rw [wnum_bad hg hd]; simp only [numG,hd,cond_false]
  | true =>
   have hc:=(zab c).1 hd
   have hcl:c.toNat<128:=by omega
   have ih:=z14c s hs hne r (i+1)
   rw [z8w,z16n hi,zhi hg hcl,z1cj (by omega)]
   simp only [oB,zq]
   rw [c_not,c_eqT rfl]
   have hover:z6r s 0 10 s (i+1)=some (numG r 0 true):=ih 0 true hr (by omega) (by omega)
   cases o with
   | true =>
    simp only [cond_true,numG,hd]
    rw [c_eqF (by omega),zd1,c_eqF (by omega)]
    exact hover
   | false =>
    simp only [cond_false,cond_true,numG,hd]
    rw [c_eqT rfl,mul_s (by unfold In64; omega) (by unfold In64; omega)]
    simp only [oB]
    by_cases hm:n*10≤9223372036854775807
    ·rw [limV_in (by unfold In64; omega)]
     simp only [tn0,tn1,zq]
     rw [zd1,c_eqT rfl,digit_val hd,add_s (by unfold In64; omega) (by unfold In64; omega)]
     simp only [oB]
     by_cases ha:10*n+((c.toNat:Int)-48)≤9223372036854775807
     ·rw [limV_in (by unfold In64; omega),c_leT ha]
      simp only [tn0,tn1,zq]
      rw [show n*10+((c.toNat:Int)-48)=10*n+((c.toNat:Int)-48) by omega]
      exact ih _ false hr (by omega) ha
     ·rw [z1ay (by unfold In64; omega),c_leF ha]
      simp only [tn0,tn1,zq]
      exact hover
    ·rw [z1ay (by unfold In64; omega),c_leF (by omega)]
     simp only [tn0,tn1,zq]
     rw [zd1,c_eqF (by omega)]
     exact hover
theorem zjp (s:List UInt8) (hs:Small s):zd2 s=some (numV s):=by
 rw [zyv]
 unfold numV
 by_cases h:s=[]
 ·subst h
  rw [z8w,z111 (by simp),z16o rfl,z16o rfl]; rfl
 ·rw [zy8 h]
  exact z14c s hs h s 0 0 false rfl (by omega) (by omega)
theorem rdigit_s (c:UInt8):zai (c.toNat:Int)=some (.bool (digB c)):=by
 rw [zjd]
 unfold digB
 by_cases h1:48≤c.toNat
 ·rw [c_leT (by omega)]
  by_cases h2:c.toNat≤57
  ·have:leB (c.toNat:Int) 57=true:=decide_eq_true (by omega)
   rw [this,decide_eq_true ⟨h1,h2⟩]
  ·have:leB (c.toNat:Int) 57=false:=decide_eq_false (by omega)
   rw [this,decide_eq_false (by omega)]
 ·rw [c_leF (by omega),decide_eq_false (by omega)]
theorem z1d1 {c:UInt8} (hd:digB c=true):IntKind.i64.wrap (IntKind.u8.wrap ((c.toNat:Int)-48))=(c.toNat:Int)-48:=by
 have:=(zab c).1 hd
 rw [wu8 (by omega) (by omega),w64 (by omega) (by omega)]
theorem numG_over (r:List UInt8):∀ n m,numG r n true=numG r m true:=by
 induction r with
 | nil=>intro n m; rfl
 | cons c r ih=>intro n m; simp only [numG,cond_true]
theorem z156 (s:List UInt8) (hs:Small s) (hne:s≠[]):∀ (r:List UInt8) (i:Nat) (n:Int) (o:Bool),s.drop i=r→0≤n→n≤9223372036854775807 →
  z3f s n (bif o then 10 else 0) (i:Int)=some (numG r n o)
 | [],i,n,o,h,h0,h1=>by
  have hi:=ze0 h
  have hl:s.length≠0:=fun h=>hne (List.eq_nil_of_length_eq_zero h)
  rw [z64,c_ltF (by omega),c_eqF (by omega)]
  cases o <;> rfl
 | c::r,i,n,o,h,h0,h1=>by
  obtain ⟨hi,hg,hr⟩:=z5c h
  have hcast:((i+1:Nat):Int)=(i:Int)+1:=by omega
  rw [z64,c_ltT (by omega),ztz hg]
  simp only [oB]
  rw [rdigit_s]
  simp only [oB,zv]
  cases hd:digB c with
  | false=>simp only [numG,hd,cond_false]; rfl
  | true =>
   have hc:=(zab c).1 hd
   have ih:=z156 s hs hne r (i+1)
   rw [z1d1 hd]
   have hw:IntKind.i64.wrap ((i:Int)+1)=((i+1:Nat):Int):=by rw [w64 (by omega) (by omega),hcast]
   simp only [zfc,zfb,zfs,hw]
   have hover:z3f s n 10 ((i+1:Nat):Int)=some (numG r 0 true):=by
    rw [numG_over r 0 n]; exact ih n true hr h0 h1
   cases o with
   | true =>
    simp only [cond_true,numG,hd]
    rw [c_not,z110,c_eqF (by omega),c_eqF (by omega)]
    exact hover
   | false =>
    simp only [cond_false,cond_true,numG,hd]
    rw [c_not,z110,c_eqT rfl]
    by_cases hm:922337203685477580<n
    ·rw [c_ltT hm,c_eqF (by omega),c_leF (by omega)]
     exact hover
    ·rw [c_ltF hm,w64 (n:=10*n) (by omega) (by omega),w64 (n:=9223372036854775807-((c.toNat:Int)-48)) (by omega) (by omega)]
     by_cases ha:10*n+((c.toNat:Int)-48)≤9223372036854775807
     ·rw [c_ltF (by omega),c_eqT rfl,c_leT ha,w64 (by omega) (by omega)]
      exact ih _ false hr (by omega) ha
     ·rw [c_ltT (by omega),c_eqF (by omega),c_leF ha]
      exact hover
theorem rnum_s (s:List UInt8) (hs:Small s):z9h s=some (numV s):=by
 rw [ziq]
 unfold numV
 by_cases h:s=[]
 ·subst h
  rw [z64,c_ltF (by simp),c_eqT (by simp),z16o rfl]; rfl
 ·rw [zy8 h]
  exact z156 s hs h s 0 0 false rfl (by omega) (by omega)
end Dv

namespace Dv
open Go
theorem z14w {α:Type} {s:List α} {a b:Nat} (h1:a≤b) (h2:b≤s.length):subS s (a:Int) (b:Int)=some ((s.drop a).take (b-a)):=by
 unfold subS
 rw [decide_eq_true (by omega)]
 simp
def blB (c:UInt8):Bool:=decide (c.toNat=32∨c.toNat=9∨c.toNat=10∨c.toNat=13)
def z4x:List UInt8→List UInt8→List (List UInt8)
 | cur,[]=>if cur=[] then [] else [cur]
 | cur,c::r=>if blB c then (if cur=[] then z4x [] r else cur::z4x [] r) else z4x (cur++[c]) r
def z1x (s:List UInt8):List (List UInt8):=z4x [] s
theorem zdg {cur r:List UInt8} {c:UInt8} (h:blB c=true):z4x cur (c::r)=if cur=[] then z4x [] r else cur::z4x [] r:=by rw [z4x,if_pos h]
theorem zpe {cur r:List UInt8} {c:UInt8} (h:blB c=false):z4x cur (c::r)=z4x (cur++[c]) r:=by rw [z4x,if_neg (by rw [h]; simp)]
theorem zp1 {s:List UInt8} {a i:Nat} (h2:i≤s.length):(s.drop a).take (i-a)=[]↔i≤a:=by
 rw [List.take_eq_nil_iff,List.drop_eq_nil_iff]; omega
theorem cur_snoc {s r:List UInt8} {c:UInt8} {a i:Nat} (h:s.drop i=c::r) (ha:a≤i):(s.drop a).take (i-a)++[c]=(s.drop a).take (i+1-a):=by
 obtain ⟨h1,h2,h3⟩:=z5c h
 rw [show i+1-a=(i-a)+1 by omega,List.take_add_one,List.getElem?_drop,show a+(i-a)=i by omega,h2]; rfl
theorem z100 (s:List UInt8) (hs:s.length≤10000000000) (out:List (List UInt8)) (a i:Nat) (hi:i≤s.length) (ha:a≤i) (hout:out.length≤i) :
  z1g s (a:Int) (i:Int) (out.map PV.str)=z1w s ((i+1:Nat):Int) ((i+1:Nat):Int) ((out++if (s.drop a).take (i-a)=[] then [] else [(s.drop a).take (i-a)]).map PV.str):=by
 rw [zgs]
 by_cases h:a<i
 ·rw [c_ltT (by omega),z14w ha hi]
  simp only [oB]
  rw [zit (by simp; omega)]
  simp only [oB]
  rw [w64 (by omega) (by omega),if_neg (by rw [zp1 hi]; omega),List.map_append]
  rfl
 ·rw [c_ltF (by omega),w64 (by omega) (by omega),if_pos ((zp1 hi).2 (by omega)),List.append_nil]
  rfl
theorem zoh (s:List UInt8) (hs:s.length≤10000000000):∀ (r:List UInt8) (i a:Nat) (out:List (List UInt8)),s.drop i=r→i≤s.length→a≤i→out.length≤i →
  z1w s (a:Int) (i:Int) (out.map PV.str)=some (.sl 1 ((out++z4x ((s.drop a).take (i-a)) r).map PV.str))
 | [],i,a,out,h,hi,ha,ho=>by
  have hl:=ze0 h
  obtain rfl:i=s.length:=by omega
  rw [z6u,c_leT (by omega),c_eqT rfl,z100 s hs out a _ (by omega) ha ho,z6u,c_leF (by omega)]
  rfl
 | c::r,i,a,out,h,hi,ha,ho=>by
  obtain ⟨h1,h2,h3⟩:=z5c h
  have hc:=UInt8.toNat_lt c
  have bl:blB c=true→z1g s (a:Int) (i:Int) (out.map PV.str)=some (.sl 1 ((out++z4x ((s.drop a).take (i-a)) (c::r)).map PV.str)):=by
   intro hb
   rw [z100 s hs out a i (by omega) ha ho,zoh s hs r (i+1) (i+1) _ h3 (by omega) (Nat.le_refl _) (by split <;> simp <;> omega)]
   rw [Nat.sub_self,List.take_zero]
   rw [zdg hb]
   split <;> simp
  rw [z6u,c_leT (by omega),c_eqF (by omega),ztz h2]
  simp only [oB]
  by_cases e1:c.toNat=32
  ·rw [c_eqT (by omega)]; exact bl (by simp [blB,e1])
  rw [c_eqF (by omega)]
  by_cases e2:c.toNat=9
  ·rw [c_eqT (by omega)]; exact bl (by simp [blB,e2])
  rw [c_eqF (by omega)]
  by_cases e3:c.toNat=10
  ·rw [c_eqT (by omega)]; exact bl (by simp [blB,e3])
  rw [c_eqF (by omega)]
  by_cases e4:c.toNat=13
  ·rw [c_eqT (by omega)]; exact bl (by simp [blB,e4])
  rw [c_eqF (by omega),w64 (by omega) (by omega)]
  have:=zoh s hs r (i+1) a out h3 (by omega) (by omega) (by omega)
  rw [← cur_snoc h ha] at this
  rw [show ((i:Int)+1)=((i+1:Nat):Int) by omega,this]
  rw [zpe (by simp [blB,e1,e2,e3,e4])]
theorem rwords_s (s:List UInt8) (hs:s.length≤10000000000):zaf s=some (.sl 1 ((z1x s).map PV.str)):=by
 rw [zj9]
 exact zoh s hs s 0 0 [] rfl (Nat.zero_le _) (Nat.le_refl _) (Nat.le_refl _)
theorem blank_s (c:Int):zkb c=some (.bool (decide (c=32∨c=9∨c=10∨c=13))):=by
 rw [zwn]
 by_cases e1:c=32
 ·rw [c_eqT e1]; simp [e1]
 rw [c_eqF e1]
 by_cases e2:c=9
 ·rw [c_eqT e2]; simp [e2]
 rw [c_eqF e2]
 by_cases e3:c=10
 ·rw [c_eqT e3]; simp [e3]
 rw [c_eqF e3]
 unfold eqB; simp [e1,e2,e3]
abbrev blF:PV:=.func (.func z8s) [] []
theorem z113 (c:Int):callW EE [zf0] blF [.int .i32 c]=some (.bool (decide (c=32∨c=9∨c=10∨c=13))):=by
 have e:funTI EE z8s=[zf0]:=by kernel_rfl
 have h:=blank_s c
 unfold zkb callF at h
 rw [e] at h
 exact h
theorem z18v (n b0 b1 b2 b3:Nat) (hn:1≤n):((Lib.decodeN n b0 b1 b2 b3).2=1)∨((Lib.decodeN n b0 b1 b2 b3).2=2∧2≤n∧128≤b1)∨((Lib.decodeN n b0 b1 b2 b3).2=3∧3≤n∧128≤b1∧128≤b2) ∨
  ((Lib.decodeN n b0 b1 b2 b3).2=4∧4≤n∧128≤b1∧128≤b2∧128≤b3):=by
 unfold Lib.decodeN
 split
 ·exact .inl rfl
 split
 ·rename_i h; split
  ·exact .inr (.inl ⟨rfl,by omega,by omega⟩)
  ·exact .inl rfl
 split
 ·rename_i h; split
  ·exact .inr (.inr (.inl ⟨rfl,by omega,by omega,by omega⟩))
  ·exact .inl rfl
 split
 ·rename_i h; split
  ·exact .inr (.inr (.inr ⟨rfl,by omega,by omega,by omega,by omega⟩))
  ·exact .inl rfl
 ·exact .inl rfl
theorem z1d3 {s:List UInt8} {i:Nat} {c:UInt8} (h:s[i]?=some c) (hc:128≤c.toNat) :
  1≤(decR s i).2∧i+(decR s i).2≤s.length∧∀ d∈(s.drop i).take (decR s i).2,128≤d.toNat:=by
 have hi:i<s.length:=(List.getElem?_eq_some_iff.1 h).1
 have e:decR s i=Lib.decodeN (s.length-i) (s.getD i 0).toNat (s.getD (i+1) 0).toNat (s.getD (i+2) 0).toNat (s.getD (i+3) 0).toNat:=by
  unfold decR; exact Lib.decode_N ⟨s.toArray⟩ i
 have ha:=z18v (s.length-i) (s.getD i 0).toNat (s.getD (i+1) 0).toNat (s.getD (i+2) 0).toNat (s.getD (i+3) 0).toNat (by omega)
 rw [← e] at ha
 have h0:(s.getD i 0).toNat=c.toNat:=by rw [List.getD_eq_getElem?_getD,h]; rfl
 have key:∀ n,(decR s i).2=n→1≤n→n≤s.length-i→(∀ j,j<n→128≤(s.getD (i+j) 0).toNat)→1≤(decR s i).2∧i+(decR s i).2≤s.length∧∀ d∈(s.drop i).take (decR s i).2,128≤d.toNat:=by
  intro n hn h1 h2 h3
  rw [hn]
  refine ⟨h1,by omega,fun d hd=>?_⟩
  obtain ⟨j,hj⟩:=List.getElem?_of_mem hd
  have hjn:j<n:=by
   have:=(List.getElem?_eq_some_iff.1 hj).1
   simp at this; omega
  rw [List.getElem?_take_of_lt hjn,List.getElem?_drop] at hj
  have:=h3 j hjn
  rwa [List.getD_eq_getElem?_getD,hj] at this
 rcases ha with ha | ⟨ha,hb,h1⟩ | ⟨ha,hb,h1,h2⟩ | ⟨ha,hb,h1,h2,h3⟩
 ·refine key 1 ha (by omega) (by omega) (fun j hj=>?_)
  match j,hj with
  | 0,_=>rw [Nat.add_zero,h0]; exact hc
 ·refine key 2 ha (by omega) (by omega) (fun j hj=>?_)
  match j,hj with
  | 0,_=>rw [Nat.add_zero,h0]; exact hc
  | 1,_=>exact h1
 ·refine key 3 ha (by omega) (by omega) (fun j hj=>?_)
  match j,hj with
  | 0,_=>rw [Nat.add_zero,h0]; exact hc
  | 1,_=>exact h1
  | 2,_=>exact h2
 ·refine key 4 ha (by omega) (by omega) (fun j hj=>?_)
  match j,hj with
  | 0,_=>rw [Nat.add_zero,h0]; exact hc
  | 1,_=>exact h1
  | 2,_=>exact h2
  | 3,_=>exact h3
theorem blB_high {c:UInt8} (h:128≤c.toNat):blB c=false:=by
 unfold blB; rw [decide_eq_false]; omega
theorem zac:∀ (l:List UInt8) (cur r:List UInt8),(∀ d∈l,blB d=false)→z4x cur (l++r)=z4x (cur++l) r
 | [],cur,r,_=>by simp
 | d::l,cur,r,h=>by
  show z4x cur (d::(l++r))=_
  rw [zpe (h d (by simp)),zac l _ r (fun x hx=>h x (by simp [hx]))]
  simp
theorem step_rune {s r:List UInt8} {c:UInt8} {i:Nat} (h:s.drop i=c::r):(blB c=true∧decR s i=(c.toNat,1)) ∨
  (∃ n,(decR s i).2=n∧1≤n∧i+n≤s.length∧¬ ((decR s i).1=32∨(decR s i).1=9∨(decR s i).1=10∨(decR s i).1=13)∧(∀ d∈(s.drop i).take n,blB d=false)):=by
 obtain ⟨h1,h2,h3⟩:=z5c h
 by_cases hb:blB c=true
 ·left
  refine ⟨hb,zhi h2 ?_⟩
  unfold blB at hb
  have:=of_decide_eq_true hb
  omega
 ·right
  by_cases hc:c.toNat<128
  ·refine ⟨1,by rw [zhi h2 hc],Nat.le_refl _,by omega,?_,fun d hd=>?_⟩
   ·rw [zhi h2 hc]
    intro h'
    exact hb (decide_eq_true h')
   ·rw [h] at hd
    simp at hd
    subst hd
    cases hx:blB d
    ·rfl
    ·exact absurd hx hb
  ·obtain ⟨a1,a2,a3⟩:=z1d3 h2 (by omega)
   obtain ⟨b1,_⟩:=z16c h2 (by omega)
   exact ⟨_,rfl,a1,a2,by omega,fun d hd=>blB_high (a3 d hd)⟩
def spV (p:Nat×Nat):PV:=.agg [.int .i64 p.1,.int .i64 p.2]
def spW (s:List UInt8) (p:Nat×Nat):List UInt8:=(s.drop p.1).take (p.2-p.1)
theorem spTI {l:List (Nat×Nat)} {k:Nat} {p:Nat×Nat} (h:l[k]?=some p):rdT (EE.ti z15) (l.map spV) k 0=some (spV p):=by
 have e:EE.ti z15=⟨(EE.ti z15).d,2,16,(EE.ti z15).zero,[.int .i64,.int .i64]⟩:=by kernel_rfl
 have ha:(EE.ti z15).isAgg=true:=by kernel_rfl
 unfold rdT
 rw [List.getElem?_map,h]
 simp only [Option.map_some]
 have e1:(EE.ti z15).size=2:=by rw [e]
 have e2:(EE.ti z15).leaves=[.int .i64,.int .i64]:=by rw [e]
 rw [e1,e2,ha]
 rfl
theorem zry (s:List UInt8) (l:List (Nat×Nat)) (hl:l.length≤1000000000000) (hp:∀ p∈l,p.1≤p.2∧p.2≤s.length) (F:List UInt8→Int→Int→List PV→Nat→List PV→Option PV)
  (hF:∀ x1 x2 x3 x4 x5,F s x1 x2 x3 x4 x5=(bif (Dv.ltB x2 x1) then (bif (Dv.inB (0:Int) x2 (((List.length x5):Nat):Int)) then ((Dv.rdT (EE.ti z15) x5 (Int.toNat x2) 0).bind fun v1=>((Dv.subS s (Dv.PV.toI (Dv.PV.nth v1 0)) (Dv.PV.toI (Dv.PV.nth v1 1))).bind fun v2=>(bif (Dv.inB (0:Int) x2 (((List.length x3):Nat):Int)) then ((Dv.stC x3 (Int.toNat x2) 0 [(Dv.PV.str v2)]).bind fun v3=>(F s x1 (Go.IntKind.wrap Go.IntKind.i64 (x2+(1:Int))) v3 x4 x5)) else none))) else none) else (some (Dv.PV.sl 1 x3)))) (cp:Nat) :
  ∀ (j k:Nat),k+j=l.length→F s (l.length:Int) (k:Int) ((l.take k).map (fun p=>PV.str (spW s p))++List.replicate j (.str [])) cp (l.map spV)=some (.sl 1 (l.map fun p=>PV.str (spW s p)))
 | 0,k,hk=>by
  rw [hF,c_ltF (by omega)]
  simp [show k=l.length by omega]
 | j+1,k,hk=>by
  have hlt:k<l.length:=by omega
  have hg:l[k]?=some l[k]:=List.getElem?_eq_getElem hlt
  have ih:=zry s l hl hp F hF cp j (k+1) (by omega)
  obtain ⟨p1,p2⟩:=hp l[k] (List.getElem_mem hlt)
  rw [hF,c_ltT (by omega),c_inT (by simp; omega)]
  rw [Int.toNat_natCast,spTI hg]
  simp only [oB]
  have e1:(PV.nth (spV l[k]) 0).toI=(l[k].1:Int):=rfl
  have e2:(PV.nth (spV l[k]) 1).toI=(l[k].2:Int):=rfl
  rw [e1,e2,z14w p1 p2]
  simp only [oB]
  have hlen:((l.take k).map (fun p=>PV.str (spW s p))++List.replicate (j+1) (PV.str [])).length=l.length:=by simp; omega
  rw [c_inT (by rw [hlen]; omega)]
  have hst:stC ((l.take k).map (fun p=>PV.str (spW s p))++List.replicate (j+1) (PV.str [])) k 0 [.str ((s.drop l[k].1).take (l[k].2-l[k].1))]=some ((l.take (k+1)).map (fun p=>PV.str (spW s p))++List.replicate j (.str [])):=by
   have hk1:((l.take k).map (fun p=>PV.str (spW s p))).length=k:=by simp; omega
   unfold stC
   have:((l.take k).map (fun p=>PV.str (spW s p))++List.replicate (j+1) (PV.str []))[k]?=some (.str []):=by
    rw [List.getElem?_append_right (by omega),hk1,Nat.sub_self]; simp
   rw [this]
   simp only [oJ]
   rw [List.set_append_right _ _ (by omega),hk1,Nat.sub_self,List.replicate_succ,List.set_cons_zero]
   have ht:l.take (k+1)=l.take k++[l[k]]:=by rw [List.take_add_one,hg]; rfl
   rw [ht,List.map_append]
   simp [spW]
  rw [hst]
  simp only [oB]
  rw [w64 (by omega) (by omega),show ((k:Int)+1)=((k+1:Nat):Int) by omega]
  exact ih
termination_by j=>j
end Dv

namespace Dv
open Go
theorem extIBL:z9f z62 EE.ext=some z5b:=by kernel_rfl
theorem extCB:z9f zcw EE.ext=some zig:=by kernel_rfl
theorem z128 (s:List UInt8) (c:UInt8):z68 s (c.toNat:Int)=some (.int .i64 (Lib.indexByte s c)):=by
 rw [zao,zy6 EE _ _ _ extIBL]
 have e:z5b [.str s,.int .u8 (c.toNat:Int)]=some (.int .i64 (Lib.indexByte s c)):=by
  unfold z5b
  simp
 rw [e]; rfl
theorem z163 (s:List UInt8) (c:UInt8):Lib.indexByte s c<s.length:=by
 induction s with
 | nil=>simp [Lib.indexByte]
 | cons b s ih =>
  unfold Lib.indexByte
  split
  ·simp <;> omega
  ·split
   ·simp <;> omega
   ·simp <;> omega
def splitB (c:UInt8):List UInt8→List (List UInt8)
 | []=>[[]]
 | x::r=>if x=c then []::splitB c r else match splitB c r with
  | p::ps=>(x::p)::ps
  | []=>[[x]]
theorem zbl (c:UInt8) (s:List UInt8):splitB c s≠[]:=by
 cases s with
 | nil=>simp [splitB]
 | cons x r=>unfold splitB; split <;> (try split) <;> simp
theorem z17t {c:UInt8} {s:List UInt8} (h:Lib.indexByte s c=-1):splitB c s=[s]:=by
 induction s with
 | nil=>rfl
 | cons b s ih =>
  unfold Lib.indexByte at h
  split at h
  ·omega
  ·rename_i hb
   split at h
   ·rename_i hs
    have:=ih (by simpa using hs)
    unfold splitB
    rw [if_neg (by simpa using hb),this]
   ·have:=Lib.indexByte_ge s c
    simp at *
    omega
theorem z17s {c:UInt8} {s:List UInt8} {m:Nat} (h:Lib.indexByte s c=m):splitB c s=s.take m::splitB c (s.drop (m+1)):=by
 induction s generalizing m with
 | nil=>simp only [Lib.indexByte] at h; omega
 | cons b s ih =>
  unfold Lib.indexByte at h
  split at h
  ·rename_i hb
   have:m=0:=by omega
   subst this
   conv=>lhs; unfold splitB
   rw [if_pos (by simpa using hb)]; rfl
  ·rename_i hb
   split at h
   ·omega
   ·rename_i hne
    have hne:Lib.indexByte s c≠-1:=by simpa using hne
    have hge:=Lib.indexByte_ge s c
    obtain ⟨k,rfl⟩:∃ k,m=k+1:=⟨m-1,by omega⟩
    have:=ih (m:=k) (by omega)
    conv=>lhs; unfold splitB
    rw [if_neg (by simpa using hb),this]
    rfl
theorem z1by (c:UInt8) (s:List UInt8):(splitB c s).length=Lib.countByte s c+1:=by
 induction s with
 | nil=>rfl
 | cons x r ih =>
  unfold splitB Lib.countByte
  rw [List.count_cons]
  unfold Lib.countByte at ih
  split
  ·rename_i h
   simp [h,ih]
  ·rename_i h
   have hne:=zbl c r
   cases hs:splitB c r with
   | nil=>exact absurd hs hne
   | cons p ps =>
    rw [hs] at ih
    simp at ih ⊢
    simp [h,ih]
theorem zsx (c:UInt8) (s:List UInt8):∀ p∈splitB c s,p.length≤s.length:=by
 induction s with
 | nil=>intro p hp; simp [splitB] at hp; simp [hp]
 | cons x r ih =>
  intro p hp
  unfold splitB at hp
  split at hp
  ·rcases List.mem_cons.1 hp with rfl | hp
   ·simp
   ·have:=ih p hp; simp; omega
  ·cases hs:splitB c r with
   | nil=>exact absurd hs (zbl c r)
   | cons q qs =>
    rw [hs] at hp ih
    rcases List.mem_cons.1 hp with rfl | hp
    ·have:=ih q (by simp); simp; omega
    ·have:=ih p (by simp [hp]); simp; omega
theorem z17r {l:List PV} {i:Nat} {v:PV} (h:i<l.length) (hs:∀ p∈l,∃ t,p=.str t):stC l i 0 [v]=some (l.set i v):=by
 unfold stC
 rw [List.getElem?_eq_getElem h]
 obtain ⟨t,ht⟩:=hs l[i] (List.getElem_mem h)
 rw [ht]; rfl
theorem z1b3 (s:List UInt8) (c:UInt8):zi4 s [c]=some (.int .i64 (Lib.indexByte s c)):=by
 rw [zua,zef]
 have e1:(((List.length [c]:Nat)):Int)=1:=rfl
 rw [e1,c_eqF (by omega)]
 by_cases h:[c]=s
 ·rw [z16o h,zbj,← h]
  simp [Lib.indexByte,PV.toI]
 ·rw [zy8 h,zbi,c_eqT rfl,atS_z (c:=c) rfl]
  simp only [oB]
  rw [z128]; rfl
theorem count1_s (s:List UInt8) (c:UInt8):zi5 s [c]=some (.int .i64 ((Lib.countByte s c:Nat):Int)):=by
 rw [zub]
 have e1:(((List.length [c]:Nat)):Int)=1:=rfl
 rw [e1,c_eqF (by omega),c_eqT rfl,atS_z (c:=c) rfl]
 simp only [oB]
 rw [zy6 EE _ _ _ extCB]
 have e:zig [.str s,.int .u8 (c.toNat:Int)]=some (.int .i64 ((Lib.countByte s c:Nat):Int)):=by
  unfold zig
  simp
 rw [e]; rfl
theorem z16e (s:List UInt8) (c:UInt8):Lib.countByte s c≤s.length:=List.count_le_length
theorem zzv (c:UInt8) (N:Nat) (hN:N≤100000000000) (x6:Nat):∀ (k:Nat) (s:List UInt8) (i:Nat) (l:List PV),(splitB c s).length=k→i+k=N→l.length=N→(∀ p∈l,∃ t,p=.str t)→s.length≤100000000000 →
  z6w s [c] 0 ((N:Int)-1) (i:Int) l x6=some (.sl 1 (l.take i++(splitB c s).map PV.str))
 | 0,s,i,l,hk,_,_,_,_=>absurd (List.eq_nil_of_length_eq_zero hk) (zbl c s)
 | k+1,s,i,l,hk,hi,hl,hs,hlen=>by
  have hcast:((i+1:Nat):Int)=(i:Int)+1:=by omega
  have hge:=Lib.indexByte_ge s c
  have hlt:=z163 s c
  have fin:∀ t,((stC l i 0 [PV.str t]).bind fun v=>bif (decide ((0:Int)≤IntKind.i64.wrap ((i:Int)+1)∧IntKind.i64.wrap ((i:Int)+1)≤((v.length:Nat):Int))) then
    some (PV.sl 1 (v.take (IntKind.i64.wrap ((i:Int)+1)).toNat)) else none)=some (.sl 1 (l.take i++[PV.str t])):=by
   intro t
   rw [z17r (by omega) hs,w64 (by omega) (by omega)]
   simp only [oB,List.length_set]
   rw [decide_eq_true (by omega),cond_true]
   congr 2
   rw [← hcast,Int.toNat_natCast,List.take_succ_eq_append_getElem (by simp; omega),List.getElem_set_self]
   congr 1
   exact List.take_set_of_le (Nat.le_refl _)
  rw [zi3]
  by_cases hin:Lib.indexByte s c=-1
  ·rw [z17t hin]
   simp only [List.map_cons,List.map_nil]
   by_cases hlast:(i:Int)<(N:Int)-1
   ·rw [c_ltT hlast,z1b3]
    simp only [oB,zq]
    rw [hin,c_ltT (by omega),c_inT (by omega),Int.toNat_natCast]
    exact fin s
   ·rw [c_ltF hlast,c_inT (by omega),Int.toNat_natCast]
    exact fin s
  ·obtain ⟨m,hm⟩:=Int.eq_ofNat_of_zero_le (show 0≤Lib.indexByte s c by omega)
   have hsp:=z17s hm
   rw [hsp] at hk ⊢
   simp only [List.length_cons] at hk
   have hne:=List.length_pos_iff.2 (zbl c (s.drop (m+1)))
   have hml:m<s.length:=by omega
   have ih:=zzv c N hN x6 k (s.drop (m+1)) (i+1) (l.set i (.str (s.take m))) (by omega) (by omega) (by simpa using hl) (by
    intro p hp
    rcases List.mem_or_eq_of_mem_set hp with h | h
    ·exact hs p h
    ·exact ⟨_,h⟩) (by simp; omega)
   rw [c_ltT (by omega),z1b3]
   simp only [oB,zq]
   have e1:(((List.length [c]:Nat)):Int)=1:=rfl
   rw [hm,c_ltF (by omega),w64 (n:=(m:Int)+0) (by omega) (by omega),Int.add_zero,zi2 (by omega)]
   simp only [oB]
   rw [c_inT (by omega),Int.toNat_natCast,z17r (by omega) hs]
   simp only [oB]
   rw [e1,w64 (n:=(m:Int)+1) (by omega) (by omega),show ((m:Int)+1)=((m+1:Nat):Int) by omega,zoz (by omega)]
   simp only [oB]
   rw [w64 (n:=(i:Int)+1) (by omega) (by omega),← hcast,ih]
   congr 2
   rw [List.take_succ_eq_append_getElem (by simp; omega),List.getElem_set_self,List.take_set_of_le (Nat.le_refl _)]
   simp
theorem zwa (s:List UInt8) (c:UInt8) (hs:s.length≤10000000000):zem s [c]=some (.sl 1 ((splitB c s).map PV.str)):=by
 have hc:=z16e s c
 have hl:=z1by c s
 rw [zu9,zob,c_eqF (by omega),zy8 (by simp),c_ltT (by omega),count1_s]
 simp only [oB,zq]
 rw [zj8,w64 (n:=((Lib.countByte s c:Nat):Int)+1) (by omega) (by omega),w64 (n:=((s.length:Nat):Int)+1) (by omega) (by omega)]
 have hmin:minI (((Lib.countByte s c:Nat):Int)+1) (((s.length:Nat):Int)+1)=(((splitB c s).length:Nat):Int):=by
  unfold minI
  rw [hl]
  by_cases h:((s.length:Nat):Int)+1<((Lib.countByte s c:Nat):Int)+1
  ·omega
  ·rw [decide_eq_false h,cond_false]; omega
 rw [hmin]
 have hp:(HPow.hPow (2:Int) 46:Int)=70368744177664:=by decide
 rw [hp,decide_eq_true (by omega),cond_true,w64 (by omega) (by omega),Int.toNat_natCast]
 have:=zzv c (splitB c s).length (by omega) (splitB c s).length (splitB c s).length s 0 (List.replicate (splitB c s).length (.str [])) rfl (by omega) (by simp) (by intro p hp; exact ⟨[],(List.mem_replicate.1 hp).2⟩) (by omega)
 simp only [List.take_zero,List.nil_append] at this
 rw [show ((0:Nat):Int)=0 from rfl] at this
 rw [this]
 rfl
end Dv

namespace Dv
open Go
def numN (s:List UInt8):Int:=((numV s).tnth 0).toI
def numE (s:List UInt8):Int:=((numV s).tnth 1).toI
def okSh (s:List UInt8):Bool:=eqB (numE s) 0&&leB ((s.length:Nat):Int) 2
def shortN (s:List UInt8):Int:=if okSh s then numN s else -1
theorem zqc:∀ (r:List UInt8) (n:Int) (o:Bool),∃ a b,numG r n o=.tuple [.int .i64 a,.int .i64 b]
 | [],n,o=>by cases o <;> exact ⟨_,_,rfl⟩
 | c::r,n,o=>by
  simp only [numG]
  cases digB c with
  | false=>exact ⟨_,_,rfl⟩
  | true =>
   cases o with
   | true=>exact zqc r 0 true
   | false=>cases leB (10*n+((c.toNat:Int)-48)) 9223372036854775807 with
    | true=>exact zqc r _ false
    | false=>exact zqc r 0 true
theorem zx4 (s:List UInt8):numV s=.tuple [.int .i64 (numN s),.int .i64 (numE s)]:=by
 have:∃ a b,numV s=.tuple [.int .i64 a,.int .i64 b]:=by
  unfold numV
  cases eqS s [] with
  | true=>exact ⟨_,_,rfl⟩
  | false=>exact zqc s 0 false
 obtain ⟨a,b,h⟩:=this
 unfold numN numE
 rw [h]; rfl
theorem numG_bad {c:UInt8} {r:List UInt8} {n:Int} {o:Bool} (hd:digB c=false):numG (c::r) n o=badV:=by
 simp only [numG,hd,cond_false]
theorem zvb {x:UInt8} (hx:digB x=false):∀ (r:List UInt8) (n:Int) (o:Bool),x∈r→numG r n o=badV
 | [],_,_,h=>by simp at h
 | c::r,n,o,h=>by
  cases hd:digB c with
  | false=>exact numG_bad hd
  | true =>
   have hm:x∈r:=by
    rcases List.mem_cons.1 h with rfl | h
    ·rw [hx] at hd; cases hd
    ·exact h
   simp only [numG,hd,cond_true]
   cases o with
   | true=>exact zvb hx r 0 true hm
   | false =>
    simp only [cond_false]
    cases leB (10*n+((c.toNat:Int)-48)) 9223372036854775807 with
    | true=>exact zvb hx r _ false hm
    | false=>exact zvb hx r 0 true hm
def okMS (t:List UInt8):Bool:=okSh t&&(eqB ((t.length:Nat):Int) 2&&ltB (numN t) 60)
def allOk:List (List UInt8)→Bool
 | []=>true
 | t::r=>okMS t&&allOk r
def accN:Int→Int→List (List UInt8)→Int
 | n,_,[]=>n
 | n,u,t::r=>accN (IntKind.i64.wrap (n+IntKind.i64.wrap (numN t*u))) (IntKind.i64.wrap (u.tdiv 60)) r
def okSec (l:List (List UInt8)):Bool :=
 match l with
 | h::r=>okSh h&&allOk r&&leB (((h::r).length:Nat):Int) 3
 | []=>false
def secN (l:List (List UInt8)):Int :=
 match l with
 | h::r=>accN (IntKind.i64.wrap (numN h*3600)) 60 r
 | []=>0
def secI (l:List (List UInt8)):Int:=if okSec l then secN l else -1
end Dv

namespace Dv
open Go
def glue (p:List UInt8):List (List UInt8)→List (List UInt8)
 | q::qs=>(p++q)::qs
 | []=>[p]
theorem z1at (init:List (List UInt8)) (p:List UInt8):rdT tiStr ((init++[p]).map PV.str) init.length 0=some (.str p):=z12l (by rw [List.getElem?_append_right (Nat.le_refl _),Nat.sub_self]; rfl)
theorem z19u (init:List (List UInt8)) (p q:List UInt8):stC ((init++[p]).map PV.str) init.length 0 [.str q]=some ((init++[q]).map PV.str):=by
 rw [z17r (by simp) (by intro v hv; obtain ⟨t,_,rfl⟩:=List.mem_map.1 hv; exact ⟨t,rfl⟩)]
 congr 1
 rw [List.map_append,List.map_append,List.set_append,if_neg (by simp)]
 simp
end Dv

namespace Dv
open Go
abbrev Sm (s:List UInt8):Prop:=s.length≤10000000000
theorem Sm.small {s:List UInt8} (h:Sm s):Small s:=by unfold Small; have:s.length≤10000000000:=h; omega
def dgs (s:List UInt8) (lo hi:Int):Bool:=leB lo (s.length:Int)&&(leB (s.length:Int) hi&&s.all digB)
theorem zvc:∀ (r:List UInt8) (n:Int) (o:Bool),r.all digB=true→((numG r n o).tnth 1).toI≠13
 | [],n,o,_=>by cases o <;> simp [numG,PV.tnth,nthD,PV.toI]
 | c::r,n,o,h=>by
  simp only [List.all_cons,Bool.and_eq_true] at h
  simp only [numG,h.1,cond_true]
  cases o with
  | true=>exact zvc r 0 true h.2
  | false =>
   cases leB (10*n+((c.toNat:Int)-48)) 9223372036854775807 with
   | true=>exact zvc r _ false h.2
   | false=>exact zvc r 0 true h.2
theorem z1ab {s:List UInt8} (hne:s≠[]):numE s=13↔s.all digB=false:=by
 have e:numV s=numG s 0 false:=by unfold numV; rw [zy8 hne]
 constructor
 ·intro h
  cases ha:s.all digB with
  | false=>rfl
  | true=>exact absurd (by unfold numE at h; rw [e] at h; exact h) (zvc s 0 false ha)
 ·intro h
  rw [List.all_eq_false] at h
  obtain ⟨x,hx,hd⟩:=h
  have hd:digB x=false:=by cases hh:digB x <;> simp_all
  unfold numE
  rw [e,zvb hd s 0 false hx]; rfl
theorem zbc (s:List UInt8) (hs:Sm s) {lo:Int} (hl:1≤lo) (hi:Int):z2r s lo hi=some (.bool (dgs s lo hi)):=by
 rw [zza,zjp s hs.small]
 simp only [oB]
 rw [zx4]
 simp only [tn1,zq]
 unfold dgs
 by_cases h1:lo≤(s.length:Int)
 ·have hne:s≠[]:=by rintro rfl; simp at h1; omega
  have e1:leB lo (s.length:Int)=true:=decide_eq_true h1
  rw [c_leT h1,e1]
  cases ha:s.all digB with
  | true =>
   rw [c_not,c_eqF (by rw [z1ab hne,ha]; simp)]
   simp
  | false =>
   rw [c_not,c_eqT ((z1ab hne).2 ha)]
   simp
 ·have e1:leB lo (s.length:Int)=false:=decide_eq_false h1
  rw [c_leF h1,e1]
  cases (!eqB (numE s) 13) <;> rfl
theorem zn0 (s:List UInt8) (hs:Sm s):∀ (r:List UInt8) (i:Nat) (b:Bool),s.drop i=r→z2b s b (i:Int)=some (.bool (b&&r.all digB))
 | [],i,b,h=>by
  have:=ze0 h
  rw [z99,c_ltF (by omega)]; simp
 | c::r,i,b,h=>by
  obtain ⟨hi,hg,hr⟩:=z5c h
  have hsl:s.length≤10000000000:=hs
  have hw:IntKind.i64.wrap ((i:Int)+1)=((i+1:Nat):Int):=by rw [w64 (by omega) (by omega)]; omega
  rw [z99,c_ltT (by omega),hw]
  cases b with
  | false =>
   rw [z192,zn0 s hs r (i+1) false hr]; simp
  | true =>
   rw [z110,ztz hg]
   simp only [oB]
   by_cases h1:48≤c.toNat
   ·rw [c_leT (by omega),zn0 s hs r (i+1) _ hr]
    have:leB (c.toNat:Int) 57=digB c:=by
     unfold leB digB
     rw [decide_eq_decide]; omega
    rw [this]; simp
   ·rw [c_leF (by omega),zn0 s hs r (i+1) _ hr]
    have:digB c=false:=decide_eq_false (by omega)
    simp [this]
theorem zgm (s:List UInt8) (hs:Sm s) (lo hi:Int):zy s lo hi=some (.bool (dgs s lo hi)):=by
 rw [zio]
 unfold dgs
 simp only [zfr]
 have e:=fun b=>zn0 s hs s 0 b rfl
 simp only [Int.ofNat_zero,Int.natCast_zero] at e
 by_cases h1:lo≤(s.length:Int)
 ·have e1:leB lo (s.length:Int)=true:=decide_eq_true h1
  rw [c_leT h1,e1,e]; simp
 ·have e1:leB lo (s.length:Int)=false:=decide_eq_false h1
  rw [c_leF h1,e1,e]; simp
theorem ze7 (s:List UInt8) (hs:Sm s):z3s s=some (.int .i64 (numN s)):=by
 rw [zz9,zjp s hs.small,zx4]; rfl
theorem zka (s:List UInt8) (hs:Sm s):z16 s=some (.int .i64 (numN s)):=by
 rw [zim,rnum_s s hs.small,zx4]; rfl
def yearO (s:List UInt8):Int :=
 if dgs s 3 6 then numN s else if dgs s 1 2 then (if numN s<70 then IntKind.i64.wrap (2000+numN s) else IntKind.i64.wrap (1900+numN s)) else 0
theorem wyear_s (s:List UInt8) (hs:Sm s):zwm s=some (.int .i64 (yearO s)):=by
 rw [z159,ze7 s hs]
 simp only [oB,zq]
 rw [zbc s hs (by omega),zbc s hs (by omega)]
 simp only [oB,zv]
 unfold yearO
 cases dgs s 3 6 with
 | true=>rfl
 | false =>
  rw [cond_false,c_not]
  cases dgs s 1 2 with
  | false=>rfl
  | true =>
   rw [cond_true]
   by_cases h:numN s<70
   ·rw [c_ltT h]; simp [h]
   ·rw [c_ltF h]; simp [h]
theorem ryear_s (s:List UInt8) (hs:Sm s):zc6 s=some (.int .i64 (yearO s)):=by
 rw [zks,zgm s hs,zgm s hs,zka s hs]
 simp only [oB,zv,zq]
 unfold yearO
 cases dgs s 3 6 with
 | true=>rfl
 | false =>
  rw [cond_false,c_not]
  cases dgs s 1 2 with
  | false=>rfl
  | true =>
   rw [cond_true]
   by_cases h:numN s<70
   ·rw [c_ltT h]; simp [h]
   ·rw [c_ltF h]; simp [h]
def z6x:List (List UInt8):=[[74,97,110,117,97,114,121],[70,101,98,114,117,97,114,121],[77,97,114,99,104],[65,112,114,105,108],[77,97,121],[74,117,110,101],[74,117,108,121],[65,117,103,117,115,116],[83,101,112,116,101,109,98,101,114],[79,99,116,111,98,101,114],[78,111,118,101,109,98,101,114],[68,101,99,101,109,98,101,114]]
theorem zo0:∀ t∈z6x,Small t:=by
 intro t ht
 unfold Small
 simp only [z6x,List.mem_cons,List.not_mem_nil,or_false] at ht
 rcases ht with rfl | rfl | rfl | rfl | rfl | rfl | rfl | rfl | rfl | rfl | rfl | rfl <;> simp
def monI (s:List UInt8):Int:=zt3 s z6x+1
theorem zvf (s:List UInt8):0≤monI s∧monI s≤12:=by
 unfold monI zt3
 have:=zxs s z6x 0
 simp only [z6x,List.length_cons,List.length_nil] at this
 split
 ·omega
 ·simp only [z6x]; omega
theorem z19a (s:List UInt8) (hs:Sm s):zew s=some (.int .i64 (monI s)):=by
 have h:=zvf s
 rw [z11b]
 have:=wshort_s s hs.small z6x (by simp [z6x]) zo0
 simp only [z6x,List.map_cons,List.map_nil] at this ⊢
 rw [this]
 simp only [oB,zq]
 have e:IntKind.i64.wrap (zt3 s z6x+1)=monI s:=by unfold monI at h ⊢; rw [w64 (by omega) (by omega)]
 simp only [z6x] at e
 rw [e]
theorem zt7 (s:List UInt8) (hs:Sm s):z1r s=some (.int .i64 (monI s)):=by
 have h:=zvf s
 rw [zjf]
 have:=rshort_s s hs.small z6x (by simp [z6x]) zo0
 simp only [z6x,List.map_cons,List.map_nil] at this ⊢
 rw [this]
 simp only [oB,zq]
 have e:IntKind.i64.wrap (zt3 s z6x+1)=monI s:=by unfold monI at h ⊢; rw [w64 (by omega) (by omega)]
 simp only [z6x] at e
 rw [e]
theorem rd0 {a:List UInt8} {l:List (List UInt8)}:rdI tiStr ((a::l).map PV.str) 0=some (.str a):=rfl
theorem rd1s {a b:List UInt8} {l:List (List UInt8)}:rdI tiStr ((a::b::l).map PV.str) 1=some (.str b):=rfl
theorem rd2s {a b c:List UInt8} {l:List (List UInt8)}:rdI tiStr ((a::b::c::l).map PV.str) 2=some (.str c):=rfl
def monB (a b:List UInt8):Bool:=ltB 0 (monI a)||ltB 0 (monI b)
theorem z199 (a b:List UInt8) (l:List (List UInt8)) (ha:Sm a) (hb:Sm b):zmz ((a::b::l).map PV.str)=some (.bool (monB a b)):=by
 rw [z12j,rd0,rd1s]
 simp only [oB,z1j]
 rw [z19a a ha,z19a b hb]
 simp only [oB,zq]
 unfold monB
 cases ltB 0 (monI a) <;> rfl
theorem zok (s:List UInt8) (hs:Sm s) (b:UInt8):∀ (r:List UInt8) (i:Nat) (init:List (List UInt8)) (p:List UInt8),s.drop i=r→init.length≤i→p.length≤i →
  z2x s (b.toNat:Int) (i:Int) ((init++[p]).map PV.str)=some (.sl 1 ((init++glue p (splitB b r)).map PV.str))
 | [],i,init,p,h,hn,hp=>by
  have:=ze0 h
  rw [z8t,c_ltF (by omega)]
  simp only [splitB,glue,List.append_nil]
 | x::r,i,init,p,h,hn,hp=>by
  obtain ⟨hi,hg,hr⟩:=z5c h
  have hsl:s.length≤10000000000:=hs
  have hcast:((i+1:Nat):Int)=(i:Int)+1:=by omega
  have hw:IntKind.i64.wrap ((i:Int)+1)=((i+1:Nat):Int):=by rw [w64 (by omega) (by omega),hcast]
  have hlen:(((((init++[p]).map PV.str).length:Nat)):Int)=((init.length:Nat):Int)+1:=by simp
  have hlw:IntKind.i64.wrap (((((init++[p]).map PV.str).length:Nat):Int)-1)=((init.length:Nat):Int):=by rw [hlen,w64 (by omega) (by omega)]; omega
  rw [z8t,c_ltT (by omega),ztz hg]
  simp only [oB]
  by_cases hx:x=b
  ·subst hx
   have e1:splitB x (x::r)=[]::splitB x r:=by simp [splitB]
   rw [c_eqT rfl,zit (by simp; omega)]
   simp only [oB]
   rw [hw,show (init++[p]).map PV.str++[PV.str []]=((init++[p])++[[]]).map PV.str by simp,
    zok s hs x r (i+1) (init++[p]) [] hr (by simp; omega) (by simp),e1]
   congr 3
   cases hsp:splitB x r with
   | nil=>exact absurd hsp (zbl x r)
   | cons q qs=>simp [glue]
  ·have hne:¬ (x.toNat:Int)=(b.toNat:Int):=by
    intro h; apply hx; apply UInt8.toNat_inj.1; omega
   have hsub:subS s (i:Int) ((i+1:Nat):Int)=some [x]:=by
    rw [z14w (by omega) (by omega),h]
    have:(i+1-i)=1:=by omega
    rw [this]; rfl
   have hcat:catS p [x]=some (p++[x]):=zfh (by simp; omega)
   rw [c_eqF hne,hlw,c_inT (by omega),Int.toNat_natCast,z1at]
   simp only [oB,z1j]
   rw [hw,hsub]
   simp only [oB]
   rw [hcat]
   simp only [oB]
   rw [c_inT (by omega),z19u]
   simp only [oB]
   rw [zok s hs b r (i+1) init (p++[x]) hr (by omega) (by simp; omega)]
   have e2:splitB b (x::r)=match splitB b r with | p::ps=>(x::p)::ps | []=>[[x]]:=by rw [splitB,if_neg hx] <;> cases splitB b r <;> rfl
   rw [e2]
   congr 3
   cases hsp:splitB b r with
   | nil=>exact absurd hsp (zbl b r)
   | cons q qs=>simp [glue]
theorem zt6 (s:List UInt8) (hs:Sm s) (b:UInt8):∀ (r:List UInt8) (i:Nat) (p:List UInt8),s.drop i=r→p.length≤i →
  z3p s (b.toNat:Int) (i:Int) [PV.str p] 1=some (.sl 1 ((glue p (splitB b r)).map PV.str))
 | [],i,p,h,hp=>by
  have:=ze0 h
  rw [za3,c_ltF (by omega)]
  simp [splitB,glue]
 | x::r,i,p,h,hp=>by
  obtain ⟨hi,hg,hr⟩:=z5c h
  have hsl:s.length≤10000000000:=hs
  have hcast:((i+1:Nat):Int)=(i:Int)+1:=by omega
  have hw:IntKind.i64.wrap ((i:Int)+1)=((i+1:Nat):Int):=by rw [w64 (by omega) (by omega),hcast]
  have hlw:IntKind.i64.wrap ((([PV.str p].length:Nat):Int)-1)=((0:Nat):Int):=by rw [w64 (by simp) (by simp)]; simp
  rw [za3,c_ltT (by omega),ztz hg]
  simp only [oB]
  by_cases hx:x=b
  ·subst hx
   have e1:splitB x (x::r)=[]::splitB x r:=by simp [splitB]
   rw [c_eqT rfl,zit (by simp)]
   simp only [oB]
   rw [c_lenF (by simp),hw,show [PV.str p]++[PV.str []]=([p]++[[]]).map PV.str by simp,
    zok s hs x r (i+1) [p] [] hr (by simp) (by simp),e1]
   congr 3
   cases hsp:splitB x r with
   | nil=>exact absurd hsp (zbl x r)
   | cons q qs=>simp [glue]
  ·have hne:¬ (x.toNat:Int)=(b.toNat:Int):=by
    intro h; apply hx; apply UInt8.toNat_inj.1; omega
   have hsub:subS s (i:Int) ((i+1:Nat):Int)=some [x]:=by
    rw [z14w (by omega) (by omega),h]
    have:(i+1-i)=1:=by omega
    rw [this]; rfl
   have hcat:catS p [x]=some (p++[x]):=zfh (by simp; omega)
   have ml:=z1at [] p
   have sl:=fun q=>z19u [] p q
   simp only [List.nil_append,List.length_nil,List.map_cons,List.map_nil] at ml sl
   rw [c_eqF hne,hlw,c_inT (by simp),Int.toNat_natCast,ml]
   simp only [oB,z1j]
   rw [hw,hsub]
   simp only [oB]
   rw [hcat]
   simp only [oB]
   rw [c_inT (by simp),sl]
   simp only [oB]
   rw [zt6 s hs b r (i+1) (p++[x]) hr (by simp; omega)]
   have e2:splitB b (x::r)=match splitB b r with | p::ps=>(x::p)::ps | []=>[[x]]:=by rw [splitB,if_neg hx] <;> cases splitB b r <;> rfl
   rw [e2]
   congr 3
   cases hsp:splitB b r with
   | nil=>exact absurd hsp (zbl b r)
   | cons q qs=>simp [glue]
theorem rsplit_s (s:List UInt8) (hs:Sm s) (b:UInt8):zag s (b.toNat:Int)=some (.sl 1 ((splitB b s).map PV.str)):=by
 rw [zja]
 have:=zt6 s hs b s 0 [] rfl (Nat.le_refl _)
 rw [show ((0:Int))=((0:Nat):Int) from rfl,this]
 congr 3
 cases hsp:splitB b s with
 | nil=>exact absurd hsp (zbl b s)
 | cons q qs=>simp [glue]
theorem splitB_sm (b:UInt8) {s:List UInt8} (hs:Sm s):∀ p∈splitB b s,Sm p:=fun p hp=>Nat.le_trans (zsx b s p hp) hs
end Dv

namespace Dv
open Go
theorem z178 {a:Int} (h0:0≤a) (h1:a≤1000000000000):xorI .i64 (-1) a<0:=by
 show IntKind.i64.wrap ((BitVec.ofInt 64 (-1) ^^^ BitVec.ofInt 64 a).toNat:Int)<0
 have e1:BitVec.ofInt 64 (-1)=BitVec.allOnes 64:=by decide
 have e3:(BitVec.ofInt 64 a).toNat=a.toNat:=by
  rw [BitVec.toNat_ofInt]; omega
 rw [e1,BitVec.allOnes_xor,BitVec.toNat_not,e3,IntKind.wrap_i64]
 omega
theorem fin1 (s:List UInt8) (sp:List (Nat×Nat)) (hl:sp.length≤1000000000000) (hp:∀ p∈sp,p.1≤p.2∧p.2≤s.length) :
  z2t s (sp.map spV)=some (.sl 1 ((sp.map (spW s)).map PV.str)):=by
 rw [zf2,decide_eq_true (by simp; omega),cond_true]
 have h:=zry s sp hl hp (fun s a b c d e=>z4p s a b c d e) (fun x1 x2 x3 x4 x5=>zf1 s x1 x2 x3 x4 x5) sp.length sp.length 0 (by omega)
 simp only [List.take_zero,List.map_nil,List.nil_append] at h
 rw [List.length_map,Int.toNat_natCast]
 rw [show ((0:Int))=((0:Nat):Int) from rfl,h]
 simp [Function.comp_def]
theorem fin0 (s:List UInt8) (sp:List (Nat×Nat)) (hl:sp.length≤1000000000000) (hp:∀ p∈sp,p.1≤p.2∧p.2≤s.length) (cp:Nat) :
  z5m s (sp.map spV) cp=some (.sl 1 ((sp.map (spW s)).map PV.str)):=by
 rw [zgk,decide_eq_true (by simp; omega),cond_true]
 have h:=zry s sp hl hp (fun s a b c d e=>z5l s a b c d e cp) (fun x1 x2 x3 x4 x5=>zgj s x1 x2 x3 x4 x5 cp) sp.length sp.length 0 (by omega)
 simp only [List.take_zero,List.map_nil,List.nil_append] at h
 rw [List.length_map,Int.toNat_natCast]
 rw [show ((0:Int))=((0:Nat):Int) from rfl,h]
 simp [Function.comp_def]
def StOk (s:List UInt8) (i:Nat) (x2:Int) (cur:List UInt8):Prop:=(x2<0∧cur=[])∨∃ a:Nat,x2=(a:Int)∧a<i∧cur=(s.drop a).take (i-a)
theorem cur_app {s:List UInt8} {a i n:Nat} (ha:a≤i) (hn:i+n≤s.length):(s.drop a).take (i-a)++(s.drop i).take n=(s.drop a).take (i+n-a):=by
 rw [show i+n-a=(i-a)+n by omega,List.take_add,List.drop_drop,show a+(i-a)=i by omega]
theorem ff_loop1 (s:List UInt8) (hs:Sm s):∀ (m i:Nat) (x2:Int) (sp:List (Nat×Nat)) (cur:List UInt8),s.length-i≤m→i≤s.length→sp.length≤i→(∀ p∈sp,p.1≤p.2∧p.2≤s.length)→StOk s i x2 cur →
  z1p s blF x2 (sp.map spV) s i=some (.sl 1 ((sp.map (spW s)++z4x cur (s.drop i)).map PV.str)):=by
 have hsl:s.length≤10000000000:=hs
 intro m
 induction m with
 | zero =>
  intro i x2 sp cur hm hi hsp hp hst
  obtain rfl:i=s.length:=by omega
  rw [z61,z111 (by omega),List.drop_length]
  rcases hst with ⟨h1,rfl⟩ | ⟨a,rfl,h1,h2⟩
  ·rw [c_leF (by omega),fin1 s sp (by omega) hp]
   simp [z4x]
  ·have hne:cur≠[]:=by rw [h2,Ne,zp1 (Nat.le_refl _)]; omega
   rw [c_leT (by omega),zit (by simp; omega)]
   simp only [oB]
   have e:sp.map spV++[PV.agg [PV.int .i64 (a:Int),PV.int .i64 ((s.length:Nat):Int)]]=(sp++[(a,s.length)]).map spV:=by simp [spV]
   rw [e,fin1 s _ (by simp; omega) (by intro p hpm; rcases List.mem_append.1 hpm with h | h; exact hp p h; simp at h; subst h; exact ⟨by omega,Nat.le_refl _⟩)]
   have ew:z4x cur []=[cur]:=by rw [z4x,if_neg hne]
   have e3:spW s (a,s.length)=cur:=h2.symm
   simp [ew,e3]
 | succ m ih =>
  intro i x2 sp cur hm hi hsp hp hst
  by_cases hend:i=s.length
  ·exact (by
    subst hend
    rw [z61,z111 (by omega),List.drop_length]
    rcases hst with ⟨h1,rfl⟩ | ⟨a,rfl,h1,h2⟩
    ·rw [c_leF (by omega),fin1 s sp (by omega) hp]
     simp [z4x]
    ·have hne:cur≠[]:=by rw [h2,Ne,zp1 (Nat.le_refl _)]; omega
     rw [c_leT (by omega),zit (by simp; omega)]
     simp only [oB]
     have e:sp.map spV++[PV.agg [PV.int .i64 (a:Int),PV.int .i64 ((s.length:Nat):Int)]]=(sp++[(a,s.length)]).map spV:=by simp [spV]
     rw [e,fin1 s _ (by simp; omega) (by intro p hpm; rcases List.mem_append.1 hpm with h | h; exact hp p h; simp at h; subst h; exact ⟨by omega,Nat.le_refl _⟩)]
     have ew:z4x cur []=[cur]:=by rw [z4x,if_neg hne]
     have e3:spW s (a,s.length)=cur:=h2.symm
     simp [ew,e3])
  ·have hlt:i<s.length:=by omega
   obtain ⟨c,r,hr⟩:∃ c r,s.drop i=c::r:=⟨_,_,List.drop_eq_getElem_cons hlt⟩
   obtain ⟨_,h2,h3⟩:=z5c hr
   rw [z61,z16n hlt,z113]
   simp only [oB,zv]
   rcases step_rune hr with ⟨hb,hd⟩ | ⟨n,hn,hn1,hn2,hno,hall⟩
   ·have hb':=of_decide_eq_true hb
    rw [decide_eq_true (by rw [hd]; simp only; omega),cond_true,hd]
    simp only
    rcases hst with ⟨h1,rfl⟩ | ⟨a,rfl,h1,hcur⟩
    ·rw [c_leF (by omega),ih (i+1) x2 sp [] (by omega) (by omega) (by omega) hp (.inl ⟨h1,rfl⟩),h3,hr,zdg hb,if_pos rfl]
    ·have hne:cur≠[]:=by rw [hcur,Ne,zp1 (by omega)]; omega
     rw [c_leT (by omega),zit (by simp; omega)]
     simp only [oB]
     have e:sp.map spV++[PV.agg [PV.int .i64 (a:Int),PV.int .i64 ((i:Nat):Int)]]=(sp++[(a,i)]).map spV:=by simp [spV]
     rw [e,ih (i+1) _ _ [] (by omega) (by omega) (by simp; omega) (by intro p hpm; rcases List.mem_append.1 hpm with h | h; exact hp p h; simp at h; subst h; exact ⟨by omega,by omega⟩) (.inl ⟨z178 (by omega) (by omega),rfl⟩)]
     rw [h3,hr,zdg hb,if_neg hne]
     simp [spW,hcur]
   ·rw [decide_eq_false (by omega),cond_false]
    rw [hn]
    have hsplit:s.drop i=(s.drop i).take n++s.drop (i+n):=by
     rw [← List.drop_drop,List.take_append_drop]
    rcases hst with ⟨h1,rfl⟩ | ⟨a,rfl,h1,hcur⟩
    ·rw [c_ltT h1,ih (i+n) (i:Int) sp ((s.drop i).take n) (by omega) hn2 (by omega) hp (.inr ⟨i,rfl,by omega,by rw [show i+n-i=n by omega]⟩)]
     conv=>rhs; rw [hsplit]
     rw [zac _ _ _ hall]; simp
    ·rw [c_ltF (by omega),ih (i+n) (a:Int) sp (cur++(s.drop i).take n) (by omega) hn2 (by omega) hp (.inr ⟨a,rfl,by omega,by rw [hcur,cur_app (by omega) hn2]⟩)]
     conv=>rhs; rw [hsplit]
     rw [zac _ _ _ hall]
theorem ff_loop (s:List UInt8) (hs:Sm s) (cp:Nat):∀ (m i:Nat) (x2:Int) (sp:List (Nat×Nat)) (cur:List UInt8),s.length-i≤m→i≤s.length→sp.length≤i→(∀ p∈sp,p.1≤p.2∧p.2≤s.length)→StOk s i x2 cur →
  z1m s blF x2 (sp.map spV) cp s i=some (.sl 1 ((sp.map (spW s)++z4x cur (s.drop i)).map PV.str)):=by
 have hsl:s.length≤10000000000:=hs
 have done:∀ (x2:Int) (sp:List (Nat×Nat)) (cur:List UInt8),sp.length≤s.length→(∀ p∈sp,p.1≤p.2∧p.2≤s.length)→StOk s s.length x2 cur →
   z1m s blF x2 (sp.map spV) cp s s.length=some (.sl 1 ((sp.map (spW s)++z4x cur (s.drop s.length)).map PV.str)):=by
  intro x2 sp cur hsp hp hst
  rw [zap,z111 (by omega),List.drop_length]
  rcases hst with ⟨h1,rfl⟩ | ⟨a,rfl,h1,h2⟩
  ·rw [c_leF (by omega),fin0 s sp (by omega) hp]
   simp [z4x]
  ·have hne:cur≠[]:=by rw [h2,Ne,zp1 (Nat.le_refl _)]; omega
   rw [c_leT (by omega),zit (by simp; omega)]
   simp only [oB]
   have e:sp.map spV++[PV.agg [PV.int .i64 (a:Int),PV.int .i64 ((s.length:Nat):Int)]]=(sp++[(a,s.length)]).map spV:=by simp [spV]
   have hp':∀ p∈sp++[(a,s.length)],p.1≤p.2∧p.2≤s.length:=by
    intro p hpm; rcases List.mem_append.1 hpm with h | h
    ·exact hp p h
    ·simp at h; subst h; exact ⟨by omega,Nat.le_refl _⟩
   rw [e,fin0 s _ (by simp; omega) hp',fin1 s _ (by simp; omega) hp']
   have ew:z4x cur []=[cur]:=by rw [z4x,if_neg hne]
   have e3:spW s (a,s.length)=cur:=h2.symm
   cases leN ((sp++[(a,s.length)]).map spV).length cp <;> simp [ew,e3]
 intro m
 induction m with
 | zero =>
  intro i x2 sp cur hm hi hsp hp hst
  obtain rfl:i=s.length:=by omega
  exact done x2 sp cur hsp hp hst
 | succ m ih =>
  intro i x2 sp cur hm hi hsp hp hst
  by_cases hend:i=s.length
  ·subst hend; exact done x2 sp cur hsp hp hst
  ·have hlt:i<s.length:=by omega
   obtain ⟨c,r,hr⟩:∃ c r,s.drop i=c::r:=⟨_,_,List.drop_eq_getElem_cons hlt⟩
   obtain ⟨_,h2,h3⟩:=z5c hr
   rw [zap,z16n hlt,z113]
   simp only [oB,zv]
   rcases step_rune hr with ⟨hb,hd⟩ | ⟨n,hn,hn1,hn2,hno,hall⟩
   ·have hb':=of_decide_eq_true hb
    rw [decide_eq_true (by rw [hd]; simp only; omega),cond_true,hd]
    simp only
    rcases hst with ⟨h1,rfl⟩ | ⟨a,rfl,h1,hcur⟩
    ·rw [c_leF (by omega),ih (i+1) x2 sp [] (by omega) (by omega) (by omega) hp (.inl ⟨h1,rfl⟩),h3,hr,zdg hb,if_pos rfl]
    ·have hne:cur≠[]:=by rw [hcur,Ne,zp1 (by omega)]; omega
     rw [c_leT (by omega),zit (by simp; omega)]
     simp only [oB]
     have e:sp.map spV++[PV.agg [PV.int .i64 (a:Int),PV.int .i64 ((i:Nat):Int)]]=(sp++[(a,i)]).map spV:=by simp [spV]
     have hp':∀ p∈sp++[(a,i)],p.1≤p.2∧p.2≤s.length:=by
      intro p hpm; rcases List.mem_append.1 hpm with h | h
      ·exact hp p h
      ·simp at h; subst h; exact ⟨by omega,by omega⟩
     rw [e,ih (i+1) _ _ [] (by omega) (by omega) (by simp; omega) hp' (.inl ⟨z178 (by omega) (by omega),rfl⟩),
      ff_loop1 s hs m (i+1) _ _ [] (by omega) (by omega) (by simp; omega) hp' (.inl ⟨z178 (by omega) (by omega),rfl⟩)]
     rw [h3,hr,zdg hb,if_neg hne]
     cases leN ((sp++[(a,i)]).map spV).length cp <;> simp [spW,hcur]
   ·rw [decide_eq_false (by omega),cond_false]
    rw [hn]
    have hsplit:s.drop i=(s.drop i).take n++s.drop (i+n):=by
     rw [← List.drop_drop,List.take_append_drop]
    rcases hst with ⟨h1,rfl⟩ | ⟨a,rfl,h1,hcur⟩
    ·rw [c_ltT h1,ih (i+n) (i:Int) sp ((s.drop i).take n) (by omega) hn2 (by omega) hp (.inr ⟨i,rfl,by omega,by rw [show i+n-i=n by omega]⟩)]
     conv=>rhs; rw [hsplit]
     rw [zac _ _ _ hall]; simp
    ·rw [c_ltF (by omega),ih (i+n) (a:Int) sp (cur++(s.drop i).take n) (by omega) hn2 (by omega) hp (.inr ⟨a,rfl,by omega,by rw [hcur,cur_app (by omega) hn2]⟩)]
     conv=>rhs; rw [hsplit]
     rw [zac _ _ _ hall]
theorem zuu (s:List UInt8) (hs:Sm s):zmx s=some (.sl 1 ((z1x s).map PV.str)):=by
 rw [z12h,zk5]
 have h:=ff_loop s hs 32 s.length 0 (-1) [] [] (by omega) (Nat.zero_le _) (Nat.le_refl _) (by simp) (.inl ⟨by omega,rfl⟩)
 simp only [List.map_nil,List.nil_append,List.drop_zero] at h
 have e:(okOther blF&&true)=true:=rfl
 rw [e,cond_true,h]
 rfl
end Dv

namespace Dv
open Go
abbrev DateO:=Option (Int×Int×Int)
def tupO:DateO→Int→Int→Int→PV
 | some (y,m,d),_,_,_=>.tuple [.agg [.int .i64 y,.int .i64 m,.int .i64 d],.bool true]
 | none,y,m,d=>.tuple [.agg [.int .i64 y,.int .i64 m,.int .i64 d],.bool false]
def IsW (v:PV) (o:DateO):Prop:=∃ y m d,v=tupO o y m d
def IsR (v:PV) (o:DateO):Prop:=match o with
 | some (y,m,d)=>v=.agg [.int .i64 y,.int .i64 m,.int .i64 d,.bool true]
 | none=>∃ y m d,v=.agg [.int .i64 y,.int .i64 m,.int .i64 d,.bool false]
def namO (a b c:List UInt8):DateO :=
 if 0<monI a then (if dgs b 1 2&&dgs c 3 6 then some (numN c,monI a,numN b) else none)
 else if 0<monI b then
  (if dgs a 3 6 then (if dgs c 1 2&&dgs a 3 6 then some (numN a,monI b,numN c) else none)
   else (if dgs a 1 2&&dgs c 3 6 then some (numN c,monI b,numN a) else none))
 else none
theorem z1am (s:List UInt8) (hs:Sm s):callW EE [zf0] (.func (.func z2d) [] []) [.str s]=some (.bool (ltB 0 (monI s))):=by
 have e:funTI EE z2d=[zf0]:=by kernel_rfl
 have h:=zng s
 rw [z19a s hs] at h
 simp only [oB,zq] at h
 unfold zh9 callF at h
 rw [e] at h
 exact h
theorem at_s (a b:List UInt8) (ha:Sm a) (hb:Sm b):z8k [.str a,.str b] (.func (.func z2d) [] [])=some (.int .i64 (if 0<monI a then 0 else if 0<monI b then 1 else -1)):=by
 have e0:okOther (.func (.func z2d) [] [])=true:=rfl
 have w1:IntKind.i64.wrap (0+1)=1:=rfl
 have w2:IntKind.i64.wrap (1+1)=2:=rfl
 have r0:rdI tiStr [.str a,.str b] 0=some (.str a):=rfl
 have r1:rdI tiStr [.str a,.str b] 1=some (.str b):=rfl
 rw [zh8,e0,Bool.true_and,cond_true,z5f,c_ltT (by simp),r0]
 simp only [oB,z1j]
 rw [z1am a ha]
 simp only [oB,zv]
 by_cases h1:0<monI a
 ·rw [c_ltT h1,if_pos h1]
 ·rw [c_ltF h1,if_neg h1,w1,z5f,c_ltT (by simp),r1]
  simp only [oB,z1j]
  rw [z1am b hb]
  simp only [oB,zv]
  by_cases h2:0<monI b
  ·rw [c_ltT h2,if_pos h2]
  ·rw [c_ltF h2,if_neg h2,w2,z5f,c_ltF (by simp)]
theorem zx5 (l:List PV) (k:Int) (x:List UInt8) (hk:rdI tiStr l k=some (.str x)) (p q r:List UInt8) (hx:Sm x) (hp:Sm p) (hq:Sm q) (y m d:Int) :
  ∃ v,z1h l k 0 2 y m d [.str p,.str q,.str r]=some v∧IsW v (if dgs p 1 2&&dgs q 3 6 then some (numN q,monI x,numN p) else none):=by
 have r0:rdT tiStr [.str p,.str q,.str r] 0 0=some (.str p):=rfl
 have r1:rdT tiStr [.str p,.str q,.str r] (0+1) 0=some (.str q):=rfl
 have i0:inB 0 0 ((2:Nat):Int)=true:=rfl
 have i1:inB 0 1 ((2:Nat):Int)=true:=rfl
 rw [zi8]
 simp only [i0,i1,cond_true]
 rw [r1,r0,hk]
 simp only [oB,z1j]
 rw [ze7 q hq,z19a x hx,ze7 p hp]
 simp only [oB,zq]
 rw [zbc p hp (by omega),zbc q hq (by omega)]
 simp only [oB,zv]
 cases dgs p 1 2 with
 | false=>exact ⟨_,rfl,_,_,_,rfl⟩
 | true =>
  rw [cond_true]
  cases dgs q 3 6 with
  | false=>exact ⟨_,rfl,_,_,_,rfl⟩
  | true=>exact ⟨_,rfl,0,0,0,rfl⟩
theorem z198 (a b c:List UInt8) (ha:Sm a) (hb:Sm b) (hc:Sm c):∃ v,zf6 ([a,b,c].map PV.str)=some v∧IsW v (namO a b c):=by
 have t2:takeS ([a,b,c].map PV.str) (2:Int)=some [.str a,.str b]:=rfl
 rw [zq7,t2]
 simp only [oB]
 rw [at_s a b ha hb]
 simp only [oB,zq]
 unfold namO
 by_cases h1:0<monI a
 ·rw [if_pos h1,if_pos h1]
  obtain ⟨v,hv,hw⟩:=zx5 ([a,b,c].map PV.str) 0 a rfl b c [] ha hb hc 0 0 0
  refine ⟨v,?_,hw⟩
  rw [← hv]
  have e:z4z ([a,b,c].map PV.str) 0 0 2 0 0 0 [.str b,.str c,.str []]=z1h ([a,b,c].map PV.str) 0 0 2 0 0 0 [.str b,.str c,.str []]:=by
   rw [zbp,c_eqF (by omega)]
  rw [← e]
  show _=_
  kernel_rfl
 ·rw [if_neg h1,if_neg h1]
  by_cases h2:0<monI b
  ·rw [if_pos h2,if_pos h2]
   have e:z4z ([a,b,c].map PV.str) 1 0 2 0 0 0 [.str a,.str c,.str []]=bif dgs a 3 6 then z1h ([a,b,c].map PV.str) 1 0 2 0 0 0 [.str c,.str a,.str []] else z1h ([a,b,c].map PV.str) 1 0 2 0 0 0 [.str a,.str c,.str []]:=by
    have r0:rdT tiStr [.str a,.str c,.str []] 0 0=some (.str a):=rfl
    rw [zbp,c_eqT rfl,c_inT (by simp),r0]
    simp only [oB,z1j]
    rw [zbc a ha (by omega)]
    simp only [oB,zv]
    rw [zi9,z2e]
    have e2:z12 0 2 1 0 [.str c,.str a,.str []] 0 0 0 ([a,b,c].map PV.str) 1 0 2 0 2=z1h ([a,b,c].map PV.str) 1 0 2 0 0 0 [.str c,.str a,.str []]:=by
     rw [z2e,c_ltF (by omega)]
    rw [← e2]
    show _=_
    kernel_rfl
   obtain ⟨v,hv,hw⟩:∃ v,z4z ([a,b,c].map PV.str) 1 0 2 0 0 0 [.str a,.str c,.str []]=some v∧IsW v (if dgs a 3 6 then (if dgs c 1 2&&dgs a 3 6 then some (numN a,monI b,numN c) else none)
     else (if dgs a 1 2&&dgs c 3 6 then some (numN c,monI b,numN a) else none)):=by
    rw [e]
    have f1:=zx5 ([a,b,c].map PV.str) 1 b rfl c a [] hb hc ha 0 0 0
    have f2:=zx5 ([a,b,c].map PV.str) 1 b rfl a c [] hb ha hc 0 0 0
    cases hd:dgs a 3 6 with
    | true=>rw [hd] at f1; exact f1
    | false=>exact f2
   refine ⟨v,?_,hw⟩
   rw [← hv]
   show _=_
   kernel_rfl
  ·rw [if_neg h2,if_neg h2,c_ltT (by omega)]
   exact ⟨_,rfl,_,_,_,rfl⟩
theorem z19y (a b c:List UInt8) (ha:Sm a) (hb:Sm b) (hc:Sm c):∃ v,z7r ([a,b,c].map PV.str)=some v∧IsR v (namO a b c):=by
 have h0:=zvf a
 have h1:=zvf b
 have fin:∀ (m:Int) (p q:List UInt8),Sm p→Sm q→∃ v,z3e m p q 0 0 0 false=some v∧IsR v (if 0<m∧(dgs p 1 2&&dgs q 3 6)=true then some (numN q,m,numN p) else none):=by
  intro m p q hp hq
  rw [zfp]
  by_cases hm:0<m
  ·rw [c_ltT hm,zgm p hp]
   simp only [oB,zv]
   cases dgs p 1 2 with
   | false =>
    rw [cond_false,z63]
    exact ⟨_,rfl,by simp [IsR]⟩
   | true =>
    rw [cond_true,zgm q hq]
    simp only [oB,zv]
    rw [z63,zka p hp,zka q hq]
    cases dgs q 3 6 with
    | false=>exact ⟨_,rfl,by simp [IsR]⟩
    | true=>exact ⟨_,rfl,by simp [IsR,hm,PV.toI]⟩
  ·rw [c_ltF hm,z63]
   exact ⟨_,rfl,by simp [IsR,hm]⟩
 rw [zjc,c_not,c_eqT (by simp),rd0,rd1s,rd2s]
 simp only [oB,z1j]
 rw [zt7 a ha,zt7 b hb]
 simp only [oB,zq]
 unfold namO
 by_cases ha0:monI a=0
 ·rw [c_eqT ha0,za5,rd0]
  simp only [oB,z1j]
  rw [zt7 a ha]
  simp only [oB,zq]
  rw [c_eqT ha0,zgm a ha]
  simp only [oB,zv]
  rw [if_neg (by omega)]
  cases hd:dgs a 3 6 with
  | true =>
   rw [cond_true,zfq]
   obtain ⟨v,hv,hr⟩:=fin (monI b) c a hc ha
   refine ⟨v,hv,?_⟩
   by_cases hb0:0<monI b
   ·simpa [hb0,hd] using hr
   ·simpa [hb0] using hr
  | false =>
   rw [cond_false]
   obtain ⟨v,hv,hr⟩:=fin (monI b) a c ha hc
   refine ⟨v,hv,?_⟩
   by_cases hb0:0<monI b
   ·simpa [hb0] using hr
   ·simpa [hb0] using hr
 ·rw [c_eqF ha0,za5,rd0]
  simp only [oB,z1j]
  rw [zt7 a ha]
  simp only [oB,zq]
  rw [c_eqF ha0,if_pos (by omega)]
  obtain ⟨v,hv,hr⟩:=fin (monI a) b c hb hc
  refine ⟨v,hv,?_⟩
  have:0<monI a:=by omega
  simpa [this] using hr
def grpO (y m d:List UInt8):DateO:=if dgs m 1 2&&(dgs d 1 2&&dgs y 1 6) then some (yearO y,numN m,numN d) else none
def zw7 (a b c:List UInt8) (o:Int):DateO:=if dgs a 3 6||eqB o 0 then grpO a b c else if eqB o 1 then grpO c b a else grpO c a b
theorem z19c (y m d:List UInt8) (hy:Sm y) (hm:Sm m) (hd:Sm d) (i j k:Int):∃ v,z4q y m d i j k=some v∧IsW v (grpO y m d):=by
 rw [zkc,wyear_s y hy,ze7 m hm,ze7 d hd]
 simp only [oB,zq]
 rw [zbc m hm (by omega),zbc d hd (by omega),zbc y hy (by omega)]
 simp only [oB,zv]
 unfold grpO
 cases dgs m 1 2 <;> cases dgs d 1 2 <;> cases dgs y 1 6 <;> first | exact ⟨_,rfl,0,0,0,rfl⟩ | exact ⟨_,rfl,_,_,_,rfl⟩
theorem wthree_s (a b c:List UInt8) (ha:Sm a) (hb:Sm b) (hc:Sm c) (o:Int):∃ v,zf4 ([a,b,c].map PV.str) o=some v∧IsW v (zw7 a b c o):=by
 rw [zq5,rd0,rd1s,rd2s]
 simp only [oB,z1j]
 rw [zbc a ha (by omega)]
 simp only [oB,zv]
 unfold zw7
 cases dgs a 3 6 with
 | true=>exact z19c a b c ha hb hc 0 0 0
 | false =>
  rw [cond_false]
  cases h0:eqB o 0 with
  | true=>exact z19c a b c ha hb hc 0 0 0
  | false =>
   rw [cond_false,zkd,rd0,rd1s,rd2s]
   simp only [oB,z1j]
   cases h1:eqB o 1 with
   | true=>exact z19c c b a hc hb ha 0 0 0
   | false=>exact z19c c a b hc ha hb 0 0 0
theorem z19z (y m d:List UInt8) (hy:Sm y) (hm:Sm m) (hd:Sm d):∃ v,z2a y m d 0 0 0 false=some v∧IsR v (grpO y m d):=by
 rw [zfm,zgm m hm,zgm d hd,zgm y hy]
 simp only [oB,zv]
 rw [zfl,zfk,ryear_s y hy,zka m hm,zka d hd]
 simp only [oB,zq]
 unfold grpO
 cases dgs m 1 2 <;> cases dgs d 1 2 <;> cases dgs y 1 6 <;> exact ⟨_,rfl,by simp [IsR]⟩
theorem z19v (a b c:List UInt8) (ha:Sm a) (hb:Sm b) (hc:Sm c) (o:Int) (ho:0≤o∧o≤2):∃ v,z56 o ([a,b,c].map PV.str) 0 0 0 false=some v∧IsR v (zw7 a b c o):=by
 rw [zfn,rd0,rd1s,rd2s]
 simp only [oB,z1j]
 rw [zgm a ha]
 simp only [oB,zv]
 unfold zw7
 rw [c_not]
 cases dgs a 3 6 with
 | true=>exact z19z a b c ha hb hc
 | false =>
  rw [cond_false]
  by_cases h1:o=1
  ·subst h1
   exact z19z c b a hc hb ha
  ·rw [c_eqF h1]
   by_cases h2:o=2
   ·subst h2
    exact z19z c a b hc ha hb
   ·rw [c_eqF h2]
    have h0:eqB o 0=true:=decide_eq_true (by omega)
    rw [h0]
    exact z19z a b c ha hb hc
def signO (s:List UInt8) (o:Int):List UInt8→DateO
 | []=>none
 | g::gs=>match splitB g s with
  | [a,b,c]=>if (g == 45&&monB a b)=true then namO a b c else zw7 a b c o
  | _=>signO s o gs
def zq9 (s:List UInt8) (o:Int):DateO:=if dgs s 8 8 then some (numN (s.take 4),numN ((s.drop 4).take 2),numN (s.drop 6)) else signO s o [45,47,46]
end Dv

namespace Dv
open Go
theorem z19w (s:List UInt8) (hs:Sm s) (h:dgs s 8 8=true):takeS s (4:Int)=some (s.take 4)∧subS s (4:Int) (6:Int)=some ((s.drop 4).take 2)∧dropS s (6:Int)=some (s.drop 6):=by
 unfold dgs leB at h
 simp only [Bool.and_eq_true,decide_eq_true_eq] at h
 refine ⟨zi2 (n:=4) (by omega),z14w (a:=4) (b:=6) (by omega) (by omega),zoz (n:=6) (by omega)⟩
theorem z121 {s:List UInt8} (hs:Sm s) (n:Nat):Sm (s.take n):=by have:s.length≤10000000000:=hs; show (s.take n).length≤_; simp; omega
theorem z122 {s:List UInt8} (hs:Sm s) (n:Nat):Sm (s.drop n):=by have:s.length≤10000000000:=hs; show (s.drop n).length≤_; simp; omega
theorem three_split {b:UInt8} {s:List UInt8} (hs:Sm s):(∃ x y z,splitB b s=[x,y,z]∧Sm x∧Sm y∧Sm z)∨((splitB b s).length≠3):=by
 have h:=splitB_sm b hs
 match hsp:splitB b s with
 | []=>exact .inr (by simp)
 | [_]=>exact .inr (by simp)
 | [_,_]=>exact .inr (by simp)
 | [x,y,z] =>
  rw [hsp] at h
  exact .inl ⟨x,y,z,rfl,h x (by simp),h y (by simp),h z (by simp)⟩
 | _::_::_::_::_=>exact .inr (by simp)
theorem z19t {s:List UInt8} {o:Int} {g:UInt8} {gs:List UInt8} (h:(splitB g s).length≠3):signO s o (g::gs)=signO s o gs:=by
 rw [signO]
 split
 ·rename_i hsp; rw [hsp] at h; simp at h
 ·rfl
theorem z14z {s:List UInt8} {o:Int} {g:UInt8} {gs:List UInt8} {x y z:List UInt8} (h:splitB g s=[x,y,z]):signO s o (g::gs)=if (g == 45&&monB x y)=true then namO x y z else zw7 x y z o:=by
 rw [signO,h]
theorem z103 (s:List UInt8) (hs:Sm s) (o:Int) (ho:0≤o∧o≤2):∀ (gs:List UInt8) (i:Nat),([45,47,46]:List UInt8).drop i=gs→i≤3 →
  ∃ v,z5o s o [45,47,46] (i:Int) 0 0 0 false=some v∧IsR v (signO s o gs)
 | [],i,h,hi=>by
  have hl:=ze0 h
  simp at hl
  rw [za4,c_ltF (by simp; omega)]
  exact ⟨_,rfl,0,0,0,rfl⟩
 | g::gs,i,h,hi=>by
  obtain ⟨h1,h2,h3⟩:=z5c h
  have hl3:i<3:=h1
  obtain ⟨v,hv,hr⟩:=z103 s hs o ho gs (i+1) h3 (by omega)
  have hw:IntKind.i64.wrap ((i:Int)+1)=((i+1:Nat):Int):=by rw [w64 (by omega) (by omega)]; omega
  rw [za4,c_ltT (by simp; omega),ztz h2]
  simp only [oB]
  rw [rsplit_s s hs g]
  simp only [oB,z14r]
  rcases three_split (b:=g) hs with ⟨x,y,z,hsp,hx,hy,hz⟩ | hno
  ·rw [hsp,c_not,c_eqT (by simp),rd0,rd1s]
   simp only [oB,z1j]
   rw [zt7 x hx,zt7 y hy,z14z hsp]
   simp only [oB,zq]
   obtain ⟨v1,hv2,hr2⟩:=z19y x y z hx hy hz
   have n10:z57 ([x,y,z].map PV.str) 0 0 0 false=some v1:=by
    rw [zfo,hv2]
    simp only [oB]
    unfold IsR at hr2
    split at hr2
    ·rw [hr2]; rfl
    ·obtain ⟨_,_,_,hr2⟩:=hr2; rw [hr2]; rfl
   by_cases hg:g=45
   ·subst hg
    rw [c_eqT (show (((45:UInt8).toNat:Nat):Int)=45 from rfl)]
    unfold monB
    cases hm1:ltB 0 (monI x) with
    | true=>rw [cond_true]; exact ⟨v1,n10,by simpa using hr2⟩
    | false =>
     rw [cond_false]
     cases hm2:ltB 0 (monI y) with
     | true=>rw [cond_true]; exact ⟨v1,n10,by simpa using hr2⟩
     | false =>
      rw [cond_false]
      exact z19v x y z hx hy hz o ho
   ·have hne:¬ (g.toNat:Int)=45:=by
     intro h; apply hg; apply UInt8.toNat_inj.1; show g.toNat=45; omega
    rw [c_eqF hne]
    have:(g == 45)=false:=by simpa using hg
    rw [this]
    exact z19v x y z hx hy hz o ho
  ·rw [c_not,c_eqF (by simp; omega),hw,z19t hno]
   exact ⟨v,hv,hr⟩
theorem rplain_s (s:List UInt8) (hs:Sm s) (o:Int) (ho:0≤o∧o≤2):∃ v,zah s o=some v∧IsR v (zq9 s o):=by
 rw [zjb,zgm s hs]
 simp only [oB,zv]
 unfold zq9
 cases hd:dgs s 8 8 with
 | true =>
  obtain ⟨e1,e2,e3⟩:=z19w s hs hd
  rw [cond_true,e1,e2,e3]
  simp only [oB]
  rw [zka _ (z121 hs 4),zka _ (z121 (z122 hs 4) 2),zka _ (z122 hs 6)]
  exact ⟨_,rfl,by simp [IsR,PV.toI]⟩
 | false =>
  rw [cond_false]
  obtain ⟨v,hv,hr⟩:=z103 s hs o ho [45,47,46] 0 rfl (by omega)
  exact ⟨v,hv,by simpa using hr⟩
def takeR (bc:Bool):DateO→DateO
 | none=>none
 | some (y,m,d)=>if y=0∨m<1∨12<m then none else
  if 1≤d∧d≤lenI (if bc then IntKind.i64.wrap (1-y) else y) m then some (if bc then IntKind.i64.wrap (1-y) else y,m,d) else none
def z8r (l:List (List UInt8)) (o:Int):DateO×List (List UInt8) :=
 match l with
 | []=>(none,[])
 | [a]=>(zq9 a o,[])
 | [a,b]=>(zq9 a o,[b])
 | a::b::c::r=>if monB a b then (namO a b c,r) else (zq9 a o,b::c::r)
def dateV (t:DateO) (r:List (List UInt8)):PV:=match t with
 | some (y,m,d)=>.tuple [.int .i64 y,.int .i64 m,.int .i64 d,.sl 1 (r.map PV.str),.bool true]
 | none=>.tuple [.int .i64 0,.int .i64 0,.int .i64 0,.sl 0 [],.bool false]
theorem z1a3 (l:List (List UInt8)) (bc:Bool) (n:Nat) (hn:n≤l.length) (v:PV) (t:DateO) (h:IsR v t) :
  z4l (l.map PV.str) bc (n:Int) (PV.toI (PV.nth v 0)) (PV.toI (PV.nth v 1)) (PV.toI (PV.nth v 2)) (PV.toB (PV.nth v 3))=some (dateV (takeR bc t) (l.drop n)):=by
 have c9:z2y=some (dateV none (l.drop n)):=zhl
 have c13:z5p=some (dateV none (l.drop n)):=zgu
 unfold IsR at h
 rw [zhm]
 split at h
 ·rename_i y m d
  subst h
  have b3:(PV.agg [.int .i64 y,.int .i64 m,.int .i64 d,.bool true]).nth 3=.bool true:=rfl
  rw [b3,ag0,ag1,ag2]
  simp only [zq,zv,takeR]
  rw [c_not,z110]
  by_cases hy:y=0
  ·rw [c_eqT hy,if_pos (.inl hy),c9]
  rw [c_eqF hy]
  by_cases h1:m<1
  ·rw [c_ltT h1,if_pos (.inr (.inl h1)),c9]
  rw [c_ltF h1]
  by_cases h2:12<m
  ·rw [c_ltT h2,if_pos (.inr (.inr h2)),c9]
  rw [c_ltF h2,if_neg (by omega)]
  have fin:∀ y',z5q (l.map PV.str) (n:Int) y' m d true=some (dateV (if 1≤d∧d≤lenI y' m then some (y',m,d) else none) (l.drop n)):=by
   intro y'
   rw [zgv]
   by_cases h3:d<1
   ·rw [c_ltT h3,if_neg (by omega),c13]
   rw [c_ltF h3,zwl (by omega) (by omega)]
   simp only [oB,zq]
   by_cases h4:lenI y' m<d
   ·rw [c_ltT h4,if_neg (by omega),c13]
   rw [c_ltF h4,if_pos (by omega),zgt,zoz (by simpa using hn)]
   simp [dateV]
  rw [zgw]
  cases bc with
  | true=>rw [cond_true,fin]; rfl
  | false=>rw [cond_false,fin]; rfl
 ·obtain ⟨y,m,d,rfl⟩:=h
  have b3:(PV.agg [.int .i64 y,.int .i64 m,.int .i64 d,.bool false]).nth 3=.bool false:=rfl
  rw [b3]
  simp only [zv]
  rw [c_not,z192,c9]
  rfl
theorem rdate_s (l:List (List UInt8)) (hl:∀ p∈l,Sm p) (bc:Bool) (o:Int) (ho:0≤o∧o≤2) :
  zc9 (l.map PV.str) bc o=some (dateV (takeR bc (z8r l o).1) (z8r l o).2):=by
 rw [zkt]
 match l,hl with
 | [],_=>rw [c_eqT (by simp)]; rfl
 | a::l',hl =>
  have ha:=hl a (by simp)
  obtain ⟨v,hv,hr⟩:=rplain_s a ha o ho
  rw [c_eqF (by simp; omega),rd0]
  simp only [oB,z1j]
  rw [hv]
  simp only [oB]
  have one:=z1a3 (a::l') bc 1 (by simp) v _ hr
  match l',hl,one with
  | [],_,one =>
   rw [c_leF (by simp)]
   exact one
  | [b],_,one =>
   rw [c_leF (by simp)]
   exact one
  | b::c::r,hl,one =>
   have hb:=hl b (by simp)
   have hc:=hl c (by simp)
   rw [c_leT (by simp; omega),rd1s,zt7 a ha]
   simp only [oB,z1j,zq]
   rw [zt7 b hb]
   simp only [oB,zq]
   have n6:∀ y m d k,z6m ((a::b::c::r).map PV.str) bc y m d k=some (dateV (takeR bc (namO a b c)) r):=by
    intro y m d k
    obtain ⟨v1,hv2,hr2⟩:=z19y a b c ha hb hc
    have t3:takeS ((a::b::c::r).map PV.str) (3:Int)=some ([a,b,c].map PV.str):=by
     rw [show (3:Int)=((3:Nat):Int) from rfl,zi2 (by simp)]; rfl
    rw [zhn,t3]
    simp only [oB]
    rw [hv2]
    simp only [oB]
    have:=z1a3 (a::b::c::r) bc 3 (by simp) v1 _ hr2
    exact this
   unfold z8r monB
   cases hm1:ltB 0 (monI a) with
   | true=>rw [cond_true,n6]; simp [hm1]
   | false =>
    rw [cond_false]
    cases hm2:ltB 0 (monI b) with
    | true=>rw [cond_true,n6]; simp [hm2]
    | false=>rw [cond_false]; simpa [hm1,hm2] using one
theorem z18y {y m:Int} (h:m<1∨12<m):zhu y m=some (.int .i64 0):=by
 rw [zl3,zfg]
 by_cases h1:m<1
 ·rw [c_ltT h1]
 ·rw [c_ltF h1,c_ltT (by omega)]
theorem z1bv {bc:Bool} {y m d:Int} (hy:y≠0):takeR bc (some (y,m,d))=if 1≤d∧(1≤m∧m≤12∧d≤lenI (if bc then IntKind.i64.wrap (1-y) else y) m) then some (if bc then IntKind.i64.wrap (1-y) else y,m,d) else none:=by
 simp only [takeR]
 generalize (if bc=true then IntKind.i64.wrap (1-y) else y)=Y
 by_cases h1:m<1∨12<m
 ·rw [if_pos (.inr h1),if_neg (by omega)]
 ·rw [if_neg (by omega)]
  by_cases h2:1≤d∧d≤lenI Y m
  ·rw [if_pos h2,if_pos (by omega)]
  ·rw [if_neg h2,if_neg (by omega)]
def OkD (t:DateO) (ok:Bool) (y m d:Int):Prop:=t=if ok then some (y,m,d) else none
theorem wsolid_s (s:List UInt8) (hs:Sm s) (h:dgs s 8 8=true):∃ v,zf5 s=some v∧IsW v (some (numN (s.take 4),numN ((s.drop 4).take 2),numN (s.drop 6))):=by
 obtain ⟨e1,e2,e3⟩:=z19w s hs h
 rw [zq6,e1,e2,e3]
 simp only [oB]
 rw [ze7 _ (z121 hs 4),ze7 _ (z121 (z122 hs 4) 2),ze7 _ (z122 hs 6)]
 exact ⟨_,rfl,0,0,0,rfl⟩
theorem dec3 {i:Nat} {g:UInt8} {gs:List UInt8} (h:([45,47,46]:List UInt8).drop i=g::gs):decR ([45,47,46]:List UInt8) i=(g.toNat,1)∧encR ((g.toNat:Nat):Int)=[g]∧i<3∧(g=45↔(g.toNat:Int)=45):=by
 obtain ⟨h1,h2,h3⟩:=z5c h
 have hl3:i<3:=h1
 have hg:g=45∨g=47∨g=46:=by
  match i,hl3,h2 with
  | 0,_,h2=>simp at h2; exact .inl h2.symm
  | 1,_,h2=>simp at h2; exact .inr (.inl h2.symm)
  | 2,_,h2=>simp at h2; exact .inr (.inr h2.symm)
 refine ⟨zhi h2 (by rcases hg with rfl | rfl | rfl <;> decide),?_,hl3,?_⟩
 ·rcases hg with rfl | rfl | rfl <;> (show encR _=_; kernel_rfl)
 ·rcases hg with rfl | rfl | rfl <;> decide
end Dv

namespace Dv
open Go
theorem zvo (bc:Bool) (v:PV) (t:DateO) (h:IsW v t) (rest:List PV) (y m d:Int) (st1 st2 st3 i j:Int) (b1 b2:Bool) (o1:Int) :
  ∃ ok Y M D,(bif (!(PV.toB (PV.tnth v 1))) then (zw y m d st1 st2 st3 i j rest b1 b2 o1) else (bif (eqB (PV.toI (PV.nth (PV.tnth v 0) 0)) (0:Int)) then (zw y m d st1 st2 st3 i j rest b1 b2 o1) else (z2c bc y m d (PV.toI (PV.nth (PV.tnth v 0) 0)) (PV.toI (PV.nth (PV.tnth v 0) 1)) (PV.toI (PV.nth (PV.tnth v 0) 2)) st1 st2 st3 i j rest b1 b2 o1))) =
   z2p ok i j (rest) Y M D∧OkD (takeR bc t) ok Y M D:=by
 obtain ⟨y0,m0,d0,rfl⟩:=h
 cases t with
 | none =>
  simp only [tupO,tn1,zv]
  rw [c_not,z192,z84]
  exact ⟨false,0,0,0,rfl,rfl⟩
 | some p =>
  obtain ⟨a,b,c⟩:=p
  simp only [tupO,tn0,tn1,ag0,ag1,ag2,zv,zq]
  rw [c_not,z110]
  by_cases ha:a=0
  ·rw [c_eqT ha,z84]
   exact ⟨false,0,0,0,rfl,by unfold OkD; simp [takeR,ha]⟩
  ·rw [c_eqF ha,zeb]
   have fin:∀ Y,∃ ok Y' M D,z3k y m d Y b c st1 st2 st3 i j rest b1 b2 o1=z2p ok i j rest Y' M D∧(if 1≤c∧(1≤b∧b≤12∧c≤lenI Y b) then some (Y,b,c) else none:DateO)=if ok then some (Y',M,D) else none:=by
    intro Y
    rw [zea]
    by_cases h1:1≤c
    ·rw [c_leT h1]
     by_cases h2:1≤b∧b≤12
     ·rw [civ_len h2.1 h2.2]
      simp only [oB,zq]
      refine ⟨_,_,_,_,rfl,?_⟩
      unfold leB
      by_cases h3:c≤lenI Y b
      ·rw [if_pos (by omega),decide_eq_true h3]; rfl
      ·rw [if_neg (by omega),decide_eq_false h3]; rfl
     ·rw [z18y (by omega)]
      simp only [oB,zq]
      refine ⟨_,_,_,_,rfl,?_⟩
      unfold leB
      rw [if_neg (by omega),decide_eq_false (by omega)]; rfl
    ·rw [c_leF h1]
     exact ⟨_,_,_,_,rfl,by rw [if_neg (by omega)]; rfl⟩
   rw [show OkD (takeR bc (some (a,b,c)))=fun ok Y M D=>takeR bc (some (a,b,c))=if ok then some (Y,M,D) else none from rfl]
   simp only [z1bv ha]
   cases bc with
   | true=>exact fin _
   | false=>exact fin _
theorem z117 (s:List UInt8) (hs:Sm s) (bc:Bool) (o:Int) (rest:List PV) (y m d:Int) (st1 st2 st3 i j:Int) (b1 b2:Bool) (o1:Int) (oo o2:Int) (s1 s2:List UInt8):∀ (gs:List UInt8) (k:Nat),([45,47,46]:List UInt8).drop k=gs →
  ∃ ok Y M D,z3b s o [45,47,46] k y m d st1 st2 st3 i j rest bc oo s1 s2 o2 b1 b2 o1=z2p ok i j (rest) Y M D∧OkD (takeR bc (signO s o gs)) ok Y M D
 | [],k,h=>by
  have hl:=ze0 h
  rw [z7m,z111 (by simpa using hl),z7l]
  exact ⟨false,0,0,0,rfl,rfl⟩
 | g::gs,k,h=>by
  obtain ⟨e1,e2,hk,hg⟩:=dec3 h
  obtain ⟨h1,h2,h3⟩:=z5c h
  obtain ⟨ok,Y,M,D,hv,hr⟩:=z117 s hs bc o rest y m d st1 st2 st3 i j b1 b2 o1 oo o2 s1 s2 gs (k+1) h3
  rw [z7m,z16n (by simpa using hk),e1]
  simp only
  rw [e2,zwa s g hs]
  simp only [oB,z14r]
  rcases three_split (b:=g) hs with ⟨x,z,w,hsp,hx,hz,hw⟩ | hno
  ·rw [hsp,c_not,c_eqT (by simp),z14z hsp,z199 x z [w] hx hz]
   simp only [oB,zv]
   have three:∃ ok Y M D,z3a bc ([x,z,w].map PV.str) o y m d st1 st2 st3 i j rest b1 b2 o1=z2p ok i j (rest) Y M D∧OkD (takeR bc (zw7 x z w o)) ok Y M D:=by
    obtain ⟨v,hv,hw⟩:=wthree_s x z w hx hz hw o
    rw [zdm,hv]
    simp only [oB]
    exact zvo bc v _ hw rest y m d st1 st2 st3 i j b1 b2 o1
   by_cases hg45:g=45
   ·subst hg45
    rw [c_eqT (hg.1 rfl)]
    cases hm:monB x z with
    | true =>
     rw [cond_true]
     obtain ⟨v,hv,hw⟩:=z198 x z w hx hz hw
     rw [z8e,hv]
     simp only [oB]
     exact zvo bc v _ hw rest y m d st1 st2 st3 i j b1 b2 o1
    | false=>rw [cond_false]; exact three
   ·have:(g == 45)=false:=by simpa using hg45
    rw [c_eqF (fun hx=>hg45 (hg.2 hx)),this]
    exact three
  ·rw [c_not,c_eqF (by simp; omega),z19t hno]
   exact ⟨ok,Y,M,D,hv,hr⟩
theorem Date_word (s:List UInt8) (hs:Sm s) (bc:Bool) (o:Int) (rest:List PV) (y m d:Int) (st1 st2 st3 i j:Int) (b1 b2:Bool) (o1:Int) :
  ∃ ok Y M D,z4c bc o s true y m d st1 st2 st3 i j rest b1 b2 o1=z2p ok i j (rest) Y M D∧OkD (takeR bc (zq9 s o)) ok Y M D:=by
 rw [z8f,cond_true,zbc s hs (by omega)]
 simp only [oB,zv]
 unfold zq9
 cases hd:dgs s 8 8 with
 | true =>
  obtain ⟨v,hv,hw⟩:=wsolid_s s hs hd
  rw [cond_true,zdn,hv]
  simp only [oB]
  exact zvo bc v _ hw rest y m d st1 st2 st3 i j b1 b2 o1
 | false =>
  rw [cond_false]
  have:=z117 s hs bc o rest y m d st1 st2 st3 i j b1 b2 o1 o o s s [45,47,46] 0 rfl
  simpa using this
theorem Date_take (l:List (List UInt8)) (hl:∀ p∈l,Sm p) (bc:Bool) (o:Int) (st1 st3 i j:Int) :
  ∃ ok Y M D,z8n bc st1 o st3 i j (l.map PV.str)=z2p ok i j ((z8r l o).2.map PV.str) Y M D∧OkD (takeR bc (z8r l o).1) ok Y M D:=by
 rw [zwx]
 match l,hl with
 | [],_ =>
  rw [c_leF (by simp),z8g,c_eqT (by simp),z8f,cond_false,z7l]
  exact ⟨false,0,0,0,rfl,rfl⟩
 | a::l',hl =>
  have ha:=hl a (by simp)
  have hd1:dropS ((a::l').map PV.str) (1:Int)=some (l'.map PV.str):=by
   rw [show (1:Int)=((1:Nat):Int) from rfl,zoz (by simp)]; rfl
  have one:∀ y m d st1 st2 st3 i j b1 b2 o1,∃ ok Y M D,z4d bc o ((a::l').map PV.str) y m d st1 st2 st3 i j b1 b2 o1=z2p ok i j (l'.map PV.str) Y M D∧OkD (takeR bc (zq9 a o)) ok Y M D:=by
   intro y m d st1 st2 st3 i j b1 b2 o1
   rw [z8g,c_eqF (by simp; omega),rd0,hd1]
   simp only [oB,z1j]
   exact Date_word a ha bc o (l'.map PV.str) y m d st1 st2 st3 i j b1 b2 o1
  match l',hl,one with
  | [],_,one=>rw [c_leF (by simp)]; exact one _ _ _ _ _ _ _ _ _ _ _
  | [b],_,one=>rw [c_leF (by simp)]; exact one _ _ _ _ _ _ _ _ _ _ _
  | b::c::r,hl,one =>
   have hb:=hl b (by simp)
   have hc:=hl c (by simp)
   rw [c_leT (by simp; omega),z199 a b (c::r) ha hb]
   simp only [oB,zv]
   cases hm:monB a b with
   | true =>
    have ef:z8r (a::b::c::r) o=(namO a b c,r):=by simp [z8r,hm]
    rw [ef]
    have t3:takeS ((a::b::c::r).map PV.str) (3:Int)=some ([a,b,c].map PV.str):=by
     rw [show (3:Int)=((3:Nat):Int) from rfl,zi2 (by simp)]; rfl
    have d3:dropS ((a::b::c::r).map PV.str) (3:Int)=some (r.map PV.str):=by
     rw [show (3:Int)=((3:Nat):Int) from rfl,zoz (by simp)]; rfl
    obtain ⟨v,hv,hw⟩:=z198 a b c ha hb hc
    rw [cond_true,zeq,t3,d3]
    simp only [oB]
    rw [z8e,hv]
    simp only [oB]
    exact zvo bc v _ hw _ _ _ _ _ _ _ _ _ _ _ _
   | false =>
    have ef:z8r (a::b::c::r) o=(zq9 a o,b::c::r):=by simp [z8r,hm]
    rw [ef,cond_false]
    exact one _ _ _ _ _ _ _ _ _ _ _
end Dv

namespace Dv
open Go
end Dv


namespace Dv
open Go
theorem zhe (y:Int):∀ (k:Nat),jan1 y≤jan1 (y+k)
 | 0=>by simp
 | k+1=>by
  have h1:=zhe y k
  have h2:=zqg (y+k)
  have hl:(if leapI (y+k)=true then (1:Int) else 0)=0∨(if leapI (y+k)=true then (1:Int) else 0)=1:=by cases leapI (y+k) <;> simp
  have e:y+((k+1:Nat):Int)=y+k+1:=by omega
  rw [e]; omega
theorem zid {y m:Int} (h1:1≤m):∀ (k:Nat),m+k≤13→z3i y m≤z3i y (m+k)
 | 0,_=>by simp
 | k+1,h=>by
  have ih:=zid (y:=y) h1 k (by omega)
  have h2:=zdq (y:=y) (m:=m+k) (by omega) (by omega)
  have h3:=zhb y (m+k) (by omega) (by omega)
  have e:m+((k+1:Nat):Int)=m+k+1:=by omega
  rw [e]; omega
theorem months_13 (y:Int):z3i y 13=365+(if leapI y then 1 else 0):=rfl
def okD (y m d:Int):Prop:=1≤m∧m≤12∧1≤d∧d≤lenI y m
theorem z1be {y m d:Int} (h:okD y m d):jan1 y≤dayI y m d∧dayI y m d<jan1 (y+1):=by
 obtain ⟨h1,h2,h3,h4⟩:=h
 have a:=zid (y:=y) (m:=1) (by omega) (m-1).toNat (by omega)
 rw [show (1:Int)+((m-1).toNat:Int)=m by omega] at a
 have b:=zid (y:=y) (m:=m+1) (by omega) (12-m).toNat (by omega)
 rw [show m+1+((12-m).toNat:Int)=13 by omega,months_13] at b
 have c:=zdq (y:=y) h1 h2
 have e:=zqg y
 have z:z3i y 1=0:=rfl
 unfold dayI
 omega
theorem z1bd {y y' m m' d d':Int} (h:okD y m d) (h':okD y' m' d') (hy:y<y'):dayI y m d<dayI y' m' d':=by
 have a:=(z1be h).2
 have b:=(z1be h').1
 have c:=zhe (y+1) (y'-(y+1)).toNat
 rw [show y+1+((y'-(y+1)).toNat:Int)=y' by omega] at c
 omega
theorem day_ltm {y m m' d d':Int} (h:okD y m d) (h':okD y m' d') (hm:m<m'):dayI y m d<dayI y m' d':=by
 obtain ⟨h1,h2,h3,h4⟩:=h
 obtain ⟨h1',h2',h3',h4'⟩:=h'
 have b:=zid (y:=y) (m:=m+1) (by omega) (m'-(m+1)).toNat (by omega)
 rw [show m+1+((m'-(m+1)).toNat:Int)=m' by omega] at b
 have c:=zdq (y:=y) h1 h2
 unfold dayI
 omega
theorem day_inj {y y' m m' d d':Int} (h:okD y m d) (h':okD y' m' d') (e:dayI y m d=dayI y' m' d'):y=y'∧m=m'∧d=d':=by
 have hy:y=y':=by
  rcases Int.lt_trichotomy y y' with a | a | a
  ·have:=z1bd h h' a; omega
  ·exact a
  ·have:=z1bd h' h a; omega
 subst hy
 have hm:m=m':=by
  rcases Int.lt_trichotomy m m' with a | a | a
  ·have:=day_ltm h h' a; omega
  ·exact a
  ·have:=day_ltm h' h a; omega
 subst hm
 unfold dayI at e
 exact ⟨rfl,rfl,by omega⟩
theorem minI_i (a b:Int):minI a b=min a b:=by
 unfold minI
 by_cases h:b<a
 ·rw [decide_eq_true h]; simp only [cond_true]; omega
 ·rw [decide_eq_false h]; simp only [cond_false]; omega
theorem march_sum {e c f k:Int} (hc:0≤c∧c≤3) (hf:0≤f∧f≤24) (hk:0≤k∧k≤3):zo1 (400*e+100*c+4*f+k)=146097*e+36524*c+1461*f+365*k:=by
 unfold zo1
 have e1:(400*e+100*c+4*f+k) / 400=e:=by omega
 have e2:(400*e+100*c+4*f+k) % 400=100*c+4*f+k:=by omega
 have e3:(100*c+4*f+k) / 4=25*c+f:=by omega
 have e4:(100*c+4*f+k) / 100=c:=by omega
 rw [e1,e2,e3,e4]
 omega
theorem parts_fin {Y M l3 n:Int} (hm0:0≤M) (hm1:M≤11) (hk:0≤l3∧l3≤365) (hmd:(153*M+2) / 5≤l3) (hm2:l3<(153*(M+1)+2) / 5) (hYb:-5000000≤Y∧Y≤5000000)
  (hy:zo1 Y+l3=n+730425) (hleap:l3=365→leapI (Y+1)=true) :
  ∃ y m d,(bif leB 10 M then some (PV.tuple [.int .i64 (IntKind.i64.wrap (Y+1)),.int .i64 (IntKind.i64.wrap (M-9)),.int .i64 (l3-(153*M+2) / 5+1)]) else some (.tuple [.int .i64 Y,.int .i64 (IntKind.i64.wrap (M+3)),.int .i64 (l3-(153*M+2) / 5+1)])) =
   some (.tuple [.int .i64 y,.int .i64 m,.int .i64 d])∧okD y m d∧dayI y m d=n:=by
 by_cases h10:10≤M
 ·rw [c_leT h10,w64 (n:=Y+1) (by omega) (by omega),w64 (n:=M-9) (by omega) (by omega)]
  refine ⟨_,_,_,rfl,⟨by omega,by omega,by omega,?_⟩,?_⟩
  ·have:M=10∨M=11:=by omega
   rcases this with rfl | rfl
   ·show _≤lenI (Y+1) 1
    unfold lenI; rw [if_neg (by omega),if_neg (by omega),if_pos (by omega)]; omega
   ·show _≤lenI (Y+1) 2
    unfold lenI; rw [if_pos rfl]
    by_cases h3:l3=365
    ·rw [hleap h3,if_pos rfl]; omega
    ·split <;> omega
  ·have:=zx7 (y:=Y+1) (m:=M-9) (d:=l3-(153*M+2) / 5+1) (by omega) (by omega)
   rw [if_pos (by omega),if_pos (by omega),show Y+1-1=Y by omega,show M-9+12-3=M by omega] at this
   omega
 ·rw [c_leF h10,w64 (n:=M+3) (by omega) (by omega)]
  refine ⟨_,_,_,rfl,⟨by omega,by omega,by omega,?_⟩,?_⟩
  ·have:M=0∨M=1∨M=2∨M=3∨M=4∨M=5∨M=6∨M=7∨M=8∨M=9:=by omega
   rcases this with rfl | rfl | rfl | rfl | rfl | rfl | rfl | rfl | rfl | rfl <;> (unfold lenI; rw [if_neg (by omega)]; split <;> first | omega | (rw [if_pos (by omega)]; omega))
  ·have:=zx7 (y:=Y) (m:=M+3) (d:=l3-(153*M+2) / 5+1) (by omega) (by omega)
   rw [if_neg (by omega),if_neg (by omega),show M+3-3=M by omega] at this
   omega
theorem parts_s {n:Int} (h1:-1000000000≤n) (h2:n≤1000000000):∃ y m d,zp4 n=some (.tuple [.int .i64 y,.int .i64 m,.int .i64 d])∧okD y m d∧dayI y m d=n:=by
 rw [zzj,w64 (by omega) (by omega),z16j (by unfold In64; omega) (by omega) (by omega) (by omega)]
 simp only [oB,tn0,tn1,zq]
 have he:n+730425=146097*((n+730425) / 146097)+(n+730425) % 146097:=by omega
 have hl0:0≤(n+730425) % 146097∧(n+730425) % 146097<146097:=by omega
 have hq:-10000≤(n+730425) / 146097∧(n+730425) / 146097≤10000:=by omega
 generalize (n+730425) / 146097=e at he hq
 generalize (n+730425) % 146097=l0 at he hl0
 have c1:minI (IntKind.i64.wrap (Int.tdiv l0 36524)) 3=min (l0 / 36524) 3:=by rw [minI_i,za9 hl0.1,w64 (by omega) (by omega)]
 rw [c1]
 have hc:0≤min (l0 / 36524) 3∧min (l0 / 36524) 3≤3∧0≤l0-min (l0 / 36524) 3*36524∧l0-min (l0 / 36524) 3*36524≤36524∧(l0-min (l0 / 36524) 3*36524=36524→min (l0 / 36524) 3=3):=by omega
 generalize min (l0 / 36524) 3=c at hc
 have c2:IntKind.i64.wrap (l0-IntKind.i64.wrap (c*36524))=l0-c*36524:=by rw [w64 (n:=c*36524) (by omega) (by omega),w64 (by omega) (by omega)]
 rw [c2]
 generalize hl1:l0-c*36524=l1 at hc
 have c3:IntKind.i64.wrap (Int.tdiv l1 1461)=l1 / 1461:=by rw [za9 (by omega),w64 (by omega) (by omega)]
 rw [c3]
 have hf:0≤l1 / 1461∧l1 / 1461≤24∧0≤l1-l1 / 1461*1461∧l1-l1 / 1461*1461≤1460:=by omega
 generalize l1 / 1461=f at hf
 have c4:IntKind.i64.wrap (l1-IntKind.i64.wrap (f*1461))=l1-f*1461:=by rw [w64 (n:=f*1461) (by omega) (by omega),w64 (by omega) (by omega)]
 rw [c4]
 generalize hl2:l1-f*1461=l2 at hf
 have c5:minI (IntKind.i64.wrap (Int.tdiv l2 365)) 3=min (l2 / 365) 3:=by rw [minI_i,za9 (by omega),w64 (by omega) (by omega)]
 rw [c5]
 have hk:0≤min (l2 / 365) 3∧min (l2 / 365) 3≤3∧0≤l2-min (l2 / 365) 3*365∧l2-min (l2 / 365) 3*365≤365∧(l2-min (l2 / 365) 3*365=365→min (l2 / 365) 3=3∧l2=1460):=by omega
 generalize min (l2 / 365) 3=k at hk
 have c6:IntKind.i64.wrap (l2-IntKind.i64.wrap (k*365))=l2-k*365:=by rw [w64 (n:=k*365) (by omega) (by omega),w64 (by omega) (by omega)]
 rw [c6]
 generalize hl3:l2-k*365=l3 at hk
 have c7:IntKind.i64.wrap (Int.tdiv (IntKind.i64.wrap (IntKind.i64.wrap (5*l3)+2)) 153)=(5*l3+2) / 153:=by
  rw [w64 (n:=5*l3) (by omega) (by omega),w64 (n:=5*l3+2) (by omega) (by omega),za9 (by omega),w64 (by omega) (by omega)]
 rw [c7]
 have hm:0≤(5*l3+2) / 153∧(5*l3+2) / 153≤11∧(153*((5*l3+2) / 153)+2) / 5≤l3:=by omega
 have hm2:l3<(153*((5*l3+2) / 153+1)+2) / 5:=by omega
 generalize (5*l3+2) / 153=M at hm hm2
 have c8:IntKind.i64.wrap (Int.tdiv (IntKind.i64.wrap (IntKind.i64.wrap (153*M)+2)) 5)=(153*M+2) / 5:=by
  rw [w64 (n:=153*M) (by omega) (by omega),w64 (n:=153*M+2) (by omega) (by omega),za9 (by omega),w64 (by omega) (by omega)]
 rw [c8]
 have c9:IntKind.i64.wrap (IntKind.i64.wrap (l3-(153*M+2) / 5)+1)=l3-(153*M+2) / 5+1:=by
  rw [w64 (n:=l3-(153*M+2) / 5) (by omega) (by omega),w64 (by omega) (by omega)]
 rw [c9]
 have c10:IntKind.i64.wrap (IntKind.i64.wrap (IntKind.i64.wrap (IntKind.i64.wrap (e*400)+IntKind.i64.wrap (c*100))+IntKind.i64.wrap (f*4))+k)=400*e+100*c+4*f+k:=by
  rw [w64 (n:=e*400) (by omega) (by omega),w64 (n:=c*100) (by omega) (by omega),w64 (n:=f*4) (by omega) (by omega),w64 (n:=e*400+c*100) (by omega) (by omega),w64 (n:=e*400+c*100+f*4) (by omega) (by omega),w64 (by omega) (by omega)]
  omega
 rw [c10]
 clear c1 c2 c3 c4 c5 c6 c7 c8 c9 c10
 have hy:zo1 (400*e+100*c+4*f+k)+l3=n+730425:=by
  rw [march_sum ⟨hc.1,hc.2.1⟩ ⟨hf.1,hf.2.1⟩ ⟨hk.1,hk.2.1⟩]
  clear hm hm2 hq
  omega
 have hleap:l3=365→leapI (400*e+100*c+4*f+k+1)=true:=by
  intro h
  have h3:=hk.2.2.2.2 h
  have hc3:f=24→c=3:=fun hf24=>hc.2.2.2.2 (by clear hm hm2 hq hk; omega)
  rw [zhc,h3.1]
  clear hm hm2 he hk hl3 hl2 hl1
  omega
 generalize hY:400*e+100*c+4*f+k=Y at hy hleap
 have hYb:-5000000≤Y∧Y≤5000000:=by omega
 exact parts_fin hm.1 hm.2.1 ⟨hk.2.2.1,hk.2.2.2.1⟩ hm.2.2 hm2 hYb hy hleap
end Dv

namespace Dv
open Go
theorem z15f (y:Int):∀ (k:Nat) (m l:Int),1≤m→m+k=12→0≤l→z3i y m+l<365+(if leapI y then 1 else 0) →
  ∃ m' d,z5r y l m=some (.tuple [.int .i64 y,.int .i64 m',.int .i64 d,.int .i64 0])∧okD y m' d∧z3i y m'+d-1=z3i y m+l
 | 0,m,l,h1,hm,h0,ht=>by
  have hm12:m=12:=by omega
  subst hm12
  rw [zx6] at ht
  have hlen:lenI y 12=31:=by unfold lenI; rw [if_neg (by omega),if_neg (by omega),if_pos (by omega)]
  rw [za8,zwl (by omega) (by omega)]
  simp only [oB,zq]
  rw [c_leF (by omega),w64 (by omega) (by omega)]
  exact ⟨_,_,rfl,⟨by omega,by omega,by omega,by omega⟩,by omega⟩
 | k+1,m,l,h1,hm,h0,ht=>by
  have hr:=zhb y m (by omega) (by omega)
  have hs:=zdq (y:=y) (m:=m) (by omega) (by omega)
  have hb:=znz (y:=y) (m:=m) (by omega) (by omega)
  have hl:(if leapI y=true then (1:Int) else 0)=0∨(if leapI y=true then (1:Int) else 0)=1:=by cases leapI y <;> simp
  rw [za8,zwl (by omega) (by omega)]
  simp only [oB,zq]
  by_cases h:lenI y m≤l
  ·rw [c_leT h,w64 (n:=l-lenI y m) (by omega) (by omega),w64 (n:=m+1) (by omega) (by omega)]
   obtain ⟨m',d,e1,e2,e3⟩:=z15f y k (m+1) (l-lenI y m) (by omega) (by omega) (by omega) (by omega)
   exact ⟨m',d,e1,e2,by omega⟩
  ·rw [c_leF h,w64 (by omega) (by omega)]
   exact ⟨_,_,rfl,⟨by omega,by omega,by omega,by omega⟩,by omega⟩
theorem z1a4:∀ (k:Nat) (y l:Int),0≤l→l<k→-1000000≤y→y+k≤2000000→-1000000000≤jan1 y→jan1 y+l≤1000000000 →
  ∃ y' m' d,z6q y l=some (.tuple [.int .i64 y',.int .i64 m',.int .i64 d,.int .i64 0])∧okD y' m' d∧dayI y' m' d=jan1 y+l
 | 0,y,l,h0,hk,_,_,_,_=>by omega
 | k+1,y,l,h0,hk,hy,hy2,hj,hj2=>by
  have hs:=zqg y
  have fin:∀ long:Int,long=365+(if leapI y then 1 else 0)→∃ y' m' d,z6p y l long=some (.tuple [.int .i64 y',.int .i64 m',.int .i64 d,.int .i64 0])∧okD y' m' d∧dayI y' m' d=jan1 y+l:=by
   intro long hlong
   have hl:(if leapI y=true then (1:Int) else 0)=0∨(if leapI y=true then (1:Int) else 0)=1:=by cases leapI y <;> simp
   rw [zhr]
   by_cases h:l<long
   ·rw [c_ltT h]
    have z:z3i y 1=0:=rfl
    obtain ⟨m',d,e1,e2,e3⟩:=z15f y 11 1 l (by omega) (by omega) h0 (by omega)
    exact ⟨y,m',d,e1,e2,by unfold dayI; omega⟩
   ·rw [c_ltF h,w64 (n:=y+1) (by omega) (by omega),w64 (n:=l-long) (by omega) (by omega)]
    obtain ⟨y',m',d,e1,e2,e3⟩:=z1a4 k (y+1) (l-long) (by omega) (by omega) (by omega) (by omega) (by omega) (by omega)
    exact ⟨y',m',d,e1,e2,by omega⟩
  rw [zhs,z12f]
  simp only [oB,zv]
  cases hl:leapI y with
  | true=>exact fin 366 (by rw [hl]; rfl)
  | false=>exact fin 365 (by rw [hl]; rfl)
def canB (n:Int):Bool:=decide (-2453698≤n∧n≤106754173)
theorem z18r:dayI (-4718) 1 1=-2453698:=by decide
theorem last_v:dayI 294282 12 31=106754173:=by decide
theorem civ_can (n:Int):zy3 n=some (.bool (canB n)):=by
 rw [z16i,zzm,z13j,z18z (by omega) (by omega) (by omega) (by omega),z18z (by omega) (by omega) (by omega) (by omega)]
 simp only [oB,zq]
 rw [z18r,last_v]
 unfold canB
 by_cases h:-2453698≤n
 ·rw [c_leT h]; unfold leB; congr 2; rw [decide_eq_decide]; omega
 ·rw [c_leF h,decide_eq_false (by omega)]
theorem ref_can (n:Int):zda n=some (.bool (canB n)):=by
 rw [znn,zjj,zky,z182 (by omega) (by omega) (by omega) (by omega),z182 (by omega) (by omega) (by omega) (by omega)]
 simp only [oB,zq]
 rw [z18r,last_v]
 unfold canB
 by_cases h:-2453698≤n
 ·rw [c_leT h]; unfold leB; congr 2; rw [decide_eq_decide]; omega
 ·rw [c_leF h,decide_eq_false (by omega)]
theorem date_s (n:Int):∃ y m d e,zn9 n=some (.tuple [.int .i64 y,.int .i64 m,.int .i64 d,.int .i64 e]) ∧
  z8i n=some (.tuple [.int .i64 y,.int .i64 m,.int .i64 d,.int .i64 e]) ∧
  (e=0→okD y m d∧dayI y m d=n∧-4718≤y∧y≤294282)∧(e≠0→e=10∧y=0∧m=0∧d=0):=by
 rw [zr1,zl0,civ_can,ref_can]
 simp only [oB,zv]
 cases hc:canB n with
 | false=>exact ⟨_,_,_,_,rfl,rfl,(by intro h; cases h),fun _=>⟨rfl,rfl,rfl,rfl⟩⟩
 | true =>
  unfold canB at hc
  have hn:=of_decide_eq_true hc
  simp only [Bool.not_true,cond_false]
  obtain ⟨y,m,d,e1,e2,e3⟩:=parts_s (n:=n) (by omega) (by omega)
  rw [e1,ref_div (by unfold In64; omega) (by omega) (by omega),zs2 (by omega) (by omega)]
  simp only [oB,tn0,tn1,tn2,zq]
  have hq:-20≤n / 146097∧n / 146097≤1000:=by omega
  have hr:0≤n % 146097∧n % 146097<146097:=by omega
  rw [w64 (n:=n / 146097*400) (by omega) (by omega),w64 (n:=2000+n / 146097*400) (by omega) (by omega)]
  have hj:jan1 (2000+n / 146097*400)=n / 146097*146097:=by
   unfold jan1
   have a1:(2000+n / 146097*400-2000) / 400=n / 146097:=by omega
   have a2:(2000+n / 146097*400-2000) % 400=0:=by omega
   rw [a1,a2,show zcn 0=0 from rfl]; omega
  obtain ⟨y',m',d',f1,f2,f3⟩:=z1a4 146097 (2000+n / 146097*400) (n % 146097) hr.1 hr.2 (by omega) (by omega) (by omega) (by omega)
  have hf:dayI y' m' d'=n:=by rw [f3,hj]; omega
  obtain ⟨rfl,rfl,rfl⟩:=day_inj e2 f2 (e3.trans hf.symm)
  rw [f1]
  refine ⟨y,m,d,0,rfl,rfl,fun _=>⟨e2,e3,?_,?_⟩,by intro h; exact absurd rfl h⟩
  ·rcases Int.lt_or_le y (-4718) with h | h
   ·have hx:=z1bd e2 (show okD (-4718) 1 1 by unfold okD; decide) h
    rw [z18r] at hx; omega
   ·exact h
  ·rcases Int.lt_or_le 294282 y with h | h
   ·have hx:=z1bd (show okD 294282 12 31 by unfold okD; decide) e2 h
    rw [last_v] at hx; omega
   ·exact h
theorem z12z (n:Int):∃ b,zhj n=some (.bool b)∧z9g n=some (.bool b)∧(b=true→∃ y m d,zn9 n=some (.tuple [.int .i64 y,.int .i64 m,.int .i64 d,.int .i64 0]) ∧
  z8i n=some (.tuple [.int .i64 y,.int .i64 m,.int .i64 d,.int .i64 0])∧okD y m d∧dayI y m d=n∧-4712≤y∧y≤294276):=by
 obtain ⟨y,m,d,e,h1,h2,h3,h4⟩:=date_s n
 rw [zqx,zip,h1,h2]
 simp only [oB,tn0,tn3,zq]
 by_cases he:e=0
 ·rw [c_eqT he]
  subst he
  obtain ⟨g1,g2,g3,g4⟩:=h3 rfl
  by_cases hy:-4712≤y
  ·rw [c_leT hy]
   refine ⟨_,rfl,rfl,fun hb=>⟨y,m,d,rfl,rfl,g1,g2,hy,of_decide_eq_true hb⟩⟩
  ·rw [c_leF hy]; exact ⟨_,rfl,rfl,by intro h; cases h⟩
 ·rw [c_eqF he]; exact ⟨_,rfl,rfl,by intro h; cases h⟩
end Dv

namespace Dv
open Go
theorem zjm:∀ (r cur:List UInt8) (n:Nat),cur.length+r.length≤n→∀ p∈z4x cur r,p.length≤n
 | [],cur,n,h,p,hp=>by
  unfold z4x at hp
  split at hp
  ·cases hp
  ·simp at hp; subst hp; simpa using h
 | c::r,cur,n,h,p,hp=>by
  simp only [List.length_cons] at h
  cases hb:blB c with
  | true =>
   rw [zdg hb] at hp
   split at hp
   ·exact zjm r [] n (by simp; omega) p hp
   ·rcases List.mem_cons.1 hp with rfl | hp
    ·omega
    ·exact zjm r [] n (by simp; omega) p hp
  | false =>
   rw [zpe hb] at hp
   exact zjm r (cur++[c]) n (by simp; omega) p hp
theorem z119 {s:List UInt8} (hs:Sm s):∀ p∈z1x s,Sm p:=fun p hp=>zjm s [] 10000000000 (by simpa using hs) p hp
theorem zlc:∀ (r cur:List UInt8),(z4x cur r).length≤r.length+1
 | [],cur=>by unfold z4x; split <;> simp
 | c::r,cur=>by
  cases hb:blB c with
  | true =>
   rw [zdg hb]
   have:=zlc r []
   split <;> simp <;> omega
  | false =>
   rw [zpe hb]
   have:=zlc r (cur++[c])
   simp; omega
theorem words_len {s:List UInt8} (hs:s.length≤1000000):(z1x s).length≤10000000000:=by
 have:=zlc s []
 unfold z1x; omega
def infB:List UInt8:=[105,110,102,105,110,105,116,121]
def ninfB:List UInt8:=[45,105,110,102,105,110,105,116,121]
def epB:List UInt8:=[101,112,111,99,104]
def spcI:List (List UInt8)→Int
 | [a]=>bif eqS (lowS a) infB then 1 else bif eqS (lowS a) ninfB then -1 else bif eqS (lowS a) epB then 2 else 0
 | _=>0
theorem spc1 (a:List UInt8):spcI [a]=bif eqS (lowS a) infB then 1 else bif eqS (lowS a) ninfB then -1 else bif eqS (lowS a) epB then 2 else 0:=rfl
def spcV (k:Int):PV:=.tuple [.agg [.int .i64 (bif eqB k 2 then 0 else k),.int .i64 (bif eqB k 2 then -10957 else 0)],.bool (!eqB k 0)]
theorem low_inf:lowS infB=infB:=by decide
theorem low_ninf:lowS ninfB=ninfB:=by decide
theorem low_ep:lowS epB=epB:=by decide
theorem notone {l:List (List UInt8)} (h:l.length≠1):spcI l=0:=by
 match l,h with
 | [],_=>rfl
 | [a],h=>simp at h
 | _::_::_,_=>rfl
theorem zlb (l:List (List UInt8)) (hl:∀ p∈l,Sm p):zg1 (l.map PV.str)=some (spcV (spcI l)):=by
 rw [zwq]
 by_cases h:l.length=1
 ·obtain ⟨a,rfl⟩:∃ a,l=[a]:=by
   match l,h with
   | [a],_=>exact ⟨a,rfl⟩
  have ha:=hl a (by simp)
  rw [c_not,c_eqT (by simp),rd0]
  simp only [oB,z1j]
  rw [zso a ha.small]
  simp only [oB,z1j]
  rw [spc1]
  unfold spcV
  change (bif eqS (lowS a) infB then _ else bif eqS (lowS a) ninfB then _ else bif eqS (lowS a) epB then _ else _)=_
  cases h1:eqS (lowS a) infB with
  | true=>rfl
  | false =>
   rw [cond_false]
   cases h2:eqS (lowS a) ninfB with
   | true=>rfl
   | false =>
    rw [cond_false]
    cases h3:eqS (lowS a) epB with
    | true=>rfl
    | false=>rfl
 ·rw [c_not,c_eqF (by simp; omega),notone h]
  rfl
theorem z1c2 (l:List (List UInt8)) (hl:∀ p∈l,Sm p):z8u (l.map PV.str)=some (.int .i64 (spcI l)):=by
 rw [zhk]
 by_cases h:l.length=1
 ·obtain ⟨a,rfl⟩:∃ a,l=[a]:=by
   match l,h with
   | [a],_=>exact ⟨a,rfl⟩
  have ha:=hl a (by simp)
  have si:Small infB:=by unfold Small infB; simp
  have sn:Small ninfB:=by unfold Small ninfB; simp
  have se:Small epB:=by unfold Small epB; simp
  rw [c_not,c_eqT (by simp),rd0]
  simp only [oB,z1j]
  change ((z18 a infB).bind fun v1=>(bif (PV.toB v1) then _ else ((z18 a ninfB).bind fun v2=>(bif (PV.toB v2) then _ else ((z18 a epB).bind fun v3=>(bif (PV.toB v3) then _ else _))))))=_
  rw [zol a infB ha.small si,zol a ninfB ha.small sn,zol a epB ha.small se]
  simp only [oB,zv]
  rw [spc1]
  unfold sameB
  rw [low_inf,low_ninf,low_ep]
  cases eqS (lowS a) infB <;> cases eqS (lowS a) ninfB <;> cases eqS (lowS a) epB <;> rfl
 ·rw [c_not,c_eqF (by simp; omega),notone h]
def eraO (l:List (List UInt8)):List (List UInt8)×Bool :=
 if l.length≤1 then (l,false) else match l.getLast? with
  | some x=>if eqS (lowS x) [98,99] then (l.dropLast,true) else if eqS (lowS x) [97,100] then (l.dropLast,false) else (l,false)
  | none=>(l,false)
theorem z1b1 {l:List (List UInt8)} (h:1<l.length):∃ x,l.getLast?=some x∧rdI tiStr (l.map PV.str) ((l.length:Int)-1)=some (.str x)∧takeS (l.map PV.str) ((l.length:Int)-1)=some (l.dropLast.map PV.str)∧x∈l:=by
 have hne:l≠[]:=by rintro rfl; simp at h
 refine ⟨l.getLast hne,List.getLast?_eq_some_getLast hne,?_,?_,List.getLast_mem hne⟩
 ·rw [show ((l.length:Int)-1)=((l.length-1:Nat):Int) by omega,rdI_n]
  exact z12l (by rw [← List.getLast?_eq_getElem?,List.getLast?_eq_some_getLast hne])
 ·rw [show ((l.length:Int)-1)=((l.length-1:Nat):Int) by omega,zi2 (by simp),← List.map_take,List.dropLast_eq_take]
theorem wera_s (l:List (List UInt8)) (hl:∀ p∈l,Sm p) (hn:l.length≤10000000000) (K:Bool→List PV→Option PV) :
  (bif (Dv.ltB (Go.IntKind.wrap Go.IntKind.i64 ((((List.length (l.map PV.str)):Nat):Int)-(1:Int))) (1:Int)) then (K Bool.false (l.map PV.str)) else ((Dv.rdI Dv.tiStr (l.map PV.str) (Go.IntKind.wrap Go.IntKind.i64 ((((List.length (l.map PV.str)):Nat):Int)-(1:Int)))).bind fun v1=>((z8y (Dv.PV.toS v1)).bind fun v2=>(bif (Dv.eqS (Dv.PV.toS v2) [(98:UInt8),(99:UInt8)]) then ((Dv.takeS (l.map PV.str) (Go.IntKind.wrap Go.IntKind.i64 ((((List.length (l.map PV.str)):Nat):Int)-(1:Int)))).bind fun v3=>(K (Dv.eqS (Dv.PV.toS v2) [(98:UInt8),(99:UInt8)]) v3)) else (bif (Dv.eqS (Dv.PV.toS v2) [(97:UInt8),(100:UInt8)]) then ((Dv.takeS (l.map PV.str) (Go.IntKind.wrap Go.IntKind.i64 ((((List.length (l.map PV.str)):Nat):Int)-(1:Int)))).bind fun v4=>(K (Dv.eqS (Dv.PV.toS v2) [(98:UInt8),(99:UInt8)]) v4)) else (K (Dv.eqS (Dv.PV.toS v2) [(98:UInt8),(99:UInt8)]) (l.map PV.str))))))) =
   K (eraO l).2 ((eraO l).1.map PV.str):=by
 rw [List.length_map,w64 (by omega) (by omega)]
 unfold eraO
 by_cases h:1<l.length
 ·obtain ⟨x,h1,h2,h3,h4⟩:=z1b1 h
  rw [c_ltF (by omega),if_neg (by omega),h1,h2,h3]
  simp only [oB,z1j]
  rw [zso x (hl x h4).small]
  simp only [oB,z1j]
  cases hb:eqS (lowS x) [98,99] with
  | true=>rfl
  | false =>
   rw [cond_false]
   cases hd:eqS (lowS x) [97,100] with
   | true=>rfl
   | false=>rfl
 ·rw [c_ltT (by omega),if_pos (by omega)]
theorem rera_s (l:List (List UInt8)) (hl:∀ p∈l,Sm p) (hn:l.length≤10000000000):zd9 (l.map PV.str)=some (.tuple [.sl 1 ((eraO l).1.map PV.str),.bool (eraO l).2]):=by
 have sb:Small [66,67]:=by unfold Small; simp
 have sa:Small [65,68]:=by unfold Small; simp
 have lb:lowS [66,67]=[98,99]:=by decide
 have la:lowS [65,68]=[97,100]:=by decide
 rw [zni,List.length_map,w64 (by omega) (by omega)]
 unfold eraO
 by_cases h:1<l.length
 ·obtain ⟨x,h1,h2,h3,h4⟩:=z1b1 h
  rw [c_ltT (by omega),if_neg (by omega),h1,h2]
  simp only [oB,z1j]
  have hx:=(hl x h4).small
  have c4:z70 (l.map PV.str) x=some (.tuple [.sl 1 (l.dropLast.map PV.str),.bool (sameB x [66,67])]):=by
   rw [zin,List.length_map,w64 (by omega) (by omega),h3]
   simp only [oB]
   rw [zol x _ hx sb]; rfl
  rw [zol x _ hx sb,zol x _ hx sa,c4]
  simp only [oB,zv]
  unfold sameB
  rw [lb,la]
  cases hb:eqS (lowS x) [98,99] with
  | true=>rfl
  | false =>
   rw [cond_false]
   cases hd:eqS (lowS x) [97,100] with
   | true=>rfl
   | false=>rfl
 ·rw [c_ltF (by omega),if_pos (by omega)]
theorem era_sub {l:List (List UInt8)}:∀ p∈(eraO l).1,p∈l:=by
 intro p hp
 unfold eraO at hp
 split at hp
 ·exact hp
 ·split at hp
  ·split at hp
   ·exact (List.dropLast_sublist _).subset hp
   ·split at hp
    ·exact (List.dropLast_sublist _).subset hp
    ·exact hp
  ·exact hp
end Dv

namespace Dv
open Go
def dgt (c:UInt8):Int:=(c.toNat:Int)-48
def runD:List UInt8→List UInt8×List UInt8
 | []=>([],[])
 | c::r=>if digB c then (c::(runD r).1,(runD r).2) else ([],c::r)
def valD (n:Int):List UInt8→Int
 | []=>n
 | c::r=>valD (10*n+dgt c) r
theorem dgt_rng {c:UInt8} (h:digB c=true):0≤dgt c∧dgt c≤9:=by
 have:=(zab c).1 h
 unfold dgt; omega
theorem z19e:∀ (ds:List UInt8) (n:Int) (k:Nat),0≤n→n<10 ^ k→(∀ c∈ds,digB c=true)→0≤valD n ds∧valD n ds<10 ^ (k+ds.length)
 | [],n,k,h0,h1,_=>⟨h0,by simpa [valD] using h1⟩
 | c::r,n,k,h0,h1,hd=>by
  have hc:=dgt_rng (hd c (by simp))
  have:=z19e r (10*n+dgt c) (k+1) (by omega) (by rw [Int.pow_succ]; omega) (fun x hx=>hd x (by simp [hx]))
  simp only [valD,List.length_cons]
  rw [show k+(r.length+1)=k+1+r.length by omega]
  exact this
def scanK (most:Nat) (s:List UInt8):List UInt8×List UInt8:=((runD s).1.take most,(runD s).1.drop most++(runD s).2)
section
variable (num3 num4:Int→Int→Int→Int→List UInt8→Bool→Option PV) (num6:Int→Int→Int→List UInt8→Bool→Option PV) (next:Int→List UInt8→Bool→Option PV)
 (h3:∀ x0 x1 x2 x3 x4 x5,num3 x0 x1 x2 x3 x4 x5=(bif (ltB x3 x1) then (bif (ltB x3 (((List.length x4):Nat):Int)) then ((atS x4 x3).bind fun v1=>(bif (leB (48:Int) v1) then ((atS x4 x3).bind fun v2=>(bif (leB v2 (57:Int)) then (num4 x0 x1 x2 x3 x4 x5) else (num6 x0 x2 x3 x4 x5))) else (num6 x0 x2 x3 x4 x5))) else (num6 x0 x2 x3 x4 x5)) else (num6 x0 x2 x3 x4 x5)))
 (h4:∀ x0 x1 x2 x3 x4 x5,num4 x0 x1 x2 x3 x4 x5=((atS x4 x3).bind fun v3=>(num3 x0 x1 (IntKind.wrap IntKind.i64 ((IntKind.wrap IntKind.i64 ((10:Int)*x2))+(IntKind.wrap IntKind.i64 (IntKind.wrap IntKind.u8 (v3-(48:Int)))))) (IntKind.wrap IntKind.i64 (x3+(1:Int))) x4 x5)))
 (h6:∀ x0 x1 x2 x3 x4,num6 x0 x1 x2 x3 x4=(bif (ltB x2 x0) then ((dropS x3 x2).bind fun v4=>(next x1 v4 Bool.true)) else ((dropS x3 x2).bind fun v5=>(next x1 v5 x4))))
include h3 h4 h6
end
end Dv

namespace Dv
open Go
def aft (c:UInt8):List UInt8→Option (List UInt8)
 | []=>none
 | x::r=>if x=c then some r else none
def fracO (h m x:Int) (s:List UInt8):Option (Int×Int×Int×Int) :=
 if 1≤(runD s).1.length∧(runD s).1.length≤6∧(runD s).2=[] then some (h,m,x,valD 0 (runD s).1*10 ^ (6-(runD s).1.length)) else none
def secO (h m:Int) (s:List UInt8):Option (Int×Int×Int×Int) :=
 if (runD s).1.length=2 then (if (runD s).2=[] then some (h,m,valD 0 (runD s).1,0) else (aft 46 (runD s).2).bind (fracO h m (valD 0 (runD s).1))) else none
def minO (h:Int) (s:List UInt8):Option (Int×Int×Int×Int) :=
 if (runD s).1.length=2 then (if (runD s).2=[] then some (h,valD 0 (runD s).1,0,0) else (aft 58 (runD s).2).bind (secO h (valD 0 (runD s).1))) else none
def timeO (s:List UInt8):Option (Int×Int×Int×Int) :=
 if (runD s).1.length=1∨(runD s).1.length=2 then (aft 58 (runD s).2).bind (minO (valD 0 (runD s).1)) else none
def litV:PV:=.tuple [.int .i64 0,.int .i64 13]
noncomputable def mkR (h m x u:Int):Option PV:=(zr0 h m x u).bind fun v=>some (.tuple [.int .i64 (v.tnth 0).toI,.int .i64 (v.tnth 1).toI])
noncomputable def ansR:Option (Int×Int×Int×Int)→Option PV
 | some (h,m,x,u)=>mkR h m x u
 | none=>some litV
end Dv

namespace Dv
open Go
abbrev Grp:=Int×Nat
def gV (g:Grp):PV:=.agg [.int .i64 g.1,.int .i64 (g.2:Int)]
def grpS:List UInt8→Int→Nat→Option (List Grp×List UInt8)
 | [],n,k=>some ([(n,k)],[])
 | c::r,n,k=>if digB c=true∧k<6 then grpS r (10*n+dgt c) (k+1) else if c=58∨c=46 then (grpS r 0 0).map (fun p=>((n,k)::p.1,c::p.2)) else none
end Dv

namespace Dv
open Go
section
variable (s:List UInt8) (K:List Grp→List UInt8→Option PV)
noncomputable def gM:Option PV:=match grpS s 0 0 with | some (l,sg)=>K l sg | none=>some litV
end
noncomputable def mkP (h m x u:Int):Option PV:=(z1d8 h m x u).bind fun v=>some (.tuple [.int .i64 (v.tnth 0).toI,.int .i64 (v.tnth 1).toI])
noncomputable def gAns:List UInt8→List Grp→Option PV
 | [58],[g0,g1]=>if (g0.2=1∨g0.2=2)∧g1.2=2 then mkP g0.1 g1.1 0 0 else some litV
 | [58,58],[g0,g1,g2]=>if (g0.2=1∨g0.2=2)∧g1.2=2∧g2.2=2 then mkP g0.1 g1.1 g2.1 0 else some litV
 | [58,58,46],[g0,g1,g2,g3]=>if (g0.2=1∨g0.2=2)∧g1.2=2∧g2.2=2∧g3.2≠0 then mkP g0.1 g1.1 g2.1 (g3.1*10 ^ (6-g3.2)) else some litV
 | _,_=>some litV
theorem a1 (g0 g1:Grp):gAns [58] [g0,g1]=if (g0.2=1∨g0.2=2)∧g1.2=2 then mkP g0.1 g1.1 0 0 else some litV:=rfl
theorem a2 (g0 g1 g2:Grp):gAns [58,58] [g0,g1,g2]=if (g0.2=1∨g0.2=2)∧g1.2=2∧g2.2=2 then mkP g0.1 g1.1 g2.1 0 else some litV:=rfl
theorem a3 (g0 g1 g2 g3:Grp):gAns [58,58,46] [g0,g1,g2,g3]=if (g0.2=1∨g0.2=2)∧g1.2=2∧g2.2=2∧g3.2≠0 then mkP g0.1 g1.1 g2.1 (g3.1*10 ^ (6-g3.2)) else some litV:=rfl
theorem a0 (sg:List UInt8) (l:List Grp) (h1:sg≠[58]) (h2:sg≠[58,58]) (h3:sg≠[58,58,46]):gAns sg l=some litV:=by
 unfold gAns
 split
 ·exact absurd rfl h1
 ·exact absurd rfl h2
 ·exact absurd rfl h3
 ·rfl
end Dv

namespace Dv
open Go
theorem z1co {n:Int} (h:zhj n=some (.bool true)):-2451507≤n∧n≤106751982:=by
 obtain ⟨b,h1,h2,h3⟩:=z12z n
 rw [h] at h1
 cases h1
 obtain ⟨y,m,d,_,_,e3,e4,e5,e6⟩:=h3 rfl
 obtain ⟨a1,a2⟩:=z1be e3
 have j1:=zhe (-4712) (y+4712).toNat
 have j2:=zhe (y+1) (294276-y).toNat
 rw [show (-4712:Int)+((y+4712).toNat:Int)=y by omega] at j1
 rw [show y+1+((294276-y).toNat:Int)=294277 by omega] at j2
 have k1:jan1 (-4712)=-2451507:=by decide
 have k2:jan1 294277=106751983:=by decide
 omega
def hitB (s:List UInt8) (k:Nat):Bool:=match k with
 | 0=>false
 | j+1=>match s[j]?,s[j+1]?,s[j+2]? with
  | some a,some c,some b=>(c == 84||c == 116)&&(digB a&&digB b)
  | _,_,_=>false
def hitK (s:List UInt8):Nat→Nat→Option Nat
 | 0,_=>none
 | j+1,k=>if hitB s k then some k else hitK s j (k+1)
def cutO:List (List UInt8)→List (List UInt8)
 | []=>[]
 | a::r=>match hitK a a.length 1 with
  | some k=>a.take k::a.drop (k+1)::r
  | none=>a::r
end Dv

namespace Dv
open Go
def litM:PV:=.tuple [.agg [.int .i64 0,.int .i64 0],.str [],.int .i64 13]
def rngM (e:Int):PV:=.tuple [.agg [.int .i64 0,.int .i64 0],.str [],.int .i64 e]
def stV (i u e:Int):PV:=.tuple [.agg [.int .i64 i,.int .i64 u],.int .i64 e]
end Dv

namespace Dv
open Go
def insB (n:Int):Bool:=decide (-2451507≤n∧n≤106751982)
theorem insB_s (n:Int):zhj n=some (.bool (insB n)):=by
 unfold insB
 by_cases h:-2451507≤n∧n≤106751982
 ·rw [decide_eq_true h]
  obtain ⟨y,m,d,p1,p2,p3⟩:=parts_s (n:=n) (by omega) (by omega)
  have hc:canB n=true:=by unfold canB; exact decide_eq_true (by omega)
  obtain ⟨a1,a2⟩:=z1be p2
  have k1:jan1 (-4712)=-2451507:=by decide
  have k2:jan1 294277=106751983:=by decide
  have y1:-4712≤y:=by
   rcases Int.lt_or_le y (-4712) with hy | hy
   ·have j:=zhe (y+1) (-4712-(y+1)).toNat
    rw [show y+1+((-4712-(y+1)).toNat:Int)=-4712 by omega] at j
    omega
   ·exact hy
  have y2:y≤294276:=by
   rcases Int.lt_or_le 294276 y with hy | hy
   ·have j:=zhe 294277 (y-294277).toNat
    rw [show (294277:Int)+((y-294277).toNat:Int)=y by omega] at j
    omega
   ·exact hy
  rw [zqx,zr1,civ_can,hc]
  simp only [oB,zv]
  rw [Bool.not_true,cond_false,p1]
  simp only [oB,tn0,tn1,tn2,tn3,zq]
  rw [c_eqT rfl,c_leT y1]
  unfold leB; rw [decide_eq_true y2]
 ·rw [decide_eq_false h]
  obtain ⟨b,h1,_⟩:=z12z n
  cases b with
  | false=>exact h1
  | true=>exact absurd (z1co h1) h
def dayO (Y M D:Int):Int×Int:=if rightI Y M D=true∧insB (dayI Y M D)=true then (dayI Y M D,0) else (0,10)
theorem make_p (y m d:Int):z13h y m d=some (.tuple [.agg [.int .i64 0,.int .i64 (dayO y m d).1],.int .i64 (dayO y m d).2])∧z6n y m d=some (.tuple [.agg [.int .i64 0,.int .i64 (dayO y m d).1],.int .i64 (dayO y m d).2]):=by
 rw [z18w,zkv,civ_days,ref_days]
 simp only [oB]
 unfold daysV dayO
 cases rightI y m d with
 | false =>
  rw [cond_false]
  simp only [tn0,tn1,zq]
  rw [zqy,c_not,c_eqF (by omega),c_not,c_eqF (by omega)]
  exact ⟨rfl,rfl⟩
 | true =>
  rw [cond_true]
  simp only [tn0,tn1,zq]
  obtain ⟨b,h1,h2,_⟩:=z12z (dayI y m d)
  have hb:=insB_s (dayI y m d)
  rw [h1] at hb
  simp only [oJ,PV.bool.injEq] at hb
  rw [zqy,c_not,c_eqT rfl,c_not,c_eqT rfl,h1,h2,← hb]
  simp only [oB,zv,true_and]
  cases b <;> exact ⟨rfl,rfl⟩
abbrev DT:=Int×Int×Int
def dtV (v:DT):PV:=.tuple [.agg [.int .i64 v.1,.int .i64 v.2.1],.int .i64 v.2.2]
def dateF (t:DateO) (r:List (List UInt8)):DT:=match t with
 | some (Y,M,D)=>if r=[] then (0,dayO Y M D) else (0,0,13)
 | none=>(0,0,13)
def dateW (l:List (List UInt8)) (o:Int):DT :=
 if spcI l=2 then (0,-10957,0) else if spcI l=0 then dateF (takeR (eraO l).2 (z8r (eraO l).1 o).1) (z8r (eraO l).1 o).2 else (spcI l,0,0)
def dateP (s:List UInt8) (o:Int):DT:=if o<0∨2<o then (0,0,1) else if 2048<s.length then (0,0,13) else dateW (z1x s) o
theorem z16d (s:List UInt8) (a o b:Int):zf7 s a o b=some (dtV (dateP s o))∧zgb s a o b=some (dtV (dateP s o)):=by
 rw [z15e,z184,zku,zhp]
 unfold dateP
 by_cases h1:o<0
 ·rw [c_ltT h1,c_ltT h1,if_pos (.inl h1)]
  exact ⟨rfl,rfl⟩
 rw [c_ltF h1,c_ltF h1]
 by_cases h2:2<o
 ·rw [c_ltT h2,c_ltT h2,if_pos (.inr h2)]
  exact ⟨rfl,rfl⟩
 rw [c_ltF h2,c_ltF h2,zho,if_neg (by omega)]
 by_cases h3:2048<(s.length:Int)
 ·rw [c_ltT h3,c_ltT h3,if_pos (by omega)]
  exact ⟨rfl,rfl⟩
 rw [c_ltF h3,c_ltF h3,if_neg (by omega)]
 have hs:Sm s:=by show s.length≤10000000000; omega
 have hw:=z119 hs
 have hn:(z1x s).length≤10000000000:=words_len (by omega)
 simp only [oB,zq]
 rw [c_not,c_eqT rfl,zuu s hs,rwords_s s hs]
 simp only [oB,z14r]
 rw [zlb _ hw,z1c2 _ hw]
 simp only [oB,zq]
 unfold dateW
 generalize hk:spcI (z1x s)=k
 unfold spcV
 simp only [tn0,tn1,ag0,ag1,zv,zq]
 by_cases k2:k=2
 ·subst k2
  exact ⟨rfl,rfl⟩
 have hk2:eqB k 2=false:=decide_eq_false k2
 rw [hk2,cond_false,cond_false,cond_false,if_neg k2]
 by_cases k0:k=0
 ·subst k0
  have e0:(!eqB 0 0)=false:=rfl
  rw [e0,cond_false,cond_false,if_pos rfl]
  have he:=wera_s (z1x s) hw hn (fun bc l=>z8n bc a o b 0 0 l)
  simp only at he
  rw [he,rera_s _ hw hn]
  simp only [oB,tn0,tn1,z14r,zv]
  have hl':∀ p∈(eraO (z1x s)).1,Sm p:=fun p hp=>hw p (era_sub p hp)
  obtain ⟨ok,Y,M,D,e1,e2⟩:=Date_take (eraO (z1x s)).1 hl' (eraO (z1x s)).2 o a b 0 0
  rw [e1,rdate_s _ hl' _ o (by omega)]
  unfold OkD at e2
  rw [e2,zuo,zun]
  simp only [oB]
  cases ok with
  | false=>exact ⟨rfl,rfl⟩
  | true =>
   obtain ⟨m1,m2⟩:=make_p Y M D
   have b4:(dateV (some (Y,M,D)) (z8r (eraO (z1x s)).1 o).2).tnth 4=.bool true:=rfl
   have b3:(dateV (some (Y,M,D)) (z8r (eraO (z1x s)).1 o).2).tnth 3=.sl 1 ((z8r (eraO (z1x s)).1 o).2.map PV.str):=rfl
   have b0:((dateV (some (Y,M,D)) (z8r (eraO (z1x s)).1 o).2).tnth 0).toI=Y:=rfl
   have b1:((dateV (some (Y,M,D)) (z8r (eraO (z1x s)).1 o).2).tnth 1).toI=M:=rfl
   have b2:((dateV (some (Y,M,D)) (z8r (eraO (z1x s)).1 o).2).tnth 2).toI=D:=rfl
   rw [if_pos rfl,b4,b3,b0,b1,b2,m1,m2]
   simp only [zv,z14r]
   rw [c_not,z110]
   have hF:dateF (some (Y,M,D)) (z8r (eraO (z1x s)).1 o).2=if (z8r (eraO (z1x s)).1 o).2=[] then (0,dayO Y M D) else (0,0,13):=rfl
   rw [hF]
   by_cases hr:(z8r (eraO (z1x s)).1 o).2=[]
   ·rw [hr,c_ltF (by simp),if_pos rfl]; exact ⟨rfl,rfl⟩
   ·have:0<(z8r (eraO (z1x s)).1 o).2.length:=List.length_pos_iff.2 hr
    rw [c_ltT (by simp; omega),if_neg hr]; exact ⟨rfl,rfl⟩
 ·rw [c_not,c_not,c_eqF k0,c_eqF k0,if_neg k0]
  exact ⟨rfl,rfl⟩
def mkO:Option (Int×Int×Int×Int)→Int×Int
 | some (h,m,x,u)=>if (0≤h∧h≤24)∧(0≤m∧m≤59)∧(0≤x∧x≤59)∧(0≤u∧u≤999999)∧((h*3600+m*60+x)*1000000+u≤86400000000) then ((h*3600+m*60+x)*1000000+u,0) else (0,10)
 | none=>(0,13)
def stF (n u:Int):DT:=if insB (if u=86400000000 then n+1 else n)=true then (0,n*86400000000+u,0) else (0,0,10)
def momF (Y M D:Int) (q:Int×Int):DT:=if q.2=13 then (0,0,13) else if (dayO Y M D).2=0 then (if q.2=0 then stF (dayO Y M D).1 q.1 else (0,0,10)) else (0,0,10)
def momW (t:DateO) (r:List (List UInt8)):DT:=match t,r with
 | some (Y,M,D),[]=>momF Y M D (0,0)
 | some (Y,M,D),[a]=>momF Y M D (mkO (timeO a))
 | _,_=>(0,0,13)
def stampW (l:List (List UInt8)) (o:Int):DT :=
 if spcI l=2 then (0,-946684800000000,0) else if spcI l=0 then momW (takeR (eraO (cutO l)).2 (z8r (eraO (cutO l)).1 o).1) (z8r (eraO (cutO l)).1 o).2 else (spcI l,0,0)
def stampP (s:List UInt8) (o:Int):DT:=if o<0∨2<o then (0,0,1) else if 2048<s.length then (0,0,13) else stampW (z1x s) o
def momV (v:DT):PV:=.tuple [.agg [.int .i64 v.1,.int .i64 v.2.1],.str [],.int .i64 v.2.2]
end Dv

namespace Dv
open Go
def dgN (n:Nat):UInt8:=UInt8.ofNat (48+n % 10)
def digC:Nat→Nat→Nat→List UInt8
 | 0,_,_=>[]
 | f+1,n,m=>if n=0∧m=0 then [] else digC f (n / 10) (m-1)++[dgN n]
def digN (n:Nat):List UInt8:=digC 20 n 1
def revD:Nat→Nat→List UInt8
 | 0,u=>[dgN u]
 | f+1,u=>if u<10 then [dgN u] else dgN u::revD f (u / 10)
def decI (a:Int):List UInt8:=if a<0 then 45::digN (-a).toNat else digN a.toNat
def twoN (n:Nat):List UInt8:=digC 20 n 2
end Dv

namespace Dv
open Go
def stripZ:List UInt8→List UInt8
 | []=>[]
 | c::r=>if stripZ r=[]∧c=48 then [] else c::stripZ r
def endF:Nat→Nat→List UInt8→Nat
 | e,_,[]=>e
 | e,i,c::r=>endF (if c=48 then e else i+1) (i+1) r
def digB0 (c:UInt8):Prop:=48≤c.toNat∧c.toNat≤57
def fracN (u:Nat):List UInt8:=if u=0∨999999<u then [] else 46::stripZ (digC 20 u 6)
def textN (t:Nat):List UInt8:=twoN (t / 3600000000)++(58::(twoN (t / 60000000 % 60)++(58::(twoN (t / 1000000 % 60)++fracN (t % 1000000)))))
theorem tdivN (a b:Nat):Int.tdiv (a:Int) (b:Int)=((a / b:Nat):Int):=by rw [Int.tdiv_eq_ediv_of_nonneg (by omega)]; rfl
theorem tmodN (a b:Nat):Int.tmod (a:Int) (b:Int)=((a % b:Nat):Int):=by rw [Int.tmod_eq_emod_of_nonneg (by omega)]; rfl
def longI (a:Int):List UInt8:=if a<0 then 45::textN (-a).toNat else textN a.toNat
end Dv

namespace Dv
open Go
def totL:List (List UInt8)→Nat
 | []=>0
 | s::l=>s.length+totL l
def joinB (sep:List UInt8):List (List UInt8)→List UInt8
 | []=>[]
 | [a]=>a
 | a::b::r=>a++(sep++joinB sep (b::r))
def tailB (sep:List UInt8):List (List UInt8)→List UInt8
 | []=>[]
 | a::r=>sep++(a++tailB sep r)
def fullL (l:List (List UInt8)):List (List UInt8):=l.filter fun s=>!eqS s []
end Dv

namespace Dv
open Go
abbrev InS (n:Int):Prop:=-9223372036854775807≤n∧n≤9223372036854775807
def spanR (i m d u:Int):Bool :=
 if i=0 then decide (-2147483647≤m∧m≤2147483647∧-2147483647≤d∧d≤2147483647∧-9223372036854775807≤u∧u≤9223372036854775807) else decide ((i=-1∨i=1)∧m=0∧d=0∧u=0)
def styleR (a b c:Int):Bool:=decide (0≤a∧a≤1∧0≤b∧b≤2∧0≤c∧c≤2)
theorem neg_ok {u:Int} (h1:-9223372036854775808≤u) (h2:u≤9223372036854775807):∃ n,z18c u=some (.tuple [.int .i64 n,.int .i64 (if u=-9223372036854775808 then 10 else 0)]):=by
 rw [z1c8,z1c7]
 by_cases h:u=-9223372036854775808
 ·subst h
  refine ⟨0,?_⟩
  kernel_rfl
 ·have e:IntKind.i64.wrap (0-u)=-u:=by rw [w64 (by omega) (by omega)]; omega
  refine ⟨-u,?_⟩
  rw [e]
  have hb:(ltB (-u) 0 == ltB 0 u)=true:=by
   unfold ltB
   by_cases hu:0<u
   ·rw [decide_eq_true hu,decide_eq_true (by omega)]; rfl
   ·rw [decide_eq_false hu,decide_eq_false (by omega)]; rfl
  rw [hb,if_neg h]
  rfl
theorem z19b (n:Int):zi6 n=some (.bool (decide (-2147483647≤n∧n≤2147483647))):=by
 rw [zz4]
 unfold leB
 by_cases h1:-2147483647≤n <;> by_cases h2:n≤2147483647 <;> simp [h1,h2]
theorem z12c {i m d u:Int} (h1:-9223372036854775808≤u) (h2:u≤9223372036854775807):zmt i m d u=some (.bool (spanR i m d u)):=by
 rw [z11z]
 unfold spanR
 by_cases hi:i=0
 ·obtain ⟨n,hn⟩:=neg_ok h1 h2
  rw [c_not,c_eqT hi,if_pos hi,hn,z19b,z19b]
  simp only [oB,zv,tn1,zq]
  by_cases hm:-2147483647≤m∧m≤2147483647
  ·rw [decide_eq_true hm,cond_true]
   by_cases hd:-2147483647≤d∧d≤2147483647
   ·rw [decide_eq_true hd,cond_true]
    unfold eqB
    by_cases hu:u=-9223372036854775808
    ·simp [hu]
    ·have:-9223372036854775807≤u:=by omega
     simp [hu,hm,hd,this,h2]
   ·rw [decide_eq_false hd,cond_false,decide_eq_false (by omega)]
  ·rw [decide_eq_false hm,cond_false,decide_eq_false (by omega)]
 ·rw [c_not,c_eqF hi,if_neg hi]
  unfold eqB leB
  by_cases a1:m=0 <;> by_cases a2:d=0 <;> by_cases a3:u=0 <;> simp [a1,a2,a3]
  by_cases b1:-1≤i <;> by_cases b2:i≤1 <;> simp [b1,b2] <;> omega
def sgnB (a:Int):List UInt8:=if a<0 then [45] else [43]
def absI (a:Int):Int:=if a<0 then -a else a
end Dv

namespace Dv
open Go
def unitB (n:Int) (name:List UInt8) (was:Int):List UInt8 :=
 if n=0 then [] else (if was<0∧0<n then [43] else [])++(decI n++(32::(name++(if n=1 then [] else [115]))))
def nextW (n was:Int):Int:=if n=0 then was else n
def timeB (u was:Int):List UInt8:=if 0<u∧was<0 then 43::longI u else if u≠0∨was=0 then longI u else []
def addW (t s:List UInt8):List UInt8:=if s=[] then t else if t=[] then s else t++(32::s)
def yearN:List UInt8:=[121,101,97,114]
def monN:List UInt8:=[109,111,110]
def dayN:List UInt8:=[100,97,121]
def pgB (m d u:Int):List UInt8 :=
 addW (addW (addW (unitB (m.tdiv 12) yearN 0) (unitB (m.tmod 12) monN (m.tdiv 12))) (unitB d dayN (nextW (m.tmod 12) (m.tdiv 12)))) (timeB u (nextW d (nextW (m.tmod 12) (m.tdiv 12))))
end Dv

namespace Dv
open Go
theorem extIB:z9f z62 EE.ext=some z5b:=by kernel_rfl
theorem z153 (s:List UInt8) (c:UInt8):z68 s (c.toNat:Int)=some (.int .i64 (Lib.indexByte s c)):=by
 rw [zao,zy6 EE _ _ _ extIB]
 have e:z5b [.str s,.int .u8 (c.toNat:Int)]=some (.int .i64 (Lib.indexByte s c)):=by
  unfold z5b
  simp
 rw [e]; rfl
def clockN (n:Nat):List UInt8:=digN (n / 3600000000)++(58::(twoN (n / 60000000 % 60)++(58::(twoN (n / 1000000 % 60)++fracN (n % 1000000)))))
def wordsH (m d u:Int):List UInt8 :=
 sgnB m++(digN ((absI m).toNat / 12)++(45::(digN ((absI m).toNat % 12)++(32::(sgnB d++(digN (absI d).toNat++(32::(sgnB u++clockN (absI u).toNat))))))))
end Dv

namespace Dv
open Go
def partB (n:Int) (c:UInt8):List UInt8:=if n=0 then [] else decI n++[c]
def secB (u:Int):List UInt8:=if u=0 then [] else (if u<0 then [45] else [])++(digN ((absI u).toNat / 1000000)++(fracN ((absI u).toNat % 1000000)++[83]))
def hourI (u:Int):Int:=u.tdiv 3600000000
def minI' (u:Int):Int:=(u.tmod 3600000000).tdiv 60000000
def isoH (m d:Int):List UInt8:=80::(partB (m.tdiv 12) 89++(partB (m.tmod 12) 77++partB d 68))
def isoT (m d u:Int):List UInt8:=if u=0 then isoH m d else isoH m d++(84::(partB (hourI u) 72++(partB (minI' u) 77++secB (u.tmod 60000000))))
def isoB (m d u:Int):List UInt8:=if isoT m d u=[80] then [80,84,48,83] else isoT m d u
end Dv

namespace Dv
open Go
def spanV (i m d u a b c:Int):PV :=
 if spanR i m d u=true∧styleR a b c=true then
  if i≠0 then .tuple [.str (if i<0 then [45,105,110,102,105,110,105,116,121] else [105,110,102,105,110,105,116,121]),.int .i64 0]
  else .tuple [.str (if c=1 then wordsH m d u else if c=2 then isoB m d u else pgB m d u),.int .i64 0]
 else .tuple [.str [],.int .i64 1]
end Dv

namespace Dv
open Go
def padN (s:List UInt8):List UInt8:=List.replicate (4-s.length) 48++s
def dateN (y m d:Int) (a b:Int):List UInt8 :=
 if a=0 then padN (digN y.toNat)++([45]++(twoN m.toNat++([45]++twoN d.toNat)))
 else if b=2 then twoN m.toNat++([47]++(twoN d.toNat++([47]++padN (digN y.toNat))))
 else if b=1 then twoN d.toNat++([47]++(twoN m.toNat++([47]++padN (digN y.toNat))))
 else padN (digN y.toNat)++([47]++(twoN m.toNat++([47]++twoN d.toNat)))
end Dv

set_option maxRecDepth 20000
namespace Dv
open Go
theorem rep_s (k:Nat) (hk:k≤5):zde [48] (k:Int)=some (.str (List.replicate k 48)):=by
 match k,hk with
 | 0,_=>rw [zd3]; rfl
 | 1,_=>rw [zd3]; rfl
 | 2,_=>exact rep_2 2 (by omega) (by omega) rfl rfl
 | 3,_=>exact rep_2 3 (by omega) (by omega) rfl rfl
 | 4,_=>exact rep_2 4 (by omega) (by omega) rfl rfl
 | 5,_=>exact rep_2 5 (by omega) (by omega) rfl rfl
where
 rep_2 (k:Nat) (h2:2≤k) (h3:k≤5) (ht:takeS [(48:UInt8),48,48,48,48,48,48,48,48,48,48,48,48,48,48,48,48,48,48,48,48,48,48,48,48,48,48,48,48,48,48,48,48,48,48,48,48,48,48,48,48,48,48,48,48,48,48,48,48,48,48,48,48,48,48,48,48,48,48,48,48,48,48,48] (k:Int)=some (List.replicate k 48)) (_:(0:Int)=0) :
   zde [48] (k:Int)=some (.str (List.replicate k 48)):=by
  have w1:IntKind.u64.wrap ((([48]:List UInt8).length:Nat):Int)=1:=rfl
  rw [zd3,c_eqF (by omega),c_eqF (by omega),c_ltF (by omega),znd,z195,w1,wu64 (by omega) (by omega),mul64_s (by omega) (by omega)]
  simp only [oB,tn0,tn1,zq]
  rw [c_ltF (by omega),c_ltF (by omega),zk4,c_eqF (by decide)]
  have a0:atS ([48]:List UInt8) 0=some 48:=rfl
  rw [a0]
  simp only [oB]
  rw [c_eqF (by omega),c_eqF (by omega),c_eqT rfl,show (1:Int)*(k:Int) % 18446744073709551616=(k:Int) by omega,w64 (by omega) (by omega)]
  rw [zk3,c_leT (by omega),z9d,z4n]
  refine Eq.trans (b:=z8c [48] (k:Int)) rfl ?_
  rw [zk2,c_leT (by omega),z9d,z4n]
  refine Eq.trans (b:=z8b [48] (k:Int)) rfl ?_
  rw [zk1,c_leT (by omega),z9d,z4n]
  refine Eq.trans (b:=zbk (k:Int)) rfl ?_
  rw [zk0,ht]
  rfl
end Dv

set_option maxRecDepth 20000
namespace Dv
open Go
def cutF (c:UInt8):List UInt8→List UInt8×List UInt8×Bool
 | []=>([],[],false)
 | d::r=>if d=c then ([],r,true) else (d::(cutF c r).1,(cutF c r).2.1,(cutF c r).2.2)
theorem cutF_index (c:UInt8):∀ s:List UInt8,(Lib.indexByte s c=-1∧cutF c s=(s,[],false))∨∃ k:Nat,Lib.indexByte s c=(k:Int)∧k<s.length∧cutF c s=(s.take k,s.drop (k+1),true)
 | []=>.inl ⟨rfl,rfl⟩
 | d::r=>by
  by_cases h:d=c
  ·subst h
   refine .inr ⟨0,by simp [Lib.indexByte],by simp,?_⟩
   unfold cutF; rw [if_pos rfl]; rfl
  ·have hb:(d == c)=false:=by simpa using h
   rcases cutF_index c r with ⟨h1,h2⟩ | ⟨k,h1,h2,h3⟩
   ·refine .inl ⟨?_,?_⟩
    ·unfold Lib.indexByte; rw [hb,h1]; rfl
    ·unfold cutF; rw [if_neg h,h2]
   ·refine .inr ⟨k+1,?_,by simp; omega,?_⟩
    ·unfold Lib.indexByte
     rw [hb,h1]
     have:((k:Int) == -1)=false:=by simp
     rw [this]; simp
    ·unfold cutF; rw [if_neg h,h3]; simp
theorem cut_s (s:List UInt8) (c:UInt8) (hs:s.length≤1000000000):zoc s [c]=some (.tuple [.str (cutF c s).1,.str (cutF c s).2.1,.bool (cutF c s).2.2]):=by
 have e1:(((List.length [c]:Nat)):Int)=1:=rfl
 have hidx:z90 s [c]=some (.int .i64 (Lib.indexByte s c)):=by
  rw [zef,e1,c_eqF (by omega)]
  by_cases h:[c]=s
  ·subst h
   rw [z16o rfl,zbj]
   have:Lib.indexByte [c] c=0:=by simp [Lib.indexByte]
   rw [this]
  ·rw [zy8 h,zbi,c_eqT rfl,atS_z (c:=c) rfl]
   simp only [oB]
   rw [z153 s c]
   rfl
 rw [zz3,zpq,hidx,e1]
 simp only [oB,zq]
 rcases cutF_index c s with ⟨h1,h2⟩ | ⟨k,h1,h2,h3⟩
 ·rw [h1,c_leF (by omega),h2]; rfl
 ·rw [h1,c_leT (by omega),zi2 (by omega),w64 (by omega) (by omega),show (k:Int)+1=((k+1:Nat):Int) by omega,zoz (by omega),h3]
  rfl
def preB (c:UInt8):List UInt8→Bool
 | []=>false
 | d::_=>d == c
def preT (c:UInt8) (s:List UInt8):List UInt8:=bif preB c s then s.tail else s
theorem hasP_s (s:List UInt8) (c:UInt8) (hs:s.length≤1000000000):z4e s [c]=some (.bool (preB c s)):=by
 have e1:(((List.length [c]:Nat)):Int)=1:=rfl
 rw [z4n,e1]
 cases s with
 | nil=>rfl
 | cons d r =>
  have ht:takeS (d::r) 1=some [d]:=by rw [z19p (by omega) (by simp; omega)]; rfl
  rw [c_leT (by simp; omega),ht]
  simp only [oB]
  unfold eqS preB
  congr 2
  rw [Bool.eq_iff_iff]; simp
theorem z15h {s:List UInt8} {c:UInt8} (h:preB c s=true):dropS s (((List.length [c]:Nat)):Int)=some (preT c s):=by
 unfold preT
 rw [h,cond_true]
 cases s with
 | nil=>cases h
 | cons d r=>rw [zoz (by simp)]; rfl
theorem zqz (s:List UInt8) (c:UInt8) (hs:s.length≤1000000000):z92 s [c]=some (.tuple [.str (preT c s),.bool (preB c s)]):=by
 rw [zne,zh0,hasP_s s c hs]
 simp only [oB,zv]
 cases h:preB c s with
 | false =>
  have:preT c s=s:=by unfold preT; rw [h]; rfl
  rw [this]; rfl
 | true=>rw [z15h h]; rfl
theorem z11s (s:List UInt8) (c:UInt8) (hs:s.length≤1000000000):z8a s [c]=some (.str (preT c s)):=by
 rw [zjz,zgi,hasP_s s c hs]
 simp only [oB,zv]
 cases h:preB c s with
 | false =>
  have:preT c s=s:=by unfold preT; rw [h]; rfl
  rw [this]; rfl
 | true=>rw [z15h h]; rfl
end Dv

set_option maxRecDepth 20000
namespace Dv
open Go
theorem z1a9:∀ (s:List UInt8) (n:Int) (o:Bool),0≤n→n≤9223372036854775807→∃ a b,numG s n o=.tuple [.int .i64 a,.int .i64 b]∧0≤a∧a≤9223372036854775807
 | [],n,o,h0,h1=>by
  cases o
  ·exact ⟨_,_,rfl,h0,h1⟩
  ·exact ⟨_,_,rfl,by omega,by omega⟩
 | c::r,n,o,h0,h1=>by
  unfold numG
  cases hd:digB c with
  | false=>exact ⟨_,_,rfl,by omega,by omega⟩
  | true =>
   have hdd:=(zab c).1 hd
   simp only [cond_true]
   cases o with
   | true=>exact z1a9 r 0 true (by omega) (by omega)
   | false =>
    simp only [cond_false]
    by_cases h:10*n+((c.toNat:Int)-48)≤9223372036854775807
    ·rw [c_leT h]
     exact z1a9 r _ false (by omega) h
    ·rw [c_leF h]; exact z1a9 r 0 true (by omega) (by omega)
theorem numR_s (s:List UInt8):numV s=.tuple [.int .i64 (numN s),.int .i64 (numE s)]∧0≤numN s∧numN s≤9223372036854775807∧True:=by
 have:∃ a b,numV s=.tuple [.int .i64 a,.int .i64 b]∧0≤a∧a≤9223372036854775807:=by
  unfold numV
  cases eqS s [] with
  | true=>exact ⟨_,_,rfl,by omega,by omega⟩
  | false=>exact z1a9 s 0 false (by omega) (by omega)
 obtain ⟨a,b,h,h1,h2⟩:=this
 unfold numN numE
 rw [h]
 exact ⟨rfl,h1,h2,trivial⟩
theorem zn1 (c:UInt8) (s:List UInt8):(preT c s).length≤s.length:=by
 unfold preT
 cases preB c s with
 | false=>exact Nat.le_refl _
 | true=>simp
def sgT (t:List UInt8) (neg:Bool):Option (Int×Bool):=if numE t=13 then none else some (bif neg then -numN t else numN t,!eqB (numE t) 0)
def sgn (s:List UInt8) (plus:Bool):Option (Int×Bool):=sgT (bif !preB 45 s&&plus then preT 43 s else preT 45 s) (preB 45 s)
def moreF (t n by_:Int) (ov:Bool):Int×Bool:=if In64 (n*by_)∧In64 (t+n*by_) then (t+n*by_,ov) else (t,true)
theorem zer {t n b:Int} {ov:Bool} (h:In64 t):In64 (moreF t n b ov).1:=by
 unfold moreF
 split
 ·rename_i h'; exact h'.2
 ·exact h
theorem spSg_1 (x0:List UInt8) (x1:Bool) (x2:Int) (x3:Int) (x4:Int) (x5:Int) (x6:Bool) (x7:List PV) (x8:List PV) (x9:Nat) (xA:Int) (xB:Int) (xC:Int) (xD:Int) (xE:Int) (xF:Int) (xG:Int) (xH:Int) (xI:Int) (xJ:List UInt8) (xK:List PV) (xL:Bool) (xM:List UInt8) (xN:List PV) (hs:x0.length≤100000000):z39 x0 x1 x2 x3 x4 x5 x6 x7 x8 x9 xA xB xC xD xE xF xG xH xI xJ xK xL xM xN=match sgn x0 x1 with | none=>(some (PV.tuple [(PV.agg [(PV.int IntKind.i64 0),(PV.int IntKind.i64 0),(PV.int IntKind.i64 0),(PV.int IntKind.i64 0)]),(PV.int IntKind.i64 13)])) | some q=>(z1s xJ xK q.1 x2 x3 x4 x5 (x6||q.2) x7 x8 x9 xA xB xC xD xE xF xG xH xI xL xM xN):=by
 rw [z9z,zqz x0 45 (by omega)]
 simp only [oB,tn0,tn1,z1j,zv]
 have h4:∀ s:List UInt8,s.length≤100000000→z1e s (preB 45 x0) x2 x3 x4 x5 x6 x7 x8 x9 xA xB xC xD xE xF xG xH xI xJ xK xL xM xN=match sgT s (preB 45 x0) with | none=>(some (PV.tuple [(PV.agg [(PV.int IntKind.i64 0),(PV.int IntKind.i64 0),(PV.int IntKind.i64 0),(PV.int IntKind.i64 0)]),(PV.int IntKind.i64 13)])) | some q=>(z1s xJ xK q.1 x2 x3 x4 x5 (x6||q.2) x7 x8 x9 xA xB xC xD xE xF xG xH xI xL xM xN):=by
  intro s hs
  obtain ⟨e1,e2,e3,e4⟩:=numR_s s
  rw [z9t,zjp s (by show s.length≤70368744177664; omega),e1]
  simp only [oB,tn0,tn1,zq]
  rw [z9r]
  unfold sgT
  by_cases h13:numE s=13
  ·rw [if_pos h13,h13]; rfl
  ·rw [if_neg h13]
   have hb:(!(!eqB (numE s) 13))=false:=by unfold eqB; rw [decide_eq_false h13]; rfl
   rw [hb,cond_false,z9p]
   have hw:IntKind.i64.wrap (0-numN s)=-numN s:=by rw [w64 (by omega) (by omega)]; omega
   cases hx:x6 <;> simp only [cond_true,cond_false,Bool.true_or,Bool.false_or] <;> rw [z9n,hw] <;> cases preB 45 x0 <;> rfl
 rw [z9x]
 unfold sgn
 cases hn:preB 45 x0 with
 | true =>
  rw [hn] at h4
  simp only [Bool.not_true,cond_false,Bool.false_and]
  exact h4 _ (by have:=zn1 45 x0; omega)
 | false =>
  rw [hn] at h4
  cases hp:x1 with
  | false =>
   simp only [Bool.not_false,cond_true,cond_false,Bool.and_false]
   exact h4 _ (by have:=zn1 45 x0; omega)
  | true =>
   simp only [Bool.not_false,cond_true,Bool.and_self]
   rw [z9v,z11s x0 43 (by omega)]
   simp only [oB,z1j]
   exact h4 _ (by have:=zn1 43 x0; omega)
theorem spSg_2 (x0:List UInt8) (x1:Bool) (x2:Int) (x3:Int) (x4:Int) (x5:Int) (x6:Bool) (x7:List PV) (x8:List PV) (x9:Nat) (xA:Int) (xB:Int) (xC:Int) (xD:Int) (xE:Int) (xF:Int) (xG:Int) (xH:Int) (xI:Int) (xJ:Bool) (xK:List PV) (hs:x0.length≤100000000):z38 x0 x1 x2 x3 x4 x5 x6 x7 x8 x9 xA xB xC xD xE xF xG xH xI xJ xK=match sgn x0 x1 with | none=>(some (PV.tuple [(PV.agg [(PV.int IntKind.i64 0),(PV.int IntKind.i64 0),(PV.int IntKind.i64 0),(PV.int IntKind.i64 0)]),(PV.int IntKind.i64 13)])) | some q=>(z1k xJ q.1 x2 x3 x4 x5 (x6||q.2) x7 x8 x9 xA xB xC xD xE xF xG xH xI xK):=by
 rw [z9y,zqz x0 45 (by omega)]
 simp only [oB,tn0,tn1,z1j,zv]
 have h4:∀ s:List UInt8,s.length≤100000000→z1d s (preB 45 x0) x2 x3 x4 x5 x6 x7 x8 x9 xA xB xC xD xE xF xG xH xI xJ xK=match sgT s (preB 45 x0) with | none=>(some (PV.tuple [(PV.agg [(PV.int IntKind.i64 0),(PV.int IntKind.i64 0),(PV.int IntKind.i64 0),(PV.int IntKind.i64 0)]),(PV.int IntKind.i64 13)])) | some q=>(z1k xJ q.1 x2 x3 x4 x5 (x6||q.2) x7 x8 x9 xA xB xC xD xE xF xG xH xI xK):=by
  intro s hs
  obtain ⟨e1,e2,e3,e4⟩:=numR_s s
  rw [z9s,zjp s (by show s.length≤70368744177664; omega),e1]
  simp only [oB,tn0,tn1,zq]
  rw [z9q]
  unfold sgT
  by_cases h13:numE s=13
  ·rw [if_pos h13,h13]; rfl
  ·rw [if_neg h13]
   have hb:(!(!eqB (numE s) 13))=false:=by unfold eqB; rw [decide_eq_false h13]; rfl
   rw [hb,cond_false,z9o]
   have hw:IntKind.i64.wrap (0-numN s)=-numN s:=by rw [w64 (by omega) (by omega)]; omega
   cases hx:x6 <;> simp only [cond_true,cond_false,Bool.true_or,Bool.false_or] <;> rw [z9m,hw] <;> cases preB 45 x0 <;> rfl
 rw [z9w]
 unfold sgn
 cases hn:preB 45 x0 with
 | true =>
  rw [hn] at h4
  simp only [Bool.not_true,cond_false,Bool.false_and]
  exact h4 _ (by have:=zn1 45 x0; omega)
 | false =>
  rw [hn] at h4
  cases hp:x1 with
  | false =>
   simp only [Bool.not_false,cond_true,cond_false,Bool.and_false]
   exact h4 _ (by have:=zn1 45 x0; omega)
  | true =>
   simp only [Bool.not_false,cond_true,Bool.and_self]
   rw [z9u,z11s x0 43 (by omega)]
   simp only [oB,z1j]
   exact h4 _ (by have:=zn1 43 x0; omega)
theorem spMo_2 (x0:Int) (x1:Int) (x2:Int) (x3:Int) (x4:Int) (x5:Int) (x6:Bool) (x7:List PV) (x8:List PV) (x9:Nat) (xA:Int) (xB:Int) (xC:Int) (xD:Int) (xE:Int) (xF:Int) (xG:Int) (xH:Int) (xI:Int) (xJ:Int) (xK:Int) (xL:Int) (xM:Int) (xN:Bool) (xO:Int) (xP:List PV) (h0:In64 x0) (h1:In64 x1) (ht:In64 x3):z46 x0 x1 x2 x3 x4 x5 x6 x7 x8 x9 xA xB xC xD xE xF xG xH xI xJ xK xL xM xN xO xP=(z29 xN xO x2 (moreF x3 x0 x1 x6).1 x4 x5 (moreF x3 x0 x1 x6).2 x7 x8 x9 xA xB xC xD xE xF xG xH xI xJ xK xL xM xP):=by
 rw [zba,mul_s h0 h1]
 unfold moreF limV
 by_cases hm:In64 (x0*x1)
 ·rw [if_pos hm]
  simp only [oB,tn0,tn1,zq]
  rw [z60,c_eqT rfl,add_s ht hm]
  unfold limV
  by_cases ha:In64 (x3+x0*x1)
  ·rw [if_pos ha,if_pos ⟨hm,ha⟩]
   simp only [oB,tn0,tn1,zq]
   rw [z34]; rfl
  ·rw [if_neg ha,if_neg (fun h=>ha h.2)]
   simp only [oB,tn0,tn1,zq]
   rw [z34]; rfl
 ·rw [if_neg hm,if_neg (fun h=>hm h.1)]
  simp only [oB,tn0,tn1,zq]
  rw [z60,c_eqF (by omega),z34]; rfl
theorem spMo_3 (x0:Int) (x1:Int) (x2:Int) (x3:Int) (x4:Int) (x5:Int) (x6:Bool) (x7:List PV) (x8:List PV) (x9:Nat) (xA:Int) (xB:Int) (xC:Int) (xD:Int) (xE:Int) (xF:Int) (xG:Int) (xH:Int) (xI:Int) (xJ:Int) (xK:Bool) (xL:List UInt8) (xM:List PV) (h0:In64 x0) (h1:In64 x1) (ht:In64 x5):z45 x0 x1 x2 x3 x4 x5 x6 x7 x8 x9 xA xB xC xD xE xF xG xH xI xJ xK xL xM=(z2g xJ x2 x3 x4 (moreF x5 x0 x1 x6).1 (moreF x5 x0 x1 x6).2 x7 x8 x9 xA xB xC xD xE xF xG xH xI xK xL xM):=by
 rw [zb9,mul_s h0 h1]
 unfold moreF limV
 by_cases hm:In64 (x0*x1)
 ·rw [if_pos hm]
  simp only [oB,tn0,tn1,zq]
  rw [z5z,c_eqT rfl,add_s ht hm]
  unfold limV
  by_cases ha:In64 (x5+x0*x1)
  ·rw [if_pos ha,if_pos ⟨hm,ha⟩]
   simp only [oB,tn0,tn1,zq]
   rw [z33]; rfl
  ·rw [if_neg ha,if_neg (fun h=>ha h.2)]
   simp only [oB,tn0,tn1,zq]
   rw [z33]; rfl
 ·rw [if_neg hm,if_neg (fun h=>hm h.1)]
  simp only [oB,tn0,tn1,zq]
  rw [z5z,c_eqF (by omega),z33]; rfl
theorem spMo_4 (x0:Int) (x1:Int) (x2:Int) (x3:Int) (x4:Int) (x5:Int) (x6:Bool) (x7:List PV) (x8:List PV) (x9:Nat) (xA:Int) (xB:Int) (xC:Int) (xD:Int) (xE:Int) (xF:Int) (xG:Int) (xH:Int) (xI:Int) (xJ:Int) (xK:Int) (xL:Int) (xM:Int) (xN:Bool) (xO:Int) (xP:List PV) (h0:In64 x0) (h1:In64 x1) (ht:In64 x4):z44 x0 x1 x2 x3 x4 x5 x6 x7 x8 x9 xA xB xC xD xE xF xG xH xI xJ xK xL xM xN xO xP=(z28 xN xO x2 x3 (moreF x4 x0 x1 x6).1 x5 (moreF x4 x0 x1 x6).2 x7 x8 x9 xA xB xC xD xE xF xG xH xI xJ xK xL xM xP):=by
 rw [zb8,mul_s h0 h1]
 unfold moreF limV
 by_cases hm:In64 (x0*x1)
 ·rw [if_pos hm]
  simp only [oB,tn0,tn1,zq]
  rw [z5y,c_eqT rfl,add_s ht hm]
  unfold limV
  by_cases ha:In64 (x4+x0*x1)
  ·rw [if_pos ha,if_pos ⟨hm,ha⟩]
   simp only [oB,tn0,tn1,zq]
   rw [z32]; rfl
  ·rw [if_neg ha,if_neg (fun h=>ha h.2)]
   simp only [oB,tn0,tn1,zq]
   rw [z32]; rfl
 ·rw [if_neg hm,if_neg (fun h=>hm h.1)]
  simp only [oB,tn0,tn1,zq]
  rw [z5y,c_eqF (by omega),z32]; rfl
theorem spMo_5 (x0:Int) (x1:Int) (x2:Int) (x3:Int) (x4:Int) (x5:Int) (x6:Bool) (x7:List PV) (x8:List PV) (x9:Nat) (xA:Int) (xB:Int) (xC:Int) (xD:Int) (xE:Int) (xF:Int) (xG:Int) (xH:Int) (xI:Int) (xJ:Int) (xK:Bool) (xL:List UInt8) (xM:List PV) (h0:In64 x0) (h1:In64 x1) (ht:In64 x5):z43 x0 x1 x2 x3 x4 x5 x6 x7 x8 x9 xA xB xC xD xE xF xG xH xI xJ xK xL xM=(z2f x2 x3 x4 (moreF x5 x0 x1 x6).1 (moreF x5 x0 x1 x6).2 x7 x8 x9 xA xB xC xD xE xF xG xH xI xK xL xM):=by
 rw [zb7,mul_s h0 h1]
 unfold moreF limV
 by_cases hm:In64 (x0*x1)
 ·rw [if_pos hm]
  simp only [oB,tn0,tn1,zq]
  rw [z5x,c_eqT rfl,add_s ht hm]
  unfold limV
  by_cases ha:In64 (x5+x0*x1)
  ·rw [if_pos ha,if_pos ⟨hm,ha⟩]
   simp only [oB,tn0,tn1,zq]
   rw [z31]; rfl
  ·rw [if_neg ha,if_neg (fun h=>ha h.2)]
   simp only [oB,tn0,tn1,zq]
   rw [z31]; rfl
 ·rw [if_neg hm,if_neg (fun h=>hm h.1)]
  simp only [oB,tn0,tn1,zq]
  rw [z5x,c_eqF (by omega),z31]; rfl
theorem spMo_6 (x0:Int) (x1:Int) (x2:Int) (x3:Int) (x4:Int) (x5:Int) (x6:Bool) (x7:List PV) (x8:List PV) (x9:Nat) (xA:Int) (xB:Int) (xC:Int) (xD:Int) (xE:Int) (xF:Int) (xG:Int) (xH:Int) (xI:Int) (xJ:Int) (xK:Int) (xL:Int) (xM:Int) (xN:Bool) (xO:Int) (xP:List PV) (h0:In64 x0) (h1:In64 x1) (ht:In64 x5):z42 x0 x1 x2 x3 x4 x5 x6 x7 x8 x9 xA xB xC xD xE xF xG xH xI xJ xK xL xM xN xO xP=(z10 xN x2 x3 x4 (moreF x5 x0 x1 x6).1 (moreF x5 x0 x1 x6).2 x7 x8 x9 xE xF xG xH xI xJ xK xL xM xP):=by
 rw [zb6,mul_s h0 h1]
 unfold moreF limV
 by_cases hm:In64 (x0*x1)
 ·rw [if_pos hm]
  simp only [oB,tn0,tn1,zq]
  rw [z5w,c_eqT rfl,add_s ht hm]
  unfold limV
  by_cases ha:In64 (x5+x0*x1)
  ·rw [if_pos ha,if_pos ⟨hm,ha⟩]
   simp only [oB,tn0,tn1,zq]
   rw [z30]; rfl
  ·rw [if_neg ha,if_neg (fun h=>ha h.2)]
   simp only [oB,tn0,tn1,zq]
   rw [z30]; rfl
 ·rw [if_neg hm,if_neg (fun h=>hm h.1)]
  simp only [oB,tn0,tn1,zq]
  rw [z5w,c_eqF (by omega),z30]; rfl
end Dv

namespace Dv
open Go
theorem z1a8:∀ (s:List UInt8) (n:Int) (k:Nat),s.all digB=true→0≤n→n<10 ^ k→k+s.length≤18→numG s n false=.tuple [.int .i64 (valD n s),.int .i64 0]
 | [],n,k,_,_,_,_=>rfl
 | c::r,n,k,h,h0,h1,h2=>by
  simp only [List.all_cons,Bool.and_eq_true] at h
  have hr:=dgt_rng h.1
  have hk:(10:Int) ^ k≤10 ^ 17:=by
   have:k≤17:=by simp at h2; omega
   exact_mod_cast Nat.pow_le_pow_right (by omega:0<10) this
  have hn:n<100000000000000000:=Int.lt_of_lt_of_le h1 hk
  unfold dgt at hr
  rw [numG,h.1,cond_true,cond_false,c_leT (by omega)]
  have:=z1a8 r (10*n+((c.toNat:Int)-48)) (k+1) h.2 (by omega) (by rw [Int.pow_succ]; omega) (by simp at h2; omega)
  rw [this]
  rfl
theorem numN_val {s:List UInt8} (hne:s≠[]) (h:s.all digB=true) (hl:s.length≤18):numN s=valD 0 s:=by
 unfold numN numV eqS
 rw [decide_eq_false hne,cond_false,z1a8 s 0 0 h (Int.le_refl _) (by decide) (by omega)]
 rfl
end Dv

set_option maxRecDepth 20000
namespace Dv
open Go
theorem z13g {s:List UInt8} {lo hi:Int} (h:dgs s lo hi=true):lo≤s.length∧(s.length:Int)≤hi∧s.all digB=true:=by
 unfold dgs leB at h
 simp only [Bool.and_eq_true,decide_eq_true_eq] at h
 exact h
theorem z12o {s:List UInt8} {k:Nat} (h:s.all digB=true) (hl:s.length≤k) (hk:k≤6) (hne:s≠[]):0≤numN s∧numN s<1000000:=by
 rw [numN_val hne h (by omega)]
 have:=z19e s 0 0 (Int.le_refl _) (by decide) (fun c hc=>List.all_eq_true.1 h c hc)
 rw [Nat.zero_add] at this
 have h2:(10:Int) ^ s.length≤10 ^ 6:=by exact_mod_cast Nat.pow_le_pow_right (by omega) (by omega:s.length≤6)
 have h3:(10:Int) ^ 6=1000000:=by decide
 omega
def fracF (s:List UInt8):Option Int:=if dgs s 1 6=true then some (numN (s++List.replicate (6-s.length) 48)) else none
theorem frac_rng {s:List UInt8} (h:dgs s 1 6=true):0≤numN (s++List.replicate (6-s.length) 48)∧numN (s++List.replicate (6-s.length) 48)<1000000:=by
 obtain ⟨h1,h2,h3⟩:=z13g h
 refine z12o (k:=6) ?_ (by simp; omega) (by omega) (by
  intro e
  have:=congrArg List.length e
  rw [List.length_append,List.length_replicate,List.length_nil] at this
  omega)
 rw [List.all_append,h3,List.all_replicate]
 simp; right; decide
def usF (b c:List UInt8):Option Int :=
 if dgs b 2 2=true∧dgs (cutF 46 c).1 2 2=true then
  (if (cutF 46 c).2.2=true then fracF (cutF 46 c).2.1 else some 0).bind fun us =>
   if numN b<60∧numN (cutF 46 c).1<60 then some (us+(numN b*60000000+numN (cutF 46 c).1*1000000)) else none
 else none
def timeF (s:List UInt8) (u:Int) (ov:Bool):Option (Option (Int×Bool)) :=
 match splitB 58 s with
 | [a,b,c]=>match sgn a true with
  | none=>none
  | some q=>match usF b c with
   | none=>none
   | some us=>some (some (moreF (moreF u q.1 3600000000 (ov||q.2)).1 (if preB 45 s=true then -us else us) 1 (moreF u q.1 3600000000 (ov||q.2)).2))
 | _=>some none
abbrev failV:PV:=.tuple [.agg [.int .i64 0,.int .i64 0,.int .i64 0,.int .i64 0],.int .i64 13]
theorem z1bf (c:UInt8):∀ s:List UInt8,(cutF c s).1.length≤s.length∧(cutF c s).2.1.length≤s.length
 | []=>⟨Nat.le_refl _,Nat.le_refl _⟩
 | d::r=>by
  have:=z1bf c r
  unfold cutF
  split
  ·simp
  ·simp; omega
theorem sgT_in {t:List UInt8} {neg:Bool} {q:Int×Bool} (h:sgT t neg=some q):In64 q.1:=by
 unfold sgT at h
 split at h
 ·cases h
 ·simp only [oJ] at h
  obtain ⟨e1,e2,e3,_⟩:=numR_s t
  subst h
  cases neg
  ·exact ⟨by simp only [cond_false]; omega,by simp only [cond_false]; omega⟩
  ·exact ⟨by simp only [cond_true]; omega,by simp only [cond_true]; omega⟩
theorem sgn_in {s:List UInt8} {plus:Bool} {q:Int×Bool} (h:sgn s plus=some q):In64 q.1:=sgT_in h
section
variable (i m d u:Int) (ov:Bool) (l met:List PV) (N:Nat) (c0 c1 c2 c3 c4 c5 c6 c7 c8:Int) (ago:Bool) (s2:List UInt8) (L:List PV)
theorem tn_c12 (s:List UInt8) (h us a b:Int) (hh:In64 h) (hu:In64 u) (hs:s≠[]) (ha:0≤a∧a<60) (hb:0≤b∧b<60) (hus:0≤us∧us<1000000) :
  z4f s h us a b i m d u ov l met N c0 c1 c2 c3 c4 c5 c6 c7 c8 ago s2 L =
   z1a ago i m d (moreF (moreF u h 3600000000 ov).1 (if preB 45 s=true then -(us+(a*60000000+b*1000000)) else us+(a*60000000+b*1000000)) 1 (moreF u h 3600000000 ov).2).1
    (moreF (moreF u h 3600000000 ov).1 (if preB 45 s=true then -(us+(a*60000000+b*1000000)) else us+(a*60000000+b*1000000)) 1 (moreF u h 3600000000 ov).2).2 l met N c0 c1 c2 c3 c4 c5 c6 c7 c8 L:=by
 have key:∀ w:Int,In64 w→z2h h w i m d u ov l met N c0 c1 c2 c3 c4 c5 c6 c7 c8 ago s2 L =
   z1a ago i m d (moreF (moreF u h 3600000000 ov).1 w 1 (moreF u h 3600000000 ov).2).1 (moreF (moreF u h 3600000000 ov).1 w 1 (moreF u h 3600000000 ov).2).2 l met N c0 c1 c2 c3 c4 c5 c6 c7 c8 L:=by
  intro w hw
  rw [zbs,spMo_3 (h0:=hh) (h1:=⟨by omega,by omega⟩) (ht:=hu),zbr,spMo_5 (h0:=hw) (h1:=⟨by omega,by omega⟩) (ht:=zer hu),zbq]
 obtain ⟨c,r,rfl⟩:∃ c r,s=c::r:=by cases s with | nil=>exact absurd rfl hs | cons c r=>exact ⟨c,r,rfl⟩
 rw [zbt,atS_z (c:=c) rfl]
 simp only [oB]
 rw [w64 (n:=a*60000000) (by omega) (by omega),w64 (n:=b*1000000) (by omega) (by omega),w64 (n:=a*60000000+b*1000000) (by omega) (by omega),w64 (n:=us+(a*60000000+b*1000000)) (by omega) (by omega),w64 (by omega) (by omega)]
 by_cases h45:c=45
 ·subst h45
  rw [c_eqT (by decide),key _ ⟨by omega,by omega⟩,if_pos (by simp [preB])]
  have:∀ x:Int,0-x=-x:=fun x=>by omega
  rw [this]
 ·have h1:¬ (c.toNat:Int)=45:=by
   intro e
   apply h45
   have e:c.toNat=45:=by omega
   rw [← UInt8.ofNat_toNat (x:=c),e]
   rfl
  rw [c_eqF h1,key _ ⟨by omega,by omega⟩,if_neg (by simpa [preB] using h45)]
theorem time_n (s:List UInt8) (hs:s.length≤100000) (hu:In64 u):z4v s i m d u ov l met N c0 c1 c2 c3 c4 c5 c6 c7 c8 ago s2 L =
  match timeF s u ov with
  | none=>some failV
  | some none=>z3w ago s2 i m d u ov l met N c0 c1 c2 c3 c4 c5 c6 c7 c8 L
  | some (some q)=>z1a ago i m d q.1 q.2 l met N c0 c1 c2 c3 c4 c5 c6 c7 c8 L:=by
 rw [zck,zwa s 58 (by omega)]
 simp only [oB,PV.toL]
 rw [zcj]
 unfold timeF
 have hpl:=zsx 58 s
 generalize hp:splitB 58 s=ps at hpl
 match ps with
 | []=>rw [z22]; rfl
 | [a]=>rw [z22]; rfl
 | [a,b]=>rw [z22]; rfl
 | a::b::c::e::r =>
  have h3:¬ (((List.map PV.str (a::b::c::e::r)).length:Nat):Int)=3:=by simp; omega
  rw [c_not,c_eqF h3,z22]
 | [a,b,c] =>
  have ha:=hpl a (by simp)
  have hb:=hpl b (by simp)
  have hc:=hpl c (by simp)
  have t0:rdI tiStr (List.map PV.str [a,b,c]) 0=some (.str a):=rfl
  have t1:rdI tiStr (List.map PV.str [a,b,c]) 1=some (.str b):=rfl
  have t2:rdI tiStr (List.map PV.str [a,b,c]) 2=some (.str c):=rfl
  have h3:(((List.map PV.str [a,b,c]).length:Nat):Int)=3:=rfl
  rw [c_not,c_eqT h3,zci,t0]
  simp only [oB,z1j]
  rw [spSg_1 (hs:=by omega)]
  cases hq:sgn a true with
  | none=>rfl
  | some q =>
  have hqi:=sgn_in hq
  simp only
  rw [zch,t2]
  simp only [oB,z1j]
  rw [cut_s c 46 (by omega)]
  simp only [oB,tn0,tn1,tn2,z1j,zv]
  rw [zcg,t1]
  have hcl:=z1bf 46 c
  simp only [oB,z1j]
  rw [zbc b (by show b.length≤10000000000; omega) (by omega)]
  simp only [oB,zv]
  unfold usF
  cases hdb:dgs b 2 2 with
  | false=>rw [if_neg (by simp)]; rfl
  | true =>
  simp only [cond_true]
  rw [zbc _ (by show (cutF 46 c).1.length≤10000000000; omega) (by omega)]
  simp only [oB,zv]
  cases hdc:dgs (cutF 46 c).1 2 2 with
  | false=>rw [if_neg (by simp)]; rfl
  | true =>
  rw [if_pos ⟨trivial,rfl⟩]
  simp only [Bool.not_true,cond_false]
  obtain ⟨b1,b2,b3⟩:=z13g hdb
  obtain ⟨c1',c2',c3'⟩:=z13g hdc
  have rb:=z12o (k:=2) b3 (by omega) (by omega) (by intro e; rw [e] at b1; simp at b1)
  have rc:=z12o (k:=2) c3' (by omega) (by omega) (by intro e; rw [e] at c1'; simp at c1')
  have hsne:s≠[]:=by intro e; subst e; cases hp
  have k10:∀ us:Int,0≤us∧us<1000000→z2i s (List.map PV.str [a,b,c]) q.1 (cutF 46 c).1 us i m d u (ov||q.2) l met N c0 c1 c2 c3 c4 c5 c6 c7 c8 ago s2 L =
    match (if numN b<60∧numN (cutF 46 c).1<60 then some (us+(numN b*60000000+numN (cutF 46 c).1*1000000)) else none:Option Int) with
    | none=>some failV
    | some us=>z1a ago i m d (moreF (moreF u q.1 3600000000 (ov||q.2)).1 (if preB 45 s=true then -us else us) 1 (moreF u q.1 3600000000 (ov||q.2)).2).1
     (moreF (moreF u q.1 3600000000 (ov||q.2)).1 (if preB 45 s=true then -us else us) 1 (moreF u q.1 3600000000 (ov||q.2)).2).2 l met N c0 c1 c2 c3 c4 c5 c6 c7 c8 L:=by
   intro us hus
   rw [zbv,t1]
   simp only [oB,z1j]
   rw [ze7 b (by show b.length≤10000000000; omega),ze7 _ (by show (cutF 46 c).1.length≤10000000000; omega)]
   simp only [oB,zq]
   rw [zbu]
   by_cases h1:numN b<60
   ·rw [c_ltT h1]
    by_cases h2:numN (cutF 46 c).1<60
    ·rw [c_not,c_ltT h2,if_pos ⟨h1,h2⟩]
     exact tn_c12 i m d u (ov||q.2) l met N c0 c1 c2 c3 c4 c5 c6 c7 c8 ago s2 L s q.1 us _ _ hqi hu hsne ⟨rb.1,h1⟩ ⟨rc.1,h2⟩ hus
    ·rw [c_not,c_ltF h2,if_neg (fun h=>h2 h.2)]
   ·rw [c_ltF h1,if_neg (fun h=>h1 h.1)]
  rw [zcf]
  cases hpt:(cutF 46 c).2.2 with
  | false =>
   simp only [cond_false,Bool.false_eq_true,if_false,oB]
   rw [k10 0 (by omega)]
   split <;> rfl
  | true =>
   simp only [cond_true,if_true]
   rw [zcm,zbc _ (by show (cutF 46 c).2.1.length≤10000000000; omega) (by omega)]
   simp only [oB,zv]
   unfold fracF
   cases hf:dgs (cutF 46 c).2.1 1 6 with
   | false=>rfl
   | true =>
    obtain ⟨f1,f2,f3⟩:=z13g hf
    simp only [Bool.not_true,cond_false,if_true,oB]
    rw [zcl,w64 (by omega) (by omega),show (6:Int)-(((cutF 46 c).2.1.length:Nat):Int)=((6-(cutF 46 c).2.1.length:Nat):Int) by omega,rep_s _ (by omega)]
    simp only [oB,z1j]
    rw [zfh (by simp; omega)]
    simp only [oB]
    rw [ze7 _ (by show (_++_:List UInt8).length≤10000000000; simp; omega)]
    simp only [oB,zq]
    rw [k10 _ (frac_rng hf)]
    split <;> rfl
end
end Dv

set_option maxRecDepth 20000
namespace Dv
open Go
def unitT (t:List UInt8):Int×Int×Int×Int :=
 bif eqS t [121,101,97,114] then (12,0,0,1) else
 bif eqS t [121,101,97,114,115] then (12,0,0,1) else
 bif eqS t [109,111,110] then (1,0,0,2) else
 bif eqS t [109,111,110,115] then (1,0,0,2) else
 bif eqS t [109,111,110,116,104] then (1,0,0,2) else
 bif eqS t [109,111,110,116,104,115] then (1,0,0,2) else
 bif eqS t [119,101,101,107] then (0,7,0,3) else
 bif eqS t [119,101,101,107,115] then (0,7,0,3) else
 bif eqS t [100,97,121] then (0,1,0,4) else
 bif eqS t [100,97,121,115] then (0,1,0,4) else
 bif eqS t [104,111,117,114] then (0,0,3600000000,5) else
 bif eqS t [104,111,117,114,115] then (0,0,3600000000,5) else
 bif eqS t [109,105,110,117,116,101] then (0,0,60000000,6) else
 bif eqS t [109,105,110,117,116,101,115] then (0,0,60000000,6) else
 bif eqS t [109,105,110] then (0,0,60000000,6) else
 bif eqS t [109,105,110,115] then (0,0,60000000,6) else
 bif eqS t [115,101,99,111,110,100] then (0,0,1000000,7) else
 bif eqS t [115,101,99,111,110,100,115] then (0,0,1000000,7) else
 bif eqS t [115,101,99] then (0,0,1000000,7) else
 bif eqS t [115,101,99,115] then (0,0,1000000,7) else
 (0,0,0,0)
def unitV (v:Int×Int×Int×Int):PV:=.tuple [.agg [.int .i64 0,.int .i64 v.1,.int .i64 v.2.1,.int .i64 v.2.2.1],.int .i64 v.2.2.2]
theorem z19f (s:List UInt8) (hs:s.length≤1000000):zwp s=some (unitV (unitT (lowS s))):=by
 rw [z15a,zso s (by show s.length≤70368744177664; omega)]
 simp only [oB,z1j,zwo,zuj,zui,zuh,zug,zuf]
 unfold unitT
 generalize lowS s=t
 cases eqS t [121,101,97,114] with
 | true=>rfl
 | false =>
 simp only [cond_false]
 cases eqS t [121,101,97,114,115] with
 | true=>rfl
 | false =>
 simp only [cond_false]
 cases eqS t [109,111,110] with
 | true=>rfl
 | false =>
 simp only [cond_false]
 cases eqS t [109,111,110,115] with
 | true=>rfl
 | false =>
 simp only [cond_false]
 cases eqS t [109,111,110,116,104] with
 | true=>rfl
 | false =>
 simp only [cond_false]
 cases eqS t [109,111,110,116,104,115] with
 | true=>rfl
 | false =>
 simp only [cond_false]
 cases eqS t [119,101,101,107] with
 | true=>rfl
 | false =>
 simp only [cond_false]
 cases eqS t [119,101,101,107,115] with
 | true=>rfl
 | false =>
 simp only [cond_false]
 cases eqS t [100,97,121] with
 | true=>rfl
 | false =>
 simp only [cond_false]
 cases eqS t [100,97,121,115] with
 | true=>rfl
 | false =>
 simp only [cond_false]
 cases eqS t [104,111,117,114] with
 | true=>rfl
 | false =>
 simp only [cond_false]
 cases eqS t [104,111,117,114,115] with
 | true=>rfl
 | false =>
 simp only [cond_false]
 cases eqS t [109,105,110,117,116,101] with
 | true=>rfl
 | false =>
 simp only [cond_false]
 cases eqS t [109,105,110,117,116,101,115] with
 | true=>rfl
 | false =>
 simp only [cond_false]
 cases eqS t [109,105,110] with
 | true=>rfl
 | false =>
 simp only [cond_false]
 cases eqS t [109,105,110,115] with
 | true=>rfl
 | false =>
 simp only [cond_false]
 cases eqS t [115,101,99,111,110,100] with
 | true=>rfl
 | false =>
 simp only [cond_false]
 cases eqS t [115,101,99,111,110,100,115] with
 | true=>rfl
 | false =>
 simp only [cond_false]
 cases eqS t [115,101,99] with
 | true=>rfl
 | false =>
 simp only [cond_false]
 cases eqS t [115,101,99,115] with
 | true=>rfl
 | false =>
 simp only [cond_false]
 rfl
theorem unit_rng (t:List UInt8):0≤(unitT t).2.2.2∧(unitT t).2.2.2<8∧In64 (unitT t).1∧In64 (unitT t).2.1∧In64 (unitT t).2.2.1:=by
 unfold unitT In64
 cases eqS t [121,101,97,114] with
 | true=>simp only [cond_true]; omega
 | false =>
 simp only [cond_false]
 cases eqS t [121,101,97,114,115] with
 | true=>simp only [cond_true]; omega
 | false =>
 simp only [cond_false]
 cases eqS t [109,111,110] with
 | true=>simp only [cond_true]; omega
 | false =>
 simp only [cond_false]
 cases eqS t [109,111,110,115] with
 | true=>simp only [cond_true]; omega
 | false =>
 simp only [cond_false]
 cases eqS t [109,111,110,116,104] with
 | true=>simp only [cond_true]; omega
 | false =>
 simp only [cond_false]
 cases eqS t [109,111,110,116,104,115] with
 | true=>simp only [cond_true]; omega
 | false =>
 simp only [cond_false]
 cases eqS t [119,101,101,107] with
 | true=>simp only [cond_true]; omega
 | false =>
 simp only [cond_false]
 cases eqS t [119,101,101,107,115] with
 | true=>simp only [cond_true]; omega
 | false =>
 simp only [cond_false]
 cases eqS t [100,97,121] with
 | true=>simp only [cond_true]; omega
 | false =>
 simp only [cond_false]
 cases eqS t [100,97,121,115] with
 | true=>simp only [cond_true]; omega
 | false =>
 simp only [cond_false]
 cases eqS t [104,111,117,114] with
 | true=>simp only [cond_true]; omega
 | false =>
 simp only [cond_false]
 cases eqS t [104,111,117,114,115] with
 | true=>simp only [cond_true]; omega
 | false =>
 simp only [cond_false]
 cases eqS t [109,105,110,117,116,101] with
 | true=>simp only [cond_true]; omega
 | false =>
 simp only [cond_false]
 cases eqS t [109,105,110,117,116,101,115] with
 | true=>simp only [cond_true]; omega
 | false =>
 simp only [cond_false]
 cases eqS t [109,105,110] with
 | true=>simp only [cond_true]; omega
 | false =>
 simp only [cond_false]
 cases eqS t [109,105,110,115] with
 | true=>simp only [cond_true]; omega
 | false =>
 simp only [cond_false]
 cases eqS t [115,101,99,111,110,100] with
 | true=>simp only [cond_true]; omega
 | false =>
 simp only [cond_false]
 cases eqS t [115,101,99,111,110,100,115] with
 | true=>simp only [cond_true]; omega
 | false =>
 simp only [cond_false]
 cases eqS t [115,101,99] with
 | true=>simp only [cond_true]; omega
 | false =>
 simp only [cond_false]
 cases eqS t [115,101,99,115] with
 | true=>simp only [cond_true]; omega
 | false =>
 simp only [cond_false]
 omega
abbrev SumS:=Int×Int×Int×Bool
def metB (met:List Bool) (k:Nat):Bool:=nthD false met k
theorem nthB_eq:∀ (l:List Bool) (k:Nat),nthD false l k=l[k]?.getD false
 | [],k=>by simp [nthD]
 | a::l,0=>by simp [nthD]
 | a::l,k+1=>by simpa [nthD] using nthB_eq l k
theorem z1ap {met:List Bool} (h:met.length=8) {k:Nat} (hk:k<8):rdT zf0 (met.map PV.bool) k 0=some (.bool (metB met k)):=by
 unfold rdT metB
 rw [List.getElem?_map,nthB_eq,List.getElem?_eq_getElem (by omega)]
 rfl
theorem z1ao {met:List Bool} (h:met.length=8) {k:Nat} (hk:k<8):stC (met.map PV.bool) k 0 [.bool true]=some ((met.set k true).map PV.bool):=by
 unfold stC
 rw [List.getElem?_map,List.getElem?_eq_getElem (by omega)]
 simp [List.map_set]
def zkk:Nat→List (List UInt8)→List Bool→SumS→Option SumS
 | 0,_,_,_=>none
 | _+1,[],_,st=>some st
 | n+1,w::ws,met,(m,d,u,ov)=>match timeF w u ov with
  | none=>none
  | some (some q)=>if metB met 5=false∧metB met 6=false∧metB met 7=false then zkk n ws (((met.set 5 true).set 6 true).set 7 true) (m,d,q.1,q.2) else none
  | some none=>match sgn w true with
   | none=>none
   | some q=>match ws with
    | []=>none
    | t::ws'=>if 0<(unitT (lowS t)).2.2.2∧metB met (unitT (lowS t)).2.2.2.toNat=false then
      zkk n ws' (met.set (unitT (lowS t)).2.2.2.toNat true)
       ((moreF m q.1 (unitT (lowS t)).1 (ov||q.2)).1,(moreF d q.1 (unitT (lowS t)).2.1 (moreF m q.1 (unitT (lowS t)).1 (ov||q.2)).2).1,
        (moreF u q.1 (unitT (lowS t)).2.2.1 (moreF d q.1 (unitT (lowS t)).2.1 (moreF m q.1 (unitT (lowS t)).1 (ov||q.2)).2).2).1,
        (moreF u q.1 (unitT (lowS t)).2.2.1 (moreF d q.1 (unitT (lowS t)).2.1 (moreF m q.1 (unitT (lowS t)).1 (ov||q.2)).2).2).2)
     else none
def sumV (st:SumS):PV:=if st.2.2.2=true then .tuple [.agg [.int .i64 0,.int .i64 0,.int .i64 0,.int .i64 0],.int .i64 10]
 else if spanR 0 st.1 st.2.1 st.2.2.1=true then .tuple [.agg [.int .i64 0,.int .i64 st.1,.int .i64 st.2.1,.int .i64 st.2.2.1],.int .i64 0]
 else .tuple [.agg [.int .i64 0,.int .i64 0,.int .i64 0,.int .i64 0],.int .i64 10]
def agoF (st:SumS):SumS:=if spanR 0 st.1 st.2.1 st.2.2.1=true then (-st.1,-st.2.1,-st.2.2.1,st.2.2.2) else (0,0,0,true)
section
variable (c5 c6 c7 c8:Int) (L:List PV)
theorem try_n (m d u:Int) (ov:Bool) (hu:In64 u):z3j 0 0 0 0 0 0 m d u ov c5 c6 c7 c8 L=some (sumV (m,d,u,ov)):=by
 rw [ze8]
 unfold sumV
 cases ov with
 | true=>rfl
 | false =>
  simp only [cond_false,Bool.false_eq_true,if_false]
  rw [zsy,z12c hu.1 hu.2]
  simp only [oB,zv]
  cases spanR 0 m d u <;> rfl
theorem end_n (ago:Bool) (s1:List UInt8) (m d u:Int) (ov:Bool) (l met:List PV) (N:Nat) (hm:In64 m) (hd:In64 d) (hu:In64 u) :
  z2j ago s1 false 0 m d u ov l met N 0 0 0 0 0 c5 c6 c7 c8 L=some (sumV (bif ago then agoF (m,d,u,ov) else (m,d,u,ov))):=by
 rw [z6h]
 simp only [Bool.not_false,cond_true]
 cases ago with
 | false=>exact try_n c5 c6 c7 c8 L m d u ov hu
 | true =>
  simp only [cond_true]
  rw [zwb,z12c hu.1 hu.2]
  simp only [oB,zv]
  unfold agoF
  cases hr:spanR 0 m d u with
  | false =>
   simp only [Bool.not_false,cond_true,oB,tn0,tn1,zq,ag0,ag1,ag2,ag3,Bool.false_eq_true,if_false]
   rw [z5t]
   have:(!eqB (1:Int) 0)=true:=rfl
   rw [this]
   cases ov <;> simp only [cond_true,cond_false] <;> rw [z5s] <;> exact try_n c5 c6 c7 c8 L 0 0 0 true ⟨by omega,by omega⟩
  | true =>
   have h:-2147483647≤m∧m≤2147483647∧-2147483647≤d∧d≤2147483647∧-9223372036854775807≤u∧u≤9223372036854775807:=by
    unfold spanR at hr; rw [if_pos rfl] at hr; exact of_decide_eq_true hr
   simp only [Bool.not_true,cond_false,oB,tn0,tn1,zq,ag0,ag1,ag2,ag3,if_true]
   rw [w64 (n:=0-0) (by omega) (by omega),w64 (n:=0-m) (by omega) (by omega),w64 (n:=0-d) (by omega) (by omega),w64 (n:=0-u) (by omega) (by omega),z5t]
   have:(!eqB (0:Int) 0)=false:=rfl
   rw [this,show (0:Int)-m=-m by omega,show (0:Int)-d=-d by omega,show (0:Int)-u=-u by omega,show (0:Int)-0=0 by omega]
   cases ov <;> simp only [cond_true,cond_false] <;> rw [z5s] <;> exact try_n c5 c6 c7 c8 L (-m) (-d) (-u) _ ⟨by omega,by omega⟩
theorem loop_n (ago:Bool):∀ (n:Nat) (ws:List (List UInt8)) (met:List Bool) (m d u:Int) (ov:Bool),ws.length<n→n≤1000000→(∀ w∈ws,w.length≤100000)→met.length=8→In64 m→In64 d→In64 u →
  z10 ago 0 m d u ov (ws.map PV.str) (met.map PV.bool) 8 0 0 0 0 0 c5 c6 c7 c8 L =
   some (match zkk n ws met (m,d,u,ov) with | none=>failV | some st=>sumV (bif ago then agoF st else st))
 | 0,ws,met,m,d,u,ov,hn,_,_,_,_,_,_=>by omega
 | n+1,[],met,m,d,u,ov,hn,hn2,hw,hmet,hm,hd,hu=>by
  rw [z6i]
  have e:((((([]:List (List UInt8)).map PV.str)).length:Nat):Int)=0:=rfl
  rw [e,c_eqT rfl]
  exact end_n c5 c6 c7 c8 L ago [] m d u ov _ _ _ hm hd hu
 | n+1,w::ws,met,m,d,u,ov,hn,hn2,hw,hmet,hm,hd,hu=>by
  have hwl:=hw w (by simp)
  have hwr:∀ x∈ws,x.length≤100000:=fun x hx=>hw x (by simp [hx])
  have hlen:ws.length<n:=by simpa using hn
  have t0:rdI tiStr (List.map PV.str (w::ws)) 0=some (.str w):=rfl
  have d1:∀ x (xs:List (List UInt8)),dropS (List.map PV.str (x::xs)) 1=some (List.map PV.str xs):=by
   intro x xs
   rw [z1bc (by omega) (by simp; omega)]; rfl
  rw [z6i,c_eqF (by simp; omega),t0]
  simp only [oB,z1j]
  rw [d1 w ws]
  simp only [oB]
  rw [z6h]
  simp only [Bool.not_true,cond_false]
  rw [time_n (hs:=hwl) (hu:=hu)]
  show _=some (match (match timeF w u ov with | none=>_ | some (some q)=>_ | some none=>_) with | none=>failV | some st=>sumV (bif ago then agoF st else st))
  cases ht:timeF w u ov with
  | none=>rfl
  | some o =>
  cases o with
  | some q =>
   have hq:In64 q.1:=by
    unfold timeF at ht
    split at ht
    ·split at ht
     ·cases ht
     ·split at ht
      ·cases ht
      ·simp only [oJ] at ht
       rw [← ht]
       exact zer (zer hu)
    ·cases ht
   simp only
   rw [zbw,z1ap hmet (by omega),z1ap hmet (by omega),z1ap hmet (by omega)]
   simp only [oB,zv]
   cases h5:metB met 5 with
   | true=>rw [if_neg (by simp)]; rfl
   | false =>
   cases h6:metB met 6 with
   | true=>rw [if_neg (by simp)]; rfl
   | false =>
   cases h7:metB met 7 with
   | true=>rw [if_neg (by simp)]; rfl
   | false =>
   rw [if_pos ⟨rfl,rfl,rfl⟩]
   simp only [Bool.not_false,cond_true,Bool.not_true,cond_false]
   rw [zb5,z1ao hmet (by omega)]
   simp only [oB]
   rw [z1ao (by simp [hmet]) (by omega)]
   simp only [oB]
   rw [z1ao (by simp [hmet]) (by omega)]
   simp only [oB]
   exact loop_n ago n ws _ m d q.1 q.2 hlen (by omega) hwr (by simp [hmet]) hm hd hq
  | none =>
   simp only
   rw [zb4,spSg_2 (hs:=by omega)]
   cases hs:sgn w true with
   | none=>rfl
   | some q =>
   have hqi:=sgn_in hs
   simp only
   rw [zb3]
   match ws,hlen,hwr,d1,hn with
   | [],_,_,_,_ =>
    have e:((((([]:List (List UInt8)).map PV.str)).length:Nat):Int)=0:=rfl
    rw [e,c_eqT rfl,z5v,z19f [] (by simp)]
    simp only [oB]
    rw [z5u]
    rfl
   | t::ws',hlen,hwr,d1,hn =>
    have htl:=hwr t (by simp)
    have t1:rdI tiStr (List.map PV.str (t::ws')) 0=some (.str t):=rfl
    obtain ⟨k0,k8,hM,hD,hU⟩:=unit_rng (lowS t)
    rw [c_eqF (by simp; omega),t1]
    simp only [oB,z1j]
    rw [d1 t ws']
    simp only [oB]
    rw [z5v,z19f t (by omega)]
    simp only [oB]
    generalize unitT (lowS t)=v at k0 k8 hM hD hU
    obtain ⟨M,D,U,k⟩:=v
    simp only at k0 k8 hM hD hU ⊢
    show z3u ago true q.1 k 0 m d u (ov||q.2) (List.map PV.str ws') (List.map PV.bool met) 8 0 M D U 0 0 0 0 0 c5 c6 c7 c8 L=_
    rw [z5u]
    simp only [cond_true]
    by_cases hk:0<k
    ·have hin:inB 0 k ((8:Nat):Int)=true:=decide_eq_true ⟨k0,by omega⟩
     rw [c_ltT hk,hin,cond_true,z1ap hmet (by omega)]
     simp only [oB,zv]
     cases hmk:metB met k.toNat with
     | true=>rw [if_neg (fun h=>by cases h.2)]; rfl
     | false =>
      rw [if_pos ⟨hk,rfl⟩]
      simp only [Bool.not_false,Bool.not_true,cond_false]
      rw [zb2,hin,cond_true,z1ao hmet (by omega)]
      simp only [oB]
      rw [spMo_2 (h0:=hqi) (h1:=hM) (ht:=hm),zb1,spMo_4 (h0:=hqi) (h1:=hD) (ht:=hd),zb0,spMo_6 (h0:=hqi) (h1:=hU) (ht:=hu)]
      exact loop_n ago n ws' _ _ _ _ _ (by simp at hlen; omega) (by omega) (fun x hx=>hwr x (by simp [hx])) (by simp [hmet]) (zer hm) (zer hd) (zer hu)
    ·rw [c_ltF hk,if_neg (fun h=>hk h.1)]
end
end Dv

set_option maxRecDepth 20000
namespace Dv
open Go
theorem z124 {w:List UInt8} {c:UInt8} {r:List UInt8} {ws:List (List UInt8)} (hw:w=c::r) (h1:c≠43) (h2:c≠45):zmy ((w::ws).map PV.str)=some (.bool false):=by
 have t0:rdI tiStr ((w::ws).map PV.str) 0=some (.str w):=rfl
 have n1:¬ ((c.toNat:Nat):Int)=43:=by
  intro e; apply h1
  have e:c.toNat=43:=by omega
  rw [← UInt8.ofNat_toNat (x:=c),e]; rfl
 have n2:¬ ((c.toNat:Nat):Int)=45:=by
  intro e; apply h2
  have e:c.toNat=45:=by omega
  rw [← UInt8.ofNat_toNat (x:=c),e]; rfl
 rw [z12i,zuk,c_ltT (by simp),t0]
 simp only [oB,z1j]
 rw [hw,atS_z (c:=c) rfl]
 simp only [oB]
 rw [c_not,c_eqF n1,c_not,c_eqF n2]
theorem make_v (m d u:Int) (h:spanR 0 m d u=true):zwc m d u=some (.tuple [.agg [.int .i64 0,.int .i64 m,.int .i64 d,.int .i64 u],.int .i64 0]):=by
 have hh:-2147483647≤m∧m≤2147483647∧-2147483647≤d∧d≤2147483647∧-9223372036854775807≤u∧u≤9223372036854775807:=by
  unfold spanR at h; rw [if_pos rfl] at h; exact of_decide_eq_true h
 rw [zsy,z12c (by omega) (by omega),h]; rfl
theorem neg_v (m d u:Int) (h:spanR 0 m d u=true):z120 0 m d u=some (.tuple [.agg [.int .i64 0,.int .i64 (-m),.int .i64 (-d),.int .i64 (-u)],.int .i64 0]):=by
 have hh:-2147483647≤m∧m≤2147483647∧-2147483647≤d∧d≤2147483647∧-9223372036854775807≤u∧u≤9223372036854775807:=by
  unfold spanR at h; rw [if_pos rfl] at h; exact of_decide_eq_true h
 rw [zwb,z12c (by omega) (by omega),h]
 simp only [oB,zv,Bool.not_true,cond_false]
 rw [w64 (n:=0-0) (by omega) (by omega),w64 (n:=0-m) (by omega) (by omega),w64 (n:=0-d) (by omega) (by omega),w64 (n:=0-u) (by omega) (by omega),show (0:Int)-m=-m by omega,show (0:Int)-d=-d by omega,show (0:Int)-u=-u by omega,show (0:Int)-0=0 by omega]
noncomputable def tab1:Tab:=[
 (zet,[.str [49,32,121,101,97,114,32,45,50,32,109,111,110,115,32,48,51,58,48,48,58,48,48,32,97,103,111]],.sl 1 [.str [49],.str [121,101,97,114],.str [45,50],.str [109,111,110,115],.str [48,51,58,48,48,58,48,48],.str [97,103,111]]),
 (zc2,[.sl 1 [.str [49],.str [121,101,97,114],.str [45,50],.str [109,111,110,115],.str [48,51,58,48,48,58,48,48],.str [97,103,111]]],.tuple [.agg [.int .i64 0,.int .i64 0],.bool false]),
 (z94,[.str [49]],.str [49]),
 (zc3,[.sl 1 [.str [49],.str [121,101,97,114],.str [45,50],.str [109,111,110,115],.str [48,51,58,48,48,58,48,48],.str [97,103,111]]],.bool false),
 (zkp,[.str [97,103,111],.str [97,103,111]],.bool true),
 (z85,[.str [49],.str [58]],.sl 1 [.str [49]]),
 (z85,[.str [45,50],.str [58]],.sl 1 [.str [45,50]]),
 (z85,[.str [48,51,58,48,48,58,48,48],.str [58]],.sl 1 [.str [48,51],.str [48,48],.str [48,48]]),
 (z1i,[.str [49],.str [45]],.tuple [.str [49],.bool false]),
 (z6k,[.str [49],.str [43]],.str [49]),
 (z26,[.str [49]],.tuple [.int .i64 (1),.int .i64 (0)]),
 (z4i,[.str [121,101,97,114]],.tuple [.agg [.int .i64 (0),.int .i64 (12),.int .i64 (0),.int .i64 (0)],.int .i64 (1)]),
 (z66,[.int .i64 (1),.int .i64 (12)],.tuple [.int .i64 (12),.int .i64 (0)]),
 (z7b,[.int .i64 (0),.int .i64 (12)],.tuple [.int .i64 (12),.int .i64 (0)]),
 (z66,[.int .i64 (1),.int .i64 (0)],.tuple [.int .i64 (0),.int .i64 (0)]),
 (z7b,[.int .i64 (0),.int .i64 (0)],.tuple [.int .i64 (0),.int .i64 (0)]),
 (z1i,[.str [45,50],.str [45]],.tuple [.str [50],.bool true]),
 (z26,[.str [50]],.tuple [.int .i64 (2),.int .i64 (0)]),
 (z4i,[.str [109,111,110,115]],.tuple [.agg [.int .i64 (0),.int .i64 (1),.int .i64 (0),.int .i64 (0)],.int .i64 (2)]),
 (z66,[.int .i64 (-2),.int .i64 (1)],.tuple [.int .i64 (-2),.int .i64 (0)]),
 (z7b,[.int .i64 (12),.int .i64 (-2)],.tuple [.int .i64 (10),.int .i64 (0)]),
 (z66,[.int .i64 (-2),.int .i64 (0)],.tuple [.int .i64 (0),.int .i64 (0)]),
 (z1i,[.str [48,51],.str [45]],.tuple [.str [48,51],.bool false]),
 (z6k,[.str [48,51],.str [43]],.str [48,51]),
 (z26,[.str [48,51]],.tuple [.int .i64 (3),.int .i64 (0)]),
 (z5a,[.str [48,48],.str [46]],.tuple [.str [48,48],.str [],.bool false]),
 (zgr,[.str [48,48],.int .i64 (2),.int .i64 (2)],.bool true),
 (zgq,[.str [48,48]],.int .i64 (0)),
 (z66,[.int .i64 (3),.int .i64 (3600000000)],.tuple [.int .i64 (10800000000),.int .i64 (0)]),
 (z7b,[.int .i64 (0),.int .i64 (10800000000)],.tuple [.int .i64 (10800000000),.int .i64 (0)]),
 (z66,[.int .i64 (0),.int .i64 (1)],.tuple [.int .i64 (0),.int .i64 (0)]),
 (z7b,[.int .i64 (10800000000),.int .i64 (0)],.tuple [.int .i64 (10800000000),.int .i64 (0)]),
 (zot,[.agg [.int .i64 (0),.int .i64 (10),.int .i64 (0),.int .i64 (10800000000)]],.tuple [.agg [.int .i64 (0),.int .i64 (-10),.int .i64 (0),.int .i64 (-10800000000)],.int .i64 (0)]),
 (zg6,[.int .i64 (-10),.int .i64 (0),.int .i64 (-10800000000)],.tuple [.agg [.int .i64 (0),.int .i64 (-10),.int .i64 (0),.int .i64 (-10800000000)],.int .i64 (0)])]
theorem tab1_ok:TabOk EE tab1:=⟨
 (zuu [49,32,121,101,97,114,32,45,50,32,109,111,110,115,32,48,51,58,48,48,58,48,48,32,97,103,111] (by decide)).trans (by kernel_rfl),
 (zlb [[49],[121,101,97,114],[45,50],[109,111,110,115],[48,51,58,48,48,58,48,48],[97,103,111]] (by decide)).trans (by kernel_rfl),
 (zso [49] (by decide)).trans (by kernel_rfl),
 z124 (w:=[49]) (ws:=[[121,101,97,114],[45,50],[109,111,110,115],[48,51,58,48,48,58,48,48],[97,103,111]]) rfl (by decide) (by decide),
 (z179 [97,103,111] [97,103,111] (by decide) (by decide)).trans (by kernel_rfl),
 (zwa [49] 58 (by decide)).trans (by kernel_rfl),
 (zwa [45,50] 58 (by decide)).trans (by kernel_rfl),
 (zwa [48,51,58,48,48,58,48,48] 58 (by decide)).trans (by kernel_rfl),
 (zqz [49] 45 (by decide)).trans (by kernel_rfl),
 (z11s [49] 43 (by decide)).trans (by kernel_rfl),
 (zjp [49] (by decide)).trans (by kernel_rfl),
 (z19f [121,101,97,114] (by decide)).trans (by kernel_rfl),
 (mul_s (a:=1) (b:=12) (by decide) (by decide)).trans (by kernel_rfl),
 (add_s (a:=0) (b:=12) (by decide) (by decide)).trans (by kernel_rfl),
 (mul_s (a:=1) (b:=0) (by decide) (by decide)).trans (by kernel_rfl),
 (add_s (a:=0) (b:=0) (by decide) (by decide)).trans (by kernel_rfl),
 (zqz [45,50] 45 (by decide)).trans (by kernel_rfl),
 (zjp [50] (by decide)).trans (by kernel_rfl),
 (z19f [109,111,110,115] (by decide)).trans (by kernel_rfl),
 (mul_s (a:=-2) (b:=1) (by decide) (by decide)).trans (by kernel_rfl),
 (add_s (a:=12) (b:=-2) (by decide) (by decide)).trans (by kernel_rfl),
 (mul_s (a:=-2) (b:=0) (by decide) (by decide)).trans (by kernel_rfl),
 (zqz [48,51] 45 (by decide)).trans (by kernel_rfl),
 (z11s [48,51] 43 (by decide)).trans (by kernel_rfl),
 (zjp [48,51] (by decide)).trans (by kernel_rfl),
 (cut_s [48,48] 46 (by decide)).trans (by kernel_rfl),
 (zbc [48,48] (by decide) (by decide) 2).trans (by kernel_rfl),
 (ze7 [48,48] (by decide)).trans (by kernel_rfl),
 (mul_s (a:=3) (b:=3600000000) (by decide) (by decide)).trans (by kernel_rfl),
 (add_s (a:=0) (b:=10800000000) (by decide) (by decide)).trans (by kernel_rfl),
 (mul_s (a:=0) (b:=1) (by decide) (by decide)).trans (by kernel_rfl),
 (add_s (a:=10800000000) (b:=0) (by decide) (by decide)).trans (by kernel_rfl),
 neg_v (10) (0) (10800000000) (by decide),
 make_v (-10) (0) (-10800000000) (by decide),trivial⟩
theorem span_t1:z8l [49,32,121,101,97,114,32,45,50,32,109,111,110,115,32,48,51,58,48,48,58,48,48,32,97,103,111]=some (.tuple [.agg [.int .i64 0,.int .i64 (-10),.int .i64 (0),.int .i64 (-10800000000)],.int .i64 0]) :=
 z19q tab1_ok (n:=6000) rfl (by kernel_rfl)
noncomputable def tab2:Tab:=[
 (zet,[.str [80,49,89,50,77,51,68,84,52,72]],.sl 1 [.str [80,49,89,50,77,51,68,84,52,72]]),
 (zc2,[.sl 1 [.str [80,49,89,50,77,51,68,84,52,72]]],.tuple [.agg [.int .i64 0,.int .i64 0],.bool false]),
 (z94,[.str [80,49,89,50,77,51,68,84,52,72]],.str [112,49,121,50,109,51,100,116,52,104]),
 (z5a,[.str [49,121,50,109,51,100,116,52,104],.str [116]],.tuple [.str [49,121,50,109,51,100],.str [52,104],.bool true]),
 (z5a,[.str [121,109,119,100],.str [121]],.tuple [.str [],.str [109,119,100],.bool true]),
 (z1i,[.str [49],.str [45]],.tuple [.str [49],.bool false]),
 (z26,[.str [49]],.tuple [.int .i64 (1),.int .i64 (0)]),
 (z66,[.int .i64 (1),.int .i64 (12)],.tuple [.int .i64 (12),.int .i64 (0)]),
 (z7b,[.int .i64 (0),.int .i64 (12)],.tuple [.int .i64 (12),.int .i64 (0)]),
 (z5a,[.str [109,119,100],.str [109]],.tuple [.str [],.str [119,100],.bool true]),
 (z1i,[.str [50],.str [45]],.tuple [.str [50],.bool false]),
 (z26,[.str [50]],.tuple [.int .i64 (2),.int .i64 (0)]),
 (z66,[.int .i64 (2),.int .i64 (1)],.tuple [.int .i64 (2),.int .i64 (0)]),
 (z7b,[.int .i64 (12),.int .i64 (2)],.tuple [.int .i64 (14),.int .i64 (0)]),
 (z5a,[.str [119,100],.str [100]],.tuple [.str [119],.str [],.bool true]),
 (z1i,[.str [51],.str [45]],.tuple [.str [51],.bool false]),
 (z26,[.str [51]],.tuple [.int .i64 (3),.int .i64 (0)]),
 (z66,[.int .i64 (3),.int .i64 (1)],.tuple [.int .i64 (3),.int .i64 (0)]),
 (z7b,[.int .i64 (0),.int .i64 (3)],.tuple [.int .i64 (3),.int .i64 (0)]),
 (z5a,[.str [104,109,115],.str [104]],.tuple [.str [],.str [109,115],.bool true]),
 (z1i,[.str [52],.str [45]],.tuple [.str [52],.bool false]),
 (z26,[.str [52]],.tuple [.int .i64 (4),.int .i64 (0)]),
 (z66,[.int .i64 (4),.int .i64 (3600000000)],.tuple [.int .i64 (14400000000),.int .i64 (0)]),
 (z7b,[.int .i64 (0),.int .i64 (14400000000)],.tuple [.int .i64 (14400000000),.int .i64 (0)]),
 (zg6,[.int .i64 (14),.int .i64 (3),.int .i64 (14400000000)],.tuple [.agg [.int .i64 (0),.int .i64 (14),.int .i64 (3),.int .i64 (14400000000)],.int .i64 (0)])]
theorem tab2_ok:TabOk EE tab2:=⟨
 (zuu [80,49,89,50,77,51,68,84,52,72] (by decide)).trans (by kernel_rfl),
 (zlb [[80,49,89,50,77,51,68,84,52,72]] (by decide)).trans (by kernel_rfl),
 (zso [80,49,89,50,77,51,68,84,52,72] (by decide)).trans (by kernel_rfl),
 (cut_s [49,121,50,109,51,100,116,52,104] 116 (by decide)).trans (by kernel_rfl),
 (cut_s [121,109,119,100] 121 (by decide)).trans (by kernel_rfl),
 (zqz [49] 45 (by decide)).trans (by kernel_rfl),
 (zjp [49] (by decide)).trans (by kernel_rfl),
 (mul_s (a:=1) (b:=12) (by decide) (by decide)).trans (by kernel_rfl),
 (add_s (a:=0) (b:=12) (by decide) (by decide)).trans (by kernel_rfl),
 (cut_s [109,119,100] 109 (by decide)).trans (by kernel_rfl),
 (zqz [50] 45 (by decide)).trans (by kernel_rfl),
 (zjp [50] (by decide)).trans (by kernel_rfl),
 (mul_s (a:=2) (b:=1) (by decide) (by decide)).trans (by kernel_rfl),
 (add_s (a:=12) (b:=2) (by decide) (by decide)).trans (by kernel_rfl),
 (cut_s [119,100] 100 (by decide)).trans (by kernel_rfl),
 (zqz [51] 45 (by decide)).trans (by kernel_rfl),
 (zjp [51] (by decide)).trans (by kernel_rfl),
 (mul_s (a:=3) (b:=1) (by decide) (by decide)).trans (by kernel_rfl),
 (add_s (a:=0) (b:=3) (by decide) (by decide)).trans (by kernel_rfl),
 (cut_s [104,109,115] 104 (by decide)).trans (by kernel_rfl),
 (zqz [52] 45 (by decide)).trans (by kernel_rfl),
 (zjp [52] (by decide)).trans (by kernel_rfl),
 (mul_s (a:=4) (b:=3600000000) (by decide) (by decide)).trans (by kernel_rfl),
 (add_s (a:=0) (b:=14400000000) (by decide) (by decide)).trans (by kernel_rfl),
 make_v (14) (3) (14400000000) (by decide),trivial⟩
theorem span_t2:z8l [80,49,89,50,77,51,68,84,52,72]=some (.tuple [.agg [.int .i64 0,.int .i64 (14),.int .i64 (3),.int .i64 (14400000000)],.int .i64 0]) :=
 z19q tab2_ok (n:=6000) rfl (by kernel_rfl)
theorem z160:z7v=some (.bool true):=by
 have d1:dateP [50,48,50,52,45,48,51,45,51,49] 2=(0,8856,0):=by decide +kernel
 have d2:dateP [51,47,51,49,47,50,48,50,52] 2=(0,8856,0):=by decide +kernel
 have d3:dateP [51,49,32,109,97,114,32,50,48,50,52] 2=(0,8856,0):=by decide +kernel
 have d4:dateP [50,48,50,52,48,51,51,49] 2=(0,8856,0):=by decide +kernel
 have d5:dateP [48,48,52,52,45,48,51,45,49,53,32,66,67] 2=(0,-746117,0):=by decide +kernel
 have m1:dayO 2024 3 31=(8856,0):=by decide +kernel
 have m2:dayO (-43) 3 15=(-746117,0):=by decide +kernel
 have s1:=span_t1
 have s2:=span_t2
 rw [zjk,(make_p 2024 3 31).2,(z16d _ _ _ _).1,(z16d _ _ _ _).1,(z16d _ _ _ _).1,(z16d _ _ _ _).1,(z16d _ _ _ _).1,(make_p (-43) 3 15).2,d1,d2,d3,d4,d5,m1,m2,s1,s2]
 rfl
end Dv

set_option maxRecDepth 20000
namespace Dv
open Go
def noMet:List Bool:=[false,false,false,false,false,false,false,false]
def agoB (ws:List (List UInt8)):Bool:=decide (1<ws.length)&&sameB ws.getLast! [97,103,111]
def z109 (ws:List (List UInt8)):PV :=
 if (if agoB ws=true then ws.dropLast else ws)=[] then failV
 else match zkk ((if agoB ws=true then ws.dropLast else ws).length+1) (if agoB ws=true then ws.dropLast else ws) noMet (0,0,0,false) with
 | none=>failV
 | some st=>sumV (bif agoB ws then agoF st else st)
theorem last_rd {ws:List (List UInt8)} (h:ws≠[]) (hl:ws.length≤1000000):rdI tiStr (ws.map PV.str) (IntKind.i64.wrap ((((ws.map PV.str).length:Nat):Int)-1))=some (.str ws.getLast!) ∧
  takeS (ws.map PV.str) (IntKind.i64.wrap ((((ws.map PV.str).length:Nat):Int)-1))=some (ws.dropLast.map PV.str):=by
 have hp:1≤ws.length:=by cases ws with | nil=>exact absurd rfl h | cons a r=>simp
 have hw:IntKind.i64.wrap ((((ws.map PV.str).length:Nat):Int)-1)=((ws.length-1:Nat):Int):=by rw [List.length_map,w64 (by omega) (by omega)]; omega
 rw [hw]
 constructor
 ·unfold rdI rdT
  rw [decide_eq_true (by omega),cond_true,Int.toNat_natCast,List.getElem?_map,List.getElem?_eq_getElem (by omega)]
  have:ws.getLast!=ws[ws.length-1]:=by rw [List.getLast!_eq_getLast?_getD,List.getLast?_eq_getElem?,List.getElem?_eq_getElem (by omega)]; rfl
  rw [this]; rfl
 ·rw [zi2 (by simp),List.dropLast_eq_take,List.map_take]
theorem named_s (ws:List (List UInt8)) (c5 c6 c7 c8:Int) (hl:ws.length≤100000) (hw:∀ w∈ws,w.length≤100000):zia (ws.map PV.str) c5 c6 c7 c8=some (z109 ws):=by
 rw [zul,ze9,zbz]
 have z:In64 0:=⟨by omega,by omega⟩
 have tail:∀ (ago:Bool) (l:List (List UInt8)),l.length≤100000→(∀ w∈l,w.length≤100000)→z2k ago 0 0 0 0 false (l.map PV.str) 0 0 0 0 0 c5 c6 c7 c8 (ws.map PV.str) =
   some (if l=[] then failV else match zkk (l.length+1) l noMet (0,0,0,false) with | none=>failV | some st=>sumV (bif ago then agoF st else st)):=by
  intro ago l hl hw
  rw [zby]
  by_cases h:l=[]
  ·subst h; rfl
  ·have:1≤l.length:=by cases l with | nil=>exact absurd rfl h | cons a r=>simp
   rw [c_not,c_ltT (by simp; omega),if_neg h,zbx]
   exact loop_n c5 c6 c7 c8 (ws.map PV.str) ago (l.length+1) l noMet 0 0 0 false (Nat.lt_succ_self _) (by omega) hw rfl z z z
 unfold z109 agoB
 by_cases h1:1<ws.length
 ·have hne:ws≠[]:=by intro e; subst e; simp at h1
  obtain ⟨r1,r2⟩:=last_rd hne (by omega)
  have hlast:(ws.getLast!).length≤100000:=hw _ (by rw [List.getLast!_eq_getLast?_getD,List.getLast?_eq_some_getLast hne]; simp)
  rw [c_ltT (by simp; omega),r1]
  simp only [oB,z1j]
  rw [z179 _ _ (by show _≤70368744177664; omega) (by decide)]
  simp only [oB,zv]
  rw [z6j,decide_eq_true h1,Bool.true_and]
  cases hs:sameB ws.getLast! [97,103,111] with
  | true =>
   simp only [cond_true,if_true]
   rw [r2]
   simp only [oB]
   exact tail true ws.dropLast (by simp; omega) (fun w h=>hw w (List.dropLast_subset _ h))
  | false =>
   simp only [cond_false,Bool.false_eq_true,if_false]
   exact tail false ws hl hw
 ·rw [c_ltF (by simp; omega),z6j,decide_eq_false h1,Bool.false_and]
  simp only [cond_false,Bool.false_eq_true,if_false]
  exact tail false ws hl hw
theorem span_c7 (s:List UInt8) (hs:s.length≤2048) (h0:z1x s≠[]) (h1:spcI (z1x s)≠1∧spcI (z1x s)≠-1) (h2:spcI (z1x s)=0∨spcI (z1x s)=2):z8l s=zg2 ((z1x s).map PV.str) 0 0 0 0:=by
 have hw:=z119 (s:=s) (by show s.length≤10000000000; omega)
 have hne:((z1x s).map PV.str).length≠0:=by simpa using h0
 rw [z15b,zww,zuu s (by show s.length≤10000000000; omega)]
 simp only [oB,PV.toL]
 rw [zwv,zlb _ hw]
 simp only [oB]
 rw [zwu,c_ltF (by omega),c_eqF (by omega),zwt]
 unfold spcV
 rcases h2 with h | h <;> rw [h] <;> rfl
theorem zzx (s:List UInt8) (hs:s.length≤2048) (h2:spcI (z1x s)=0∨spcI (z1x s)=2) {w:List UInt8} {c:UInt8} {r:List UInt8} {ws:List (List UInt8)} (hw:z1x s=w::ws) (hc:lowS w=c::r) (hp:ws≠[]∨c≠112)
  (hsg:zmy ((z1x s).map PV.str)=some (.bool false)):z8l s=some (z109 (z1x s)):=by
 have hlw:=z119 (s:=s) (by show s.length≤10000000000; omega)
 have hll:(z1x s).length≤s.length+1:=by unfold z1x; exact zlc s []
 have hlen:∀ x∈z1x s,x.length≤100000:=fun x hx=>by
  have:=zjm s [] s.length (by simp) x hx
  omega
 rw [span_c7 s hs (by rw [hw]; simp) (by rcases h2 with h | h <;> rw [h] <;> decide) h2,zws]
 have t0:rdI tiStr ((z1x s).map PV.str) 0=some (.str w):=by rw [hw]; rfl
 have hwl:w.length≤100000:=hlen w (by rw [hw]; simp)
 rw [t0]
 simp only [oB,z1j]
 rw [zso w (by show _≤70368744177664; omega)]
 simp only [oB,z1j]
 have h10:zep ((z1x s).map PV.str) 0 0 0 0=some (z109 (z1x s)):=by
  rw [zum,hsg]
  simp only [oB,zv,cond_false]
  exact named_s _ 0 0 0 0 (by omega) hlen
 rw [zwr]
 by_cases h1:(((((z1x s).map PV.str)).length:Nat):Int)=1
 ·rw [c_eqT h1,hc,atS_z (c:=c) rfl]
  simp only [oB]
  have hws:ws=[]:=by
   rw [hw] at h1; simp at h1
   exact List.eq_nil_of_length_eq_zero (by omega)
  have hne:c≠112:=hp.resolve_left (fun h=>h hws)
  rw [c_eqF (by
   intro e
   apply hne
   have e:c.toNat=112:=by omega
   rw [← UInt8.ofNat_toNat (x:=c),e]; rfl)]
  exact h10
 ·rw [c_eqF h1]; exact h10
end Dv

namespace Dv
open Go
theorem bl_no {c:UInt8} (h:33≤c.toNat):blB c=false:=decide_eq_false (by omega)
theorem z14a {s:List UInt8} (hne:s≠[]) (h:∀ c∈s,blB c=false):z1x s=[s]:=by
 have:=zac s [] [] h
 rw [List.append_nil,List.nil_append] at this
 unfold z1x
 rw [this,z4x,if_neg hne]
theorem z8j {s t:List UInt8} (hne:s≠[]) (h:∀ c∈s,blB c=false):z1x (s++32::t)=s::z1x t:=by
 have:=zac s [] (32::t) h
 rw [List.nil_append] at this
 unfold z1x
 rw [this,zdg (by decide),if_neg hne]
theorem z14y {g:UInt8}:∀ {a:List UInt8},g∉a→splitB g a=[a]
 | [],_=>rfl
 | c::a,h=>by
  rw [splitB,if_neg (by intro e; subst e; simp at h),z14y (by intro e; exact h (List.mem_cons_of_mem _ e))]
theorem not_dig {g:UInt8} {a:List UInt8} (ha:a.all digB=true) (hg:digB g=false):g∉a:=by
 intro h
 rw [List.all_eq_true] at ha
 rw [ha g h] at hg; cases hg
def okC (c:UInt8):Prop:=digB c=true∨c=45∨c=47∨c=58∨c=46
def bcN (y:Int):List UInt8:=if y<1 then [32,66,67] else []
def absY (y:Int):Int:=if y<1 then 1-y else y
end Dv

set_option maxRecDepth 20000
namespace Dv
open Go
def decD:Nat→Nat→List UInt8→List UInt8
 | 0,_,acc=>acc
 | f+1,k,acc=>if 9<k then decD f (k / 10) (UInt8.ofNat (48+k % 10)::acc) else UInt8.ofNat (48+k)::acc
theorem dg_of {d:Nat} (h:d≤9):digB (UInt8.ofNat (48+d))=true∧(UInt8.ofNat (48+d)).toNat=48+d:=by
 have:(UInt8.ofNat (48+d)).toNat=48+d:=by rw [UInt8.toNat_ofNat']; omega
 exact ⟨(zab _).2 (by omega),this⟩
theorem dec_loop:∀ (f k:Nat) (acc:List UInt8),k<10 ^ (f+1)→(k:Int)≤9223372036854775807→acc.length+f≤100→z3g (k:Int) acc=some (.str (decD (f+1) k acc)):=by
 have last:∀ (f k:Nat) (acc:List UInt8),¬ 9<k→acc.length≤100→z3g (k:Int) acc=some (.str (decD (f+1) k acc)):=by
  intro f k acc h9 ha
  rw [z9a]
  unfold decD
  rw [c_ltF (by omega),if_neg h9,w64 (n:=48+(k:Int)) (by omega) (by omega),wu8 (by omega) (by omega),show (48:Int)+(k:Int)=((48+k:Nat):Int) by omega,Int.toNat_natCast,zfh (by simp; omega)]
  rfl
 intro f
 induction f with
 | zero =>
  intro k acc h hk ha
  exact last 0 k acc (by simp at h; omega) (by omega)
 | succ f ih =>
  intro k acc h hk ha
  by_cases h9:9<k
  ·have q1:Int.tmod ((k:Nat):Int) 10=((k % 10:Nat):Int):=tmodN k 10
   have q2:Int.tdiv ((k:Nat):Int) 10=((k / 10:Nat):Int):=tdivN k 10
   rw [z9a]
   conv=>rhs; unfold decD
   rw [c_ltT (by omega),if_pos h9,q1,q2,w64 (n:=48+((k % 10:Nat):Int)) (by omega) (by omega),wu8 (by omega) (by omega),show (48:Int)+((k % 10:Nat):Int)=((48+k % 10:Nat):Int) by omega,Int.toNat_natCast,zfh (by simp; omega)]
   simp only [oB]
   rw [w64 (by omega) (by omega)]
   exact ih (k / 10) _ (by rw [Nat.pow_succ] at h; omega) (by omega) (by simp; omega)
  ·exact last (f+1) k acc h9 (by omega)
theorem dec_all:∀ (f k:Nat) (acc:List UInt8),acc.all digB=true→(decD f k acc).all digB=true
 | 0,k,acc,h=>h
 | f+1,k,acc,h=>by
  unfold decD
  split
  ·exact dec_all f _ _ (by rw [List.all_cons,(dg_of (by omega)).1,h]; rfl)
  ·rw [List.all_cons,(dg_of (by omega)).1,h]; rfl
theorem dec_val:∀ (f k:Nat) (acc:List UInt8),k<10 ^ f→0<f→valD 0 (decD f k acc)=valD (k:Int) acc
 | f+1,k,acc,h,_=>by
  unfold decD
  split
  ·rename_i h9
   have hf:0<f:=by
    rcases Nat.eq_zero_or_pos f with h0 | h0
    ·subst h0; simp at h; omega
    ·exact h0
   rw [dec_val f _ _ (by rw [Nat.pow_succ] at h; omega) hf]
   simp only [valD,dgt]
   rw [(dg_of (by omega)).2]
   congr 1; omega
  ·simp only [valD,dgt]
   rw [(dg_of (by omega)).2]
   congr 1; omega
theorem dec_len:∀ (f k:Nat) (acc:List UInt8),(decD f k acc).length≤acc.length+f∧(0<f→acc.length+1≤(decD f k acc).length)
 | 0,k,acc=>⟨Nat.le_refl _,fun h=>by omega⟩
 | f+1,k,acc=>by
  unfold decD
  split
  ·have:=dec_len f (k / 10) (UInt8.ofNat (48+k % 10)::acc)
   simp at this ⊢
   refine ⟨by omega,?_⟩
   rcases Nat.eq_zero_or_pos f with h0 | h0
   ·subst h0; unfold decD; simp
   ·have:=this.2 h0; omega
  ·simp
theorem valD_ge:∀ (s:List UInt8) (n:Int),0≤n→s.all digB=true→n≤valD n s
 | [],n,_,_=>Int.le_refl _
 | c::r,n,h,ha=>by
  rw [List.all_cons,Bool.and_eq_true] at ha
  have hd:=(zab c).1 ha.1
  simp only [valD]
  have:=valD_ge r (10*n+dgt c) (by unfold dgt; omega) ha.2
  unfold dgt at this ⊢
  omega
theorem z1aa:∀ (s:List UInt8) (n:Int),0≤n→s.all digB=true→valD n s≤9223372036854775807→numG s n false=.tuple [.int .i64 (valD n s),.int .i64 0]
 | [],n,_,_,_=>rfl
 | c::r,n,h,ha,hv=>by
  rw [List.all_cons,Bool.and_eq_true] at ha
  have hd:=(zab c).1 ha.1
  simp only [valD] at hv ⊢
  have hge:=valD_ge r (10*n+dgt c) (by unfold dgt; omega) ha.2
  rw [numG,ha.1,cond_true,cond_false,show 10*n+((c.toNat:Int)-48)=10*n+dgt c from rfl,c_leT (by omega)]
  exact z1aa r _ (by unfold dgt; omega) ha.2 hv
def decN (k:Nat):List UInt8:=decD 20 k []
theorem zj4 {k:Nat} (h:(k:Int)≤9223372036854775807):(decN k).all digB=true∧(decN k)≠[]∧(decN k).length≤20∧numV (decN k)=.tuple [.int .i64 (k:Int),.int .i64 0]:=by
 have ha:=dec_all 20 k [] rfl
 have hl:=dec_len 20 k []
 have hv:=dec_val 20 k [] (by omega) (by omega)
 have h1:=hl.2 (by omega)
 simp only [List.length_nil,Nat.zero_add] at hl h1
 have hne:decN k≠[]:=by intro e; unfold decN at e; rw [e] at h1; simp at h1
 refine ⟨ha,hne,hl.1,?_⟩
 unfold numV eqS
 rw [decide_eq_false hne,cond_false]
 have hv':valD 0 (decN k)=(k:Int):=hv
 have ha':(decN k).all digB=true:=ha
 rw [z1aa _ 0 (Int.le_refl _) ha' (by rw [hv']; exact h),hv']
def natO (n:Int):Nat:=if n<0 then (-(n+1)).toNat else n.toNat
theorem z12r {n:Int} (h:In64 n):((natO n:Nat):Int)≤9223372036854775807:=by
 obtain ⟨h1,h2⟩:=h
 unfold natO; split <;> omega
theorem zsd {n:Int} (h:In64 n):z52 n=some (.str (decN (natO n))):=by
 have hb:=z12r h
 obtain ⟨h1,h2⟩:=h
 have hp:natO n<10 ^ 20:=by omega
 rw [zir]
 have key:=dec_loop 19 (natO n) [] hp hb (by simp)
 unfold natO at key hb ⊢
 by_cases hn:n<0
 ·rw [if_pos hn] at key hb ⊢
  rw [c_ltT hn,w64 (n:=n+1) (by omega) (by omega),w64 (by omega) (by omega),z9b,show 0-(n+1)=(((-(n+1)).toNat:Nat):Int) by omega]
  exact key
 ·rw [if_neg hn] at key hb ⊢
  rw [c_ltF hn,z9b]
  have e:((n.toNat:Nat):Int)=n:=by omega
  rw [e] at key
  exact key
abbrev zno:List UInt8:=[121,101,97,114,115]
abbrev daysB:List UInt8:=[100,97,121,115]
abbrev secsB:List UInt8:=[115,101,99,111,110,100,115]
abbrev agoT:List UInt8:=[97,103,111]
theorem zhh {s:List UInt8} (h:s.all digB=true):∀ c∈s,blB c=false:=fun c hc=>bl_no (by have:=(zab c).1 (List.all_eq_true.1 h c hc); omega)
theorem dig_split {s:List UInt8} (h:s.all digB=true):splitB 58 s=[s]:=z14y (not_dig h (by decide))
theorem pre_dig {s:List UInt8} (h:s.all digB=true) {c:UInt8} (hc:digB c=false):preB c s=false:=by
 cases s with
 | nil=>rfl
 | cons d r =>
  rw [List.all_cons,Bool.and_eq_true] at h
  unfold preB
  have:d≠c:=by intro e; subst e; rw [h.1] at hc; cases hc
  simpa using this
theorem z17x {k:Nat} (h:(k:Int)≤9223372036854775807):sgn (decN k) true=some ((k:Int),false):=by
 obtain ⟨h1,h2,h3,h4⟩:=zj4 h
 have p1:=pre_dig h1 (c:=45) (by decide)
 have p2:=pre_dig h1 (c:=43) (by decide)
 unfold sgn
 have e:preT 43 (decN k)=decN k:=by unfold preT; rw [p2]; rfl
 rw [p1,e]
 simp only [Bool.not_false,Bool.and_self,cond_true]
 unfold sgT numE numN
 rw [h4]
 rfl
theorem z11v {k:Nat} (h:(k:Int)≤9223372036854775807) (u:Int) (ov:Bool):timeF (decN k) u ov=some none:=by
 obtain ⟨h1,_⟩:=zj4 h
 unfold timeF
 rw [dig_split h1]
def yF (a:Nat):Int×Bool:=moreF 0 (a:Int) 12 false
def sF (a c:Nat):Int×Bool:=moreF 0 (c:Int) 1000000 (yF a).2
theorem more0 (t n:Int) (ov:Bool) (h:In64 t):moreF t n 0 ov=(t,ov):=by
 unfold moreF
 rw [Int.mul_zero,Int.add_zero,if_pos ⟨⟨by omega,by omega⟩,h⟩]
theorem named_dec {a b c:Nat} (ha:(a:Int)≤9223372036854775807) (hb:(b:Int)≤9223372036854775807) (hc:(c:Int)≤9223372036854775807) :
  zkk 7 [decN a,zno,decN b,daysB,decN c,secsB] noMet (0,0,0,false)=some ((yF a).1,(b:Int),(sF a c).1,(sF a c).2):=by
 have uy:unitT (lowS zno)=(12,0,0,1):=by decide
 have ud:unitT (lowS daysB)=(0,1,0,4):=by decide
 have us:unitT (lowS secsB)=(0,0,1000000,7):=by decide
 have z:In64 0:=⟨by omega,by omega⟩
 have hy:In64 (yF a).1:=zer z
 have hb1:∀ ov,moreF 0 (b:Int) 1 ov=((b:Int),ov):=by
  intro ov; unfold moreF; rw [Int.mul_one,Int.zero_add,if_pos ⟨⟨by omega,hb⟩,⟨by omega,hb⟩⟩]
 have hbi:In64 (b:Int):=⟨by omega,hb⟩
 rw [zkk,z11v ha]
 simp only
 rw [z17x ha]
 simp only [uy,Bool.or_false]
 rw [if_pos ⟨by omega,rfl⟩,more0 _ _ _ z,more0 _ _ _ z]
 rw [show (noMet.set (Int.toNat 1) true)=[false,true,false,false,false,false,false,false] from rfl]
 rw [show moreF 0 (a:Int) 12 false=yF a from rfl]
 rw [zkk,z11v hb]
 simp only
 rw [z17x hb]
 simp only [ud,Bool.or_false]
 rw [if_pos ⟨by omega,rfl⟩,more0 _ _ _ hy,hb1,more0 _ _ _ z]
 rw [show (([false,true,false,false,false,false,false,false]:List Bool).set (Int.toNat 4) true)=[false,true,false,false,true,false,false,false] from rfl]
 rw [zkk,z11v hc]
 simp only
 rw [z17x hc]
 simp only [us,Bool.or_false]
 rw [if_pos ⟨by omega,rfl⟩,more0 _ _ _ hy,more0 _ _ _ hbi]
 rfl
def zdd (a b c:Nat):List UInt8:=decN a++32::(zno++32::(decN b++32::(daysB++32::(decN c++32::secsB))))
theorem ago_words {a b c:Nat} (ha:(a:Int)≤9223372036854775807) (hb:(b:Int)≤9223372036854775807) (hc:(c:Int)≤9223372036854775807) :
  z1x (zdd a b c)=[decN a,zno,decN b,daysB,decN c,secsB]∧z1x (zdd a b c++32::agoT)=[decN a,zno,decN b,daysB,decN c,secsB,agoT]:=by
 obtain ⟨a1,a2,_⟩:=zj4 ha
 obtain ⟨b1,b2,_⟩:=zj4 hb
 obtain ⟨c1,c2,_⟩:=zj4 hc
 constructor
 ·unfold zdd
  rw [z8j a2 (zhh a1),z8j (by simp) (by decide),z8j b2 (zhh b1),z8j (by simp) (by decide),z8j c2 (zhh c1),z14a (by simp) (by decide)]
 ·have e:zdd a b c++32::agoT=decN a++32::(zno++32::(decN b++32::(daysB++32::(decN c++32::(secsB++32::agoT))))):=by unfold zdd; simp
  rw [e]
  rw [z8j a2 (zhh a1),z8j (by simp) (by decide),z8j b2 (zhh b1),z8j (by simp) (by decide),z8j c2 (zhh c1),z8j (by simp) (by decide),z14a (by simp) (by decide)]
theorem ago_len {a b c:Nat} (ha:(a:Int)≤9223372036854775807) (hb:(b:Int)≤9223372036854775807) (hc:(c:Int)≤9223372036854775807):(zdd a b c).length≤100:=by
 have h1:=(zj4 ha).2.2.1
 have h2:=(zj4 hb).2.2.1
 have h3:=(zj4 hc).2.2.1
 unfold zdd
 simp; omega
theorem span_dec {a b c:Nat} (ha:(a:Int)≤9223372036854775807) (hb:(b:Int)≤9223372036854775807) (hc:(c:Int)≤9223372036854775807) :
  z8l (zdd a b c)=some (sumV ((yF a).1,(b:Int),(sF a c).1,(sF a c).2))∧z8l (zdd a b c++32::agoT)=some (sumV (agoF ((yF a).1,(b:Int),(sF a c).1,(sF a c).2))):=by
 obtain ⟨w1,w2⟩:=ago_words ha hb hc
 have hl:=ago_len ha hb hc
 obtain ⟨a1,a2,_⟩:=zj4 ha
 obtain ⟨x,r,hx⟩:∃ x r,decN a=x::r:=by cases h:decN a with | nil=>exact absurd h a2 | cons x r=>exact ⟨x,r,rfl⟩
 have hxd:digB x=true:=by rw [hx,List.all_cons,Bool.and_eq_true] at a1; exact a1.1
 have hx1:=(zab x).1 hxd
 have hlow:lowS (decN a)=lowB x::lowS r:=by rw [hx]; rfl
 have hne:∀ c:UInt8,digB c=false→x≠c:=fun c hc e=>by subst e; rw [hxd] at hc; cases hc
 have hn:=named_dec ha hb hc
 constructor
 ·rw [zzx (zdd a b c) (by omega) (.inl (by rw [w1]; rfl)) w1 hlow (.inl (by simp)) (by rw [w1]; exact z124 hx (hne 43 (by decide)) (hne 45 (by decide))),w1]
  have hag:agoB [decN a,zno,decN b,daysB,decN c,secsB]=false:=by
   unfold agoB
   rw [show ([decN a,zno,decN b,daysB,decN c,secsB]:List (List UInt8)).getLast!=secsB from rfl]
   rfl
  unfold z109
  rw [hag]
  simp only [Bool.false_eq_true,if_false,cond_false]
  rw [if_neg (by simp)]
  show some (match zkk 7 _ noMet (0,0,0,false) with | none=>failV | some st=>sumV st)=_
  rw [hn]
 ·rw [zzx (zdd a b c++32::agoT) (by simp; omega) (.inl (by rw [w2]; rfl)) w2 hlow (.inl (by simp)) (by rw [w2]; exact z124 hx (hne 43 (by decide)) (hne 45 (by decide))),w2]
  have hag:agoB [decN a,zno,decN b,daysB,decN c,secsB,agoT]=true:=by
   unfold agoB
   rw [show ([decN a,zno,decN b,daysB,decN c,secsB,agoT]:List (List UInt8)).getLast!=agoT from rfl]
   rfl
  unfold z109
  rw [hag]
  simp only [if_true,cond_true,List.dropLast]
  rw [if_neg (by simp)]
  show some (match zkk 7 _ noMet (0,0,0,false) with | none=>failV | some st=>sumV (agoF st))=_
  rw [hn]
theorem readAgo_s {n m u:Int} (hn:In64 n) (hm:In64 m) (hu:In64 u):ze4 n m u=some (.bool true):=by
 have ha:=z12r hn
 have hb:=z12r hm
 have hc:=z12r hu
 have l1:=(zj4 ha).2.2.1
 have l2:=(zj4 hb).2.2.1
 have l3:=(zj4 hc).2.2.1
 obtain ⟨s1,s2⟩:=span_dec ha hb hc
 have z:In64 0:=⟨by omega,by omega⟩
 have hy:In64 (yF (natO n)).1:=zer z
 have hs:In64 (sF (natO n) (natO u)).1:=zer z
 rw [zht,zsd hn,zsd hm,zsd hu]
 simp only [oB,z1j]
 rw [zfh (by simp; omega)]
 simp only [oB]
 rw [zfh (by simp; omega)]
 simp only [oB]
 rw [zfh (by simp; omega)]
 simp only [oB]
 rw [zfh (by simp; omega)]
 simp only [oB]
 rw [zfh (by simp; omega)]
 simp only [oB]
 have e:(decN (natO n)++[32,121,101,97,114,115,32]++decN (natO m)++[32,100,97,121,115,32]++decN (natO u)++[32,115,101,99,111,110,100,115]:List UInt8)=zdd (natO n) (natO m) (natO u):=by
  unfold zdd; simp
 rw [e,s1]
 simp only [oB]
 have hl:=ago_len ha hb hc
 rw [zfh (by simp; omega)]
 simp only [oB]
 rw [s2]
 simp only [oB]
 generalize (yF (natO n)).1=M at hy
 generalize hsF:sF (natO n) (natO u)=S at hs
 obtain ⟨U,ov⟩:=S
 simp only at hs ⊢
 generalize hD:((natO m:Nat):Int)=D at hb
 have k5:z4u 10 10=some (.bool true):=by rw [zff,z160]; rfl
 cases ov with
 | true =>
  have e1:sumV (M,D,U,true)=.tuple [.agg [.int .i64 0,.int .i64 0,.int .i64 0,.int .i64 0],.int .i64 10]:=rfl
  have e2:sumV (agoF (M,D,U,true))=.tuple [.agg [.int .i64 0,.int .i64 0,.int .i64 0,.int .i64 0],.int .i64 10]:=by
   unfold agoF sumV; cases spanR 0 M D U <;> rfl
  rw [e1,e2]
  exact k5
 | false =>
  cases hr:spanR 0 M D U with
  | false =>
   have e1:sumV (M,D,U,false)=.tuple [.agg [.int .i64 0,.int .i64 0,.int .i64 0,.int .i64 0],.int .i64 10]:=by
    unfold sumV; simp only [Bool.false_eq_true,if_false,hr]
   have e2:sumV (agoF (M,D,U,false))=.tuple [.agg [.int .i64 0,.int .i64 0,.int .i64 0,.int .i64 0],.int .i64 10]:=by
    unfold agoF; simp only [hr,Bool.false_eq_true,if_false]; rfl
   rw [e1,e2]
   exact k5
  | true =>
   have hh:-2147483647≤M∧M≤2147483647∧-2147483647≤D∧D≤2147483647∧-9223372036854775807≤U∧U≤9223372036854775807:=by
    unfold spanR at hr; rw [if_pos rfl] at hr; exact of_decide_eq_true hr
   have hr2:spanR 0 (-M) (-D) (-U)=true:=by
    unfold spanR; rw [if_pos rfl]; exact decide_eq_true (by omega)
   have e1:sumV (M,D,U,false)=.tuple [.agg [.int .i64 0,.int .i64 M,.int .i64 D,.int .i64 U],.int .i64 0]:=by
    unfold sumV; simp only [Bool.false_eq_true,if_false,hr,if_true]
   have e2:sumV (agoF (M,D,U,false))=.tuple [.agg [.int .i64 0,.int .i64 (-M),.int .i64 (-D),.int .i64 (-U)],.int .i64 0]:=by
    unfold agoF; simp only [hr,if_true]
    unfold sumV; simp only [Bool.false_eq_true,if_false,hr2,if_true]
   rw [e1,e2]
   show z7e 0 M D U 0 (-M) (-D) (-U)=_
   rw [zfe,w64 (n:=0-M) (by omega) (by omega),w64 (n:=0-D) (by omega) (by omega),w64 (n:=0-U) (by omega) (by omega),show (0:Int)-M=-M by omega,show (0:Int)-D=-D by omega,show (0:Int)-U=-U by omega,z160]
   simp only [eqB,decide_true,Bool.and_true,cond_true,oB,zv]
end Dv
