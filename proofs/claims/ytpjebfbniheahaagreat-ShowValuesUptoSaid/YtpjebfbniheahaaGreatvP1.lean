/- The seat's proofs. -/
import Derived.Test.YtpjebfbniheahaaGreatvQ1
import Derived.Test.YtpjebfbniheahaaGreatvL3
import Derived.Test.YtpjebfbniheahaaGreatvQ2
import Derived.Laws.Bits64
import Derived.Test.YtpjebfbniheahaaGreatvL1
import Derived.Laws.RangeAny
import Derived.Lib.IndexLaws
import Derived.Lib.TrimUEq
import Derived.Test.YtpjebfbniheahaaGreatvL4
set_option linter.unusedVariables false
set_option linter.unusedSimpArgs false
namespace Dv
open Go
theorem chkNames:z1af EE.P.funcs.toList=true:=by kernel_rfl
theorem chkTypes:z1cg EE.P 0 EE.tt=true:=by kernel_rfl
theorem chkEqs:eqsChk EE=true:=by kernel_rfl
theorem chkMt:allB (mtChk EE.P) EE.mt=true:=by kernel_rfl
theorem chkOrders:EE.P.follows .mixedOrders=true:=by kernel_rfl
theorem sameOk:∀ g,memN g EE.same=true→ExtAt EE g Extern.AbiNoEscape.same:=by
 intro g h
 have he:EE.same=[185]:=rfl
 rw [he] at h
 simp only [memN,Bool.or_eq_true,Bool.or_false,beq_iff_eq,Bool.false_eq_true] at h
 subst h
 exact ⟨⟨(EE.P.funcs[185]?).getD default,by kernel_rfl,by kernel_rfl,by kernel_rfl,by kernel_rfl,by kernel_rfl⟩⟩
theorem mnzOk:∀ g e,findN g EE.mnz=some e→∃ ps t,EE.P.underlying t=some (.slice e)∧ExtAt EE g (Extern.BytealgMakeNoZero.makeNoZero ps #[t]):=by
 intro g e h
 have he:EE.mnz=[(186,5)]:=rfl
 rw [he] at h
 simp only [findN] at h
 cases h1:(g == 186) with
 | true =>
  rw [h1] at h
  simp only [cond_true,oJ] at h
  have:=eq_of_beq h1
  subst this; subst h
  exact ⟨((EE.P.funcs[186]?).getD default).params,((EE.P.funcs[186]?).getD default).resultTypes.getD 0 0,by kernel_rfl,⟨⟨(EE.P.funcs[186]?).getD default,by kernel_rfl,by kernel_rfl,by kernel_rfl,by kernel_rfl,by kernel_rfl⟩⟩⟩
 | false =>
 rw [h1] at h
 simp only [cond_false] at h
 cases h
theorem envOk:EnvOk EE:=envChk_ok (by unfold envChk; rw [chkNames,chkTypes,chkEqs,chkMt,chkOrders]; rfl) sameOk mnzOk
theorem extOk:ExtOk EE:=by
 intro g m h args r hr
 right
 have he:EE.ext=[(162,zsl),(204,z89)]:=rfl
 rw [he] at h
 simp only [zfs] at h
 cases h1:(g == 162) with
 | true =>
  rw [h1] at h
  simp only [cond_true,oJ] at h
  have:=eq_of_beq h1
  subst this; subst h
  exact ext_add64 ⟨⟨(EE.P.funcs[162]?).getD default,by kernel_rfl,by kernel_rfl,by kernel_rfl,by kernel_rfl,by kernel_rfl⟩⟩ args r hr
 | false =>
 rw [h1] at h
 simp only [cond_false] at h
 cases h1:(g == 204) with
 | true =>
  rw [h1] at h
  simp only [cond_true,oJ] at h
  have:=eq_of_beq h1
  subst this; subst h
  exact z1b4 ⟨⟨(EE.P.funcs[204]?).getD default,by kernel_rfl,by kernel_rfl,by kernel_rfl,by kernel_rfl,by kernel_rfl⟩⟩ args r hr
 | false =>
 rw [h1] at h
 simp only [cond_false] at h
 cases h
end Dv

namespace Dv
open Go
abbrev In64 (n:Int):Prop:=-9223372036854775808≤n∧n≤9223372036854775807
theorem z8r (a:Int) {b:Int} (hb:0<b):0≤a % b∧a % b<b:=⟨Int.emod_nonneg a (by omega),Int.emod_lt_of_pos a hb⟩
theorem z12h (a:Int) {b:Int} (hb:0<b):-b<a.tmod b∧a.tmod b<b:=by
 have h2:=z8r a hb
 rcases Int.lt_or_le a 0 with h | h
 ·have h4:a.tmod b=-((-a).tmod b):=by rw [Int.neg_tmod]; omega
  have h6:(-a).tmod b=(-a) % b:=z61 (by omega)
  have:=z8r (-a) hb
  omega
 ·rw [z61 h]; omega
theorem zow {a b:Int} (hb:0<b) (hb2:b≤9223372036854775807):z20 a b=some (.int .i64 (a % b)):=by
 rw [zta,← zju hb]
 have:=z12h a hb
 rw [c_eqF (by omega)]
 by_cases h:a.tmod b<0
 ·rw [c_ltT h,if_pos h,w64 (by omega) (by omega)]
 ·rw [c_ltF h,if_neg h]
theorem z1hj {a b:Int} (ha:In64 a) (hb:0<b):-9223372036854775808≤a.tdiv b∧a.tdiv b≤9223372036854775807:=by
 have h1:=Int.tmod_add_mul_tdiv a b
 have h2:=z12h a hb
 rcases Int.lt_or_le a 0 with h | h
 ·have h3:a.tdiv b=-((-a) / b):=by rw [← z3w (by omega),Int.neg_tdiv]; omega
  have h4:(-a) / b≤-a:=Int.ediv_le_self b (by omega)
  have h5:0≤(-a) / b:=Int.ediv_nonneg (by omega) (by omega)
  omega
 ·rw [z3w h]
  have h4:a / b≤a:=Int.ediv_le_self b h
  have h5:0≤a / b:=Int.ediv_nonneg h (by omega)
  omega
theorem ref_div {a b:Int} (ha:In64 a) (ha2:-9223372036854775808<a) (hb:1<b):z8u a b=some (.int .i64 (a / b)):=by
 rw [ztb,← zjx (by omega:0<b)]
 have h1:=z1hj ha (by omega:0<b)
 rw [c_eqF (by omega),c_eqF (by omega)]
 by_cases h:a.tmod b<0
 ·rw [c_ltT h,if_pos h,w64 h1.1 h1.2]
  have h3:(if a.tmod b<0 then a.tdiv b-1 else a.tdiv b)=a / b:=zjx (by omega)
  rw [if_pos h] at h3
  have h4:a≤a / b*b+(b-1):=by
   have:=Int.emod_add_mul_ediv a b
   have:=z8r a (by omega:0<b)
   rw [Int.mul_comm]; omega
  have h5:-9223372036854775808≤a.tdiv b-1:=by
   have ha0:a<0:=by
    rcases Int.lt_or_le a 0 with h' | h'
    ·exact h'
    ·rw [z61 h'] at h; have:=z8r a (by omega:0<b); omega
   have:a.tdiv b=-((-a) / b):=by rw [← z3w (by omega),Int.neg_tdiv]; omega
   have h6:(-a) / b≤-a:=Int.ediv_le_self b (by omega)
   omega
  rw [w64 h5 (by omega)]
 ·rw [c_ltF h,if_neg h,w64 h1.1 h1.2]
theorem z15i {a b:Int} (ha:In64 a) (ha2:-9223372036854775808<a) (hb:1<b) (hb2:b≤9223372036854775807):zi1 a b=some (.tuple [.int .i64 (a / b),.int .i64 (a % b)]):=by
 have h1:=z1hj ha (by omega:0<b)
 have hm:=zju (a:=a) (by omega:0<b)
 have hd:=zjx (a:=a) (by omega:0<b)
 have hr:=z8r a (by omega:0<b)
 have hq:=Int.emod_add_mul_ediv a b
 rw [zed,c_eqF (by omega),c_eqF (by omega)]
 by_cases h:a.tmod b<0
 ·rw [if_pos h] at hm hd
  have ha0:a<0:=by
   rcases Int.lt_or_le a 0 with h' | h'
   ·exact h'
   ·rw [z61 h'] at h; omega
  have h5:a.tdiv b=-((-a) / b):=by rw [← z3w (by omega),Int.neg_tdiv]; omega
  have h6:(-a) / b≤-a:=Int.ediv_le_self b (by omega)
  rw [c_ltT h,w64 h1.1 h1.2,w64 (n:=a.tdiv b-1) (by omega) (by omega),hm,hd,w64 (by omega) (by omega)]
 ·rw [if_neg h] at hm hd
  rw [c_ltF h,w64 h1.1 h1.2,hm,hd]
theorem z1a1 (y:Int):z5r y=some (.bool (leapI y)):=by
 rw [zpp,zow (by omega) (by omega),zow (by omega) (by omega),zow (by omega) (by omega)]
 simp only [oB,PV.toI,leapI]
 by_cases a4:y % 4=0 <;> by_cases a1:y % 100=0 <;> by_cases a0:y % 400=0 <;> simp [a4,a1,a0,PV.toI,eqB]
theorem z13a (a:Int) {b:Int} (hb:0<b):a.tmod b=0↔a % b=0:=by
 have h1:=zju (a:=a) hb
 have h2:=z12h a hb
 split at h1 <;> omega
theorem civ_leap (y:Int):zzw y=some (.bool (leapI y)):=by
 have h4:=z13a y (by omega:(0:Int)<4)
 have h1:=z13a y (by omega:(0:Int)<100)
 have h0:=z13a y (by omega:(0:Int)<400)
 rw [z1be]
 by_cases a4:y % 4=0 <;> by_cases a1:y % 100=0 <;> by_cases a0:y % 400=0 <;> simp [leapI,h4,h1,h0,a4,a1,a0,eqB]
theorem mcases {m:Int} (h1:1≤m) (h2:m≤12):m=1∨m=2∨m=3∨m=4∨m=5∨m=6∨m=7∨m=8∨m=9∨m=10∨m=11∨m=12:=by omega
theorem z13z {y m:Int} (h1:1≤m) (h2:m≤12):z3i y m=some (.int .i64 (lenI y m)):=by
 rw [ztd]
 rcases mcases h1 h2 with rfl | rfl | rfl | rfl | rfl | rfl | rfl | rfl | rfl | rfl | rfl | rfl
 case inr.inl =>
  simp only [zb6,zkv,z1a1,oB,PV.toB]
  unfold lenI
  cases leapI y <;> rfl
 all_goals first | rfl | (simp only [zb6]; rfl)
theorem civ_len {y m:Int} (h1:1≤m) (h2:m≤12):zl2 y m=some (.int .i64 (lenI y m)):=by
 rw [z11c,c_ltF (by omega),c_ltF (by omega),z15h]
 rcases mcases h1 h2 with rfl | rfl | rfl | rfl | rfl | rfl | rfl | rfl | rfl | rfl | rfl | rfl
 case inr.inl =>
  simp only [civ_leap,oB,PV.toB]
  unfold lenI
  cases leapI y <;> rfl
 all_goals rfl
theorem ztw {y x:Int} (hy:-4800≤y∧y≤294500):∀ (j:Nat) (k:Int),0≤k→k+j=(y-2000) % 400→-3000000≤x→x≤108000000 →
  z3b y (x+zci k) k=some (.int .i64 (x+zci ((y-2000) % 400)))
 | 0,k,h0,hk,hx1,hx2=>by
  rw [z9t,w64 (by omega) (by omega),zow (by omega) (by omega)]
  simp only [oB,PV.toI]
  rw [c_ltF (by omega)]
  congr 3
  rw [show k=(y-2000) % 400 by omega]
 | j+1,k,h0,hk,hx1,hx2=>by
  have hr:=z8r (y-2000) (by omega:(0:Int)<400)
  have hs:=z130 h0 (by omega)
  have hy0:0≤zci k∧zci k≤146097:=by unfold zci; omega
  have ih:=ztw (x:=x) hy j (k+1) (by omega) (by omega) hx1 hx2
  rw [z9t,w64 (by omega) (by omega),zow (by omega) (by omega)]
  simp only [oB,PV.toI]
  rw [c_ltT (by omega),w64 (n:=2000+k) (by omega) (by omega),z1a1]
  simp only [oB,PV.toB]
  rw [w64 (n:=x+zci k+365) (by omega) (by omega),w64 (n:=k+1) (by omega) (by omega)]
  cases hl:leapI (2000+k) with
  | true =>
   rw [hl] at hs
   simp only [if_true] at hs
   rw [cond_true,w64 (by omega) (by omega),← ih,hs]
   congr 1; omega
  | false =>
   rw [hl] at hs
   simp only [Bool.false_eq_true,if_false] at hs
   rw [cond_false,← ih,hs]
   congr 1; omega
theorem ref_start {y:Int} (hy:-4800≤y∧y≤294500):zag y=some (.int .i64 (jan1 y)):=by
 have hr:=z8r (y-2000) (by omega:(0:Int)<400)
 have hq:-17≤(y-2000) / 400∧(y-2000) / 400≤732:=by omega
 rw [znn,w64 (by omega) (by omega),ref_div (by unfold In64; omega) (by omega) (by omega)]
 simp only [oB,PV.toI]
 rw [w64 (by omega) (by omega)]
 have:=ztw (y:=y) (x:=(y-2000) / 400*146097) hy ((y-2000) % 400).toNat 0 (by omega) (by omega) (by omega) (by omega)
 rw [z1h3,Int.add_zero] at this
 exact this
theorem z10r {y m x:Int} (h2:m≤12):∀ (j:Nat) (k:Int),1≤k→k+j=m→-4000000≤x→x≤109000000 →
  z6a y m (x+z1g y k) k=some (.int .i64 (x+z1g y m))
 | 0,k,h0,hk,hx1,hx2=>by
  rw [zcc,c_ltF (by omega),show k=m by omega]
 | j+1,k,h0,hk,hx1,hx2=>by
  have hs:=zen (y:=y) h0 (by omega:k≤12)
  have hb:=ze7 (y:=y) h0 (by omega:k≤12)
  have hl:=z7a y k h0 (by omega)
  have ih:=z10r (y:=y) (x:=x) h2 j (k+1) (by omega) (by omega) hx1 hx2
  rw [zcc,c_ltT (by omega),z13z h0 (by omega)]
  simp only [oB,PV.toI]
  rw [w64 (by omega) (by omega),w64 (by omega) (by omega),← ih,hs]
  congr 1; omega
theorem z1a2 {y m d:Int} (hy:-4800≤y∧y≤294500) (h1:1≤m) (h2:m≤12) (hd:-1000≤d∧d≤1000):z6i y m d=some (.int .i64 (dayI y m d)):=by
 have hj:=zvp hy.1 hy.2
 rw [ztc,ref_start hy]
 simp only [oB,PV.toI]
 rw [w64 (n:=jan1 y+d) (by omega) (by omega),w64 (by omega) (by omega)]
 have:=z10r (y:=y) (m:=m) (x:=jan1 y+d-1) h2 (m-1).toNat 1 (by omega) (by omega) (by omega) (by omega)
 rw [z1ag,Int.add_zero] at this
 rw [this]
 unfold dayI
 congr 2; omega
theorem z1l5 {y:Int} (hy:-4801≤y∧y≤294500):-3000000≤y / 400*146097∧y / 400*146097≤108000000∧0≤y % 400∧y % 400≤399∧0≤y % 400 / 4∧y % 400 / 4≤99∧0≤y % 400 / 100∧y % 400 / 100≤3:=by
 refine ⟨?_,?_,?_,?_,?_,?_,?_,?_⟩ <;> omega
theorem z18h {y m d:Int} (hy:-4801≤y∧y≤294500) (hm:3≤m∧m≤14) (hd:-1000≤d∧d≤1000):zj7 y m d=some (.int .i64 (zu0 y+(153*(m-3)+2) / 5+d-1-730425)):=by
 have hr:=z1l5 hy
 have h5:0≤(153*(m-3)+2) / 5∧(153*(m-3)+2) / 5≤400:=by omega
 rw [zi2,z15i (by unfold In64; omega) (by omega) (by omega) (by omega)]
 simp only [oB,PV.tnth,nthD,PV.toI]
 rw [z3w (a:=y % 400) (by omega),z3w (a:=y % 400) (by omega),w64 (n:=m-3) (by omega) (by omega),w64 (n:=153*(m-3)) (by omega) (by omega),w64 (n:=153*(m-3)+2) (by omega) (by omega),z3w (a:=153*(m-3)+2) (by omega)]
 unfold zu0
 generalize y / 400*146097=a at *
 generalize y % 400=b at *
 generalize b / 4=c at *
 generalize b / 100=e at *
 generalize (153*(m-3)+2) / 5=f at *
 rw [w64 (n:=a) (by omega) (by omega),w64 (n:=b*365) (by omega) (by omega),w64 (n:=c) (by omega) (by omega),w64 (n:=e) (by omega) (by omega),w64 (n:=f) (by omega) (by omega),
  w64 (n:=a+b*365) (by omega) (by omega),w64 (n:=a+b*365+c) (by omega) (by omega),w64 (n:=a+b*365+c-e) (by omega) (by omega),w64 (n:=a+b*365+c-e+f) (by omega) (by omega),
  w64 (n:=a+b*365+c-e+f+d) (by omega) (by omega),w64 (n:=a+b*365+c-e+f+d-1) (by omega) (by omega),w64 (by omega) (by omega)]
theorem z15j {y m d:Int} (hy:-4800≤y∧y≤294500) (h1:1≤m) (h2:m≤12) (hd:-1000≤d∧d≤1000):zq1 y m d=some (.int .i64 (dayI y m d)):=by
 have hm:=z149 (y:=y) (d:=d) h1 h2
 rw [zq0]
 by_cases h:m≤2
 ·rw [c_leT h,w64 (by omega) (by omega),w64 (by omega) (by omega),z18h (by omega) (by omega) hd]
  rw [if_pos h,if_pos h] at hm
  rw [hm]
 ·rw [c_leF h,z18h (by omega) (by omega) hd]
  rw [if_neg h,if_neg h] at hm
  rw [hm]
def zxa (y m d:Int):Bool:=decide (-4718≤y∧y≤294282∧1≤m∧m≤12∧1≤d∧d≤lenI y m)
theorem ref_right (y m d:Int):zah y m d=some (.bool (zxa y m d)):=by
 rw [zno]
 unfold zxa
 by_cases a:-4718≤y <;> by_cases b:y≤294282 <;> by_cases c:1≤m <;> by_cases e:m≤12 <;> by_cases f:1≤d <;> simp [a,b,c,e,f,leB]
 rw [z13z c e]; rfl
theorem civ_right (y m d:Int):zw3 y m d=some (.bool (zxa y m d)):=by
 rw [z170]
 unfold zxa
 by_cases a:-4718≤y <;> by_cases b:y≤294282 <;> by_cases f:1≤d <;> simp [a,b,f,leB]
 by_cases c:1≤m <;> by_cases e:m≤12
 ·rw [civ_len c e]; simp [c,e]; rfl
 all_goals
  have hz:zl2 y m=some (.int .i64 0):=by
   rw [z11c]
   by_cases hm:m<1
   ·rw [c_ltT hm,zq2]
   ·rw [c_ltF hm,c_ltT (by omega),zq2]
  rw [hz]
  simp [c,e,PV.toI]
  try exact decide_eq_false (by omega)
def daysV (y m d:Int):PV:=bif zxa y m d then .tuple [.int .i64 (dayI y m d),.int .i64 0] else .tuple [.int .i64 0,.int .i64 10]
theorem ref_days (y m d:Int):zcd y m d=some (daysV y m d):=by
 rw [zpr,ref_right]
 unfold daysV
 simp only [oB,PV.toB]
 cases h:zxa y m d with
 | false=>rfl
 | true =>
  have:=of_decide_eq_true h
  have hl:=z7a y m this.2.2.1 this.2.2.2.1
  rw [z1a2 (by omega) (by omega) (by omega) (by omega)]; rfl
theorem civ_days (y m d:Int):ze0 y m d=some (daysV y m d):=by
 rw [z1bf,civ_right]
 unfold daysV
 simp only [oB,PV.toB]
 cases h:zxa y m d with
 | false=>rfl
 | true =>
  have:=of_decide_eq_true h
  have hl:=z7a y m this.2.2.1 this.2.2.2.1
  rw [z15j (by omega) (by omega) (by omega) (by omega)]; rfl
theorem zlm (n:Int):z8j n=some (.int .i64 (wkI n)):=by
 have:=z8r n (by omega:(0:Int)<7)
 rw [zku,zow (by omega) (by omega)]
 simp only [oB,PV.toI]
 rw [w64 (by omega) (by omega),zow (by omega) (by omega)]
 rfl
theorem zmi {n:Int} (h:In64 n) (h2:-9223372036854775808<n):zmf n=some (.int .i64 (wkI n)):=by
 have:=z8r n (by omega:(0:Int)<7)
 rw [z122,z15i h h2 (by omega) (by omega)]
 simp only [oB,PV.tnth,nthD,PV.toI]
 rw [w64 (by omega) (by omega),z61 (by omega)]
 rfl
end Dv

namespace Dv
open Go
theorem shr32 {a:Int}:shrI .u64 a 32=a / 4294967296:=by
 unfold shrI
 have:(min (32:Int).toNat IntKind.u64.bits)=32:=rfl
 rw [this]
 have h2:((2:Int) ^ 32)=4294967296:=by decide
 rw [h2,Int.fdiv_eq_ediv_of_nonneg _ (by omega)]
theorem and32 {a:Int} (h0:0≤a) (h1:a<18446744073709551616):andI .u64 a 4294967295=a % 4294967296:=by
 unfold andI
 obtain ⟨n,rfl⟩:=Int.eq_ofNat_of_zero_le h0
 have hb:IntKind.u64.bits=64:=rfl
 have e:(BitVec.ofInt IntKind.u64.bits (n:Int) &&& BitVec.ofInt IntKind.u64.bits 4294967295).toNat=n % 4294967296:=by
  rw [hb,BitVec.toNat_and]
  have e1:(BitVec.ofInt 64 (n:Int)).toNat=n:=by
   rw [BitVec.toNat_ofInt]; omega
  have e2:(BitVec.ofInt 64 4294967295).toNat=2 ^ 32-1:=by decide
  rw [e1,e2,Nat.and_two_pow_sub_one_eq_mod]
 rw [e,IntKind.wrap_u64]
 omega
theorem mul64_s {a b:Int} (ha:0≤a∧a<18446744073709551616) (hb:0≤b∧b<18446744073709551616) :
  zst a b=some (.tuple [.int .u64 (a*b / 18446744073709551616),.int .u64 (a*b % 18446744073709551616)]):=by
 rw [z1bh]
 simp only [shr32,and32 ha.1 ha.2,and32 hb.1 hb.2]
 have hab:a*b=18446744073709551616*((a / 4294967296)*(b / 4294967296))+4294967296*((a / 4294967296)*(b % 4294967296)+(a % 4294967296)*(b / 4294967296))+(a % 4294967296)*(b % 4294967296):=by
  have gen:∀ x1 x0 y1 y0:Int,(4294967296*x1+x0)*(4294967296*y1+y0)=18446744073709551616*(x1*y1)+4294967296*(x1*y0+x0*y1)+x0*y0:=by
   intro x1 x0 y1 y0
   have e1:(4294967296*x1)*(4294967296*y1)=18446744073709551616*(x1*y1):=by
    rw [Int.mul_assoc,Int.mul_left_comm x1,← Int.mul_assoc]; rfl
   have e2:(4294967296*x1)*y0=4294967296*(x1*y0):=Int.mul_assoc _ _ _
   have e3:x0*(4294967296*y1)=4294967296*(x0*y1):=Int.mul_left_comm _ _ _
   rw [Int.add_mul,Int.mul_add,Int.mul_add,e1,e2,e3]
   omega
  have h:=gen (a / 4294967296) (a % 4294967296) (b / 4294967296) (b % 4294967296)
  have ea:4294967296*(a / 4294967296)+a % 4294967296=a:=by omega
  have eb:4294967296*(b / 4294967296)+b % 4294967296=b:=by omega
  rw [ea,eb] at h
  exact h
 have x1:0≤a / 4294967296∧a / 4294967296≤4294967295:=by omega
 have x0:0≤a % 4294967296∧a % 4294967296≤4294967295:=by omega
 have y1:0≤b / 4294967296∧b / 4294967296≤4294967295:=by omega
 have y0:0≤b % 4294967296∧b % 4294967296≤4294967295:=by omega
 rw [hab]
 generalize a / 4294967296=u1 at *
 generalize a % 4294967296=u0 at *
 generalize b / 4294967296=v1 at *
 generalize b % 4294967296=v2 at *
 have bd:∀ x y:Int,0≤x∧x≤4294967295→0≤y∧y≤4294967295→0≤x*y∧x*y≤18446744065119617025:=by
  intro x y hx hy
  refine ⟨Int.mul_nonneg hx.1 hy.1,?_⟩
  have:=Int.mul_le_mul hx.2 hy.2 hy.1 (by omega)
  omega
 have bp:=bd u0 v2 x0 y0
 have bq:=bd u1 v2 x1 y0
 have br:=bd u0 v1 x0 y1
 have bs:=bd u1 v1 x1 y1
 clear hab
 generalize u0*v2=p at *
 generalize u1*v2=q at *
 generalize u0*v1=r at *
 generalize u1*v1=s at *
 have wu:∀ n:Int,0≤n→n≤18446744073709551615→IntKind.u64.wrap n=n:=fun n h1 h2=>wu64 h1 h2
 have hp0:0≤p / 4294967296∧p / 4294967296≤4294967294:=by omega
 have ht:0≤q+p / 4294967296∧q+p / 4294967296≤18446744069414584319:=by omega
 rw [wu p (by omega) (by omega),wu q (by omega) (by omega),wu r (by omega) (by omega),wu s (by omega) (by omega),wu _ ht.1 (by omega),and32 ht.1 (by omega)]
 have hpq:∃ t,t=q+p / 4294967296:=⟨_,rfl⟩
 obtain ⟨t,hpq⟩:=hpq
 rw [← hpq] at ht ⊢
 have hw1:0≤t % 4294967296+r∧t % 4294967296+r≤18446744069414584320:=by omega
 have hs2:0≤s+t / 4294967296∧s+t / 4294967296≤18446744069414584320:=by omega
 rw [wu _ hw1.1 (by omega),wu _ hs2.1 (by omega)]
 have hw2:0≤(t % 4294967296+r) / 4294967296∧(t % 4294967296+r) / 4294967296≤4294967295:=by omega
 have key:(18446744073709551616*s+4294967296*(q+r)+p) / 18446744073709551616=s+t / 4294967296+(t % 4294967296+r) / 4294967296:=by
  have e1:4294967296*(q+r)+p=4294967296*(t+r)+p % 4294967296:=by omega
  have e2:t+r=4294967296*(t / 4294967296)+(t % 4294967296+r):=by omega
  omega
 rw [key,IntKind.wrap_u64,IntKind.wrap_u64]
 congr 3
 rw [Int.emod_eq_of_lt (by omega) (by omega)]
theorem z1fq {a:Int} (h:In64 a):zxd a=some (.int .u64 (if a<0 then -a else a)):=by
 rw [z1ga]
 unfold In64 at h
 by_cases h0:a<0
 ·rw [c_ltT h0,if_pos h0,IntKind.wrap_u64,IntKind.wrap_u64]
  congr 2; omega
 ·rw [c_ltF h0,if_neg h0,IntKind.wrap_u64]
  congr 2; omega
def limV (n:Int):PV:=if In64 n then .tuple [.int .i64 n,.int .i64 0] else .tuple [.int .i64 0,.int .i64 10]
theorem rd1 (x y:Int):rdT (tiInt .u64) [.int .u64 x,.int .u64 y] 1 0=some (.int .u64 y):=rfl
theorem signed_sL (neg:Bool) {m:Int} (h0:0≤m) (h1:m<340282366920938463463374607431768211456) :
  zk7 neg (m / 18446744073709551616) (m % 18446744073709551616)=some (limV (if neg then -m else m)):=by
 rw [z1a8,z11z,rd1,c_not]
 have hq:0≤m / 18446744073709551616:=by omega
 by_cases hz:m / 18446744073709551616=0
 ·rw [c_eqT hz]
  have hm:m % 18446744073709551616=m:=by omega
  rw [hm]
  simp only [oB,PV.toI]
  cases neg with
  | true =>
   simp only [cond_true,if_true]
   by_cases hl:m≤9223372036854775808
   ·rw [c_leT hl,IntKind.wrap_u64,IntKind.wrap_i64]
    unfold limV
    rw [if_pos (by unfold In64; omega)]
    congr 3
    congr 1
    omega
   ·rw [c_leF hl]
    unfold limV
    rw [if_neg (by unfold In64; omega)]
  | false =>
   simp only [cond_false,Bool.false_eq_true,if_false]
   by_cases hl:9223372036854775807<m
   ·rw [c_ltT hl]
    unfold limV
    rw [if_neg (by unfold In64; omega)]
   ·rw [c_ltF hl,w64 (by omega) (by omega)]
    unfold limV
    rw [if_pos (by unfold In64; omega)]
 ·rw [c_eqF hz]
  unfold limV
  rw [if_neg (by unfold In64; cases neg <;> simp <;> omega)]
theorem add_s {a b:Int} (ha:In64 a) (hb:In64 b):z1gb a b=some (limV (a+b)):=by
 rw [z1l1,c_not]
 unfold In64 at ha hb
 unfold limV
 by_cases h:In64 (a+b)
 ·rw [if_pos h]
  unfold In64 at h
  rw [w64 h.1 h.2]
  have:(ltB a (a+b) == ltB 0 b)=true:=by
   unfold ltB
   by_cases hb0:0<b
   ·rw [decide_eq_true hb0,decide_eq_true (by omega)]; rfl
   ·rw [decide_eq_false hb0,decide_eq_false (by omega)]; rfl
  rw [this]; rfl
 ·rw [if_neg h]
  unfold In64 at h
  have:(ltB a (IntKind.i64.wrap (a+b)) == ltB 0 b)=false:=by
   unfold ltB
   rw [IntKind.wrap_i64]
   by_cases hb0:0<b
   ·rw [decide_eq_true hb0,decide_eq_false (by omega)]; rfl
   ·rw [decide_eq_false hb0,decide_eq_true (by omega)]; rfl
  rw [this]; rfl
end Dv

namespace Dv
open Go
theorem product_s {a b:Int} (ha:In64 a) (hb:In64 b):zvj a b=some (.agg [.int .u64 ((if a<0 then -a else a)*(if b<0 then -b else b) / 18446744073709551616),.int .u64 ((if a<0 then -a else a)*(if b<0 then -b else b) % 18446744073709551616)]):=by
 rw [z16r,z1fq ha,z1fq hb]
 simp only [oB,zl]
 unfold In64 at ha hb
 rw [mul64_s (by split <;> omega) (by split <;> omega)]
 rfl
theorem signed0 (neg:Bool) {m:Int} (h0:0≤m) (h1:m<18446744073709551616):zk7 neg 0 m=some (limV (if neg then -m else m)):=by
 have:=signed_sL neg (m:=m) h0 (by omega)
 rw [show m / 18446744073709551616=0 by omega,show m % 18446744073709551616=m by omega] at this
 exact this
theorem limV2 (n:Int):some (PV.tuple [.int .i64 (PV.toI (PV.tnth (limV n) 0)),.int .i64 (PV.toI (PV.tnth (limV n) 1))])=some (limV n):=by
 unfold limV
 split <;> rfl
theorem z1hs (neg:Bool) {m:Int} (h0:0≤m) (h1:m<18446744073709551616):ziu neg m=some (limV (if neg then -m else m)):=by
 rw [z147,signed0 neg h0 h1]
 simp only [oB]
 exact limV2 _
theorem z1lw {x y c:Int} (hx:0≤x) (hy:0≤y) (hc:0≤c) (hc1:c≤1) :
  callW EE [tiInt .u64,tiInt .u64] (.func (.func zy6) [] []) [.int .u64 x,.int .u64 y,.int .u64 c]=some (.tuple [.int .u64 ((x+y+c) % 18446744073709551616),.int .u64 ((x+y+c) / 18446744073709551616)]):=by
 rw [z1ek EE _ _ _ (m:=zsl) rfl]
 unfold zsl
 have:(leB 0 x&&leB 0 y&&leB 0 c&&leB c 1)=true:=by simp [leB,hx,hy,hc,hc1]
 simp only
 rw [this]
 rfl
theorem ndiv_s {a b:Int} (ha:In64 a) (hb:0<b) (hb2:b≤9223372036854775807):z1ab a b=some (limV (a / b)):=by
 have hB:In64 b:=by unfold In64; omega
 rw [z1l0,z1dh,c_eqF (by omega),product_s ha (by unfold In64; omega),z1fq hB]
 simp only [oB,ag0,ag1,zl]
 rw [if_neg (show ¬ b<0 by omega),if_neg (show ¬ (1:Int)<0 by omega),Int.mul_one]
 unfold In64 at ha
 have hu:0≤(if a<0 then -a else a)∧(if a<0 then -a else a)≤9223372036854775808:=by split <;> omega
 generalize hm:(if a<0 then -a else a)=m at hu
 rw [show m / 18446744073709551616=0 by omega,show m % 18446744073709551616=m by omega,c_leF (by omega)]
 rw [z1bi,c_eqF (by omega),z126,c_leF (by omega),z125,c_eqT rfl,c_eqF (by omega),c_eqF (by omega)]
 simp only [oB,tn0,tn1,zl]
 rw [z3w hu.1,z61 hu.1]
 have hq0:0≤m / b:=Int.ediv_nonneg hu.1 (by omega)
 have hq1:m / b≤m:=Int.ediv_le_self _ hu.1
 rw [wu64 hq0 (by omega)]
 have hb0:ltB b 0=false:=decide_eq_false (by omega)
 have h10:ltB 1 0=false:=rfl
 rw [hb0,h10]
 by_cases h0:a<0
 ·rw [if_pos h0] at hm
  rw [show ltB a 0=true from decide_eq_true h0]
  have tf:(true == false)=false:=rfl
  simp only [tf,Bool.not_true,Bool.not_false,cond_false,cond_true]
  have hem:m=b*(m / b)+m % b:=(Int.mul_ediv_add_emod m b).symm
  have hr:=z8r m hb
  by_cases hz:m % b=0
  ·rw [c_eqT hz,z1hs _ hq0 (by omega)]
   simp only [oB,if_true]
   have:a / b=-(m / b):=by
    have:a=b*(-(m / b)):=by rw [Int.mul_neg]; omega
    rw [this,Int.mul_ediv_cancel_left _ (by omega)]
   rw [this]
   exact limV2 _
  ·rw [c_eqF hz,z120,z1lw hq0 (by omega) (by omega) (by omega)]
   simp only [oB,tn0,tn1,zl,Int.add_zero]
   rw [show (m / b+1) / 18446744073709551616=0 by omega,show (m / b+1) % 18446744073709551616=m / b+1 by omega,signed0 _ (by omega) (by omega)]
   simp only [oB,if_true]
   have:a / b=-(m / b+1):=by
    have h2:a=(b-m % b)+b*(-(m / b+1)):=by rw [Int.mul_neg,Int.mul_add]; omega
    rw [h2,Int.add_mul_ediv_left _ _ (by omega),Int.ediv_eq_zero_of_lt (by omega) (by omega)]; omega
   rw [this]
   exact limV2 _
 ·rw [if_neg h0] at hm
  subst hm
  rw [show ltB a 0=false from decide_eq_false h0]
  have ff:(false == false)=true:=rfl
  simp only [ff,Bool.not_true,Bool.not_false,cond_false,cond_true]
  rw [z1hs _ hq0 (by omega)]
  simp only [oB,Bool.false_eq_true,if_false]
  exact limV2 _
theorem nmod_s {a b:Int} (ha:In64 a) (hb:0<b) (hb2:b≤9223372036854775807):z1aa a b=some (.tuple [.int .i64 (a % b),.int .i64 0]):=by
 rw [z1kz,c_eqF (by omega),c_eqF (by omega),c_eqF (by omega),c_not,c_not]
 have h:=zju (a:=a) hb
 have hr:=z8r a hb
 have ht:=z12h a hb
 unfold In64 at ha
 have hb0:ltB b 0=false:=decide_eq_false (by omega)
 by_cases hz:a.tmod b=0
 ·rw [c_eqT hz,hz]
  rw [hz] at h
  simp only [Int.lt_irrefl,if_false] at h
  rw [← h]
 ·rw [c_eqF hz,hb0]
  by_cases hn:a.tmod b<0
  ·rw [show ltB (a.tmod b) 0=true from decide_eq_true hn]
   rw [if_pos hn] at h
   rw [h,w64 (by omega) (by omega)]; rfl
  ·rw [show ltB (a.tmod b) 0=false from decide_eq_false hn]
   rw [if_neg hn] at h
   rw [h]; rfl
theorem z1ib {a:Int} (ha:In64 a):zxe a=some (.tuple [.int .i64 (a / 86400000000),.int .i64 (a % 86400000000)]):=by
 rw [z1dg,ndiv_s ha (by omega) (by omega),nmod_s ha (by omega) (by omega)]
 unfold In64 at ha
 rw [limV,if_pos (by unfold In64; omega)]
 rfl
end Dv

namespace Dv
open Go
def limbs (n:Nat):List PV:=[.int .u64 ((n % 4294967296:Nat):Int),.int .u64 ((n / 4294967296 % 4294967296:Nat):Int),.int .u64 ((n / 4294967296 / 4294967296 % 4294967296:Nat):Int),.int .u64 ((n / 4294967296 / 4294967296 / 4294967296 % 4294967296:Nat):Int),.int .u64 ((n / 4294967296 / 4294967296 / 4294967296 / 4294967296 % 4294967296:Nat):Int),.int .u64 ((n / 4294967296 / 4294967296 / 4294967296 / 4294967296 / 4294967296 % 4294967296:Nat):Int)]
theorem zk9:limbs 0=[.int .u64 0,.int .u64 0,.int .u64 0,.int .u64 0,.int .u64 0,.int .u64 0]:=rfl
theorem add_st0 (c:Int) (a0 a1 a2 a3 a4 a5:Int) (b0 b1 b2 b3 b4 b5:Int) (o0 o1 o2 o3 o4 o5:Int) (z:Nat):zm [.int .u64 a0,.int .u64 a1,.int .u64 a2,.int .u64 a3,.int .u64 a4,.int .u64 a5] [.int .u64 b0,.int .u64 b1,.int .u64 b2,.int .u64 b3,.int .u64 b4,.int .u64 b5] c 0 [.int .u64 o0,.int .u64 o1,.int .u64 o2,.int .u64 o3,.int .u64 o4,.int .u64 o5] z=zm [.int .u64 a0,.int .u64 a1,.int .u64 a2,.int .u64 a3,.int .u64 a4,.int .u64 a5] [.int .u64 b0,.int .u64 b1,.int .u64 b2,.int .u64 b3,.int .u64 b4,.int .u64 b5] (shrI .u64 (IntKind.u64.wrap (IntKind.u64.wrap (c+a0)+b0)) 32) 1 [.int .u64 (andI .u64 (IntKind.u64.wrap (IntKind.u64.wrap (c+a0)+b0)) 4294967295),.int .u64 o1,.int .u64 o2,.int .u64 o3,.int .u64 o4,.int .u64 o5] z:=by
 rw [z1f]; rfl
theorem add_st1 (c:Int) (a0 a1 a2 a3 a4 a5:Int) (b0 b1 b2 b3 b4 b5:Int) (o0 o1 o2 o3 o4 o5:Int) (z:Nat):zm [.int .u64 a0,.int .u64 a1,.int .u64 a2,.int .u64 a3,.int .u64 a4,.int .u64 a5] [.int .u64 b0,.int .u64 b1,.int .u64 b2,.int .u64 b3,.int .u64 b4,.int .u64 b5] c 1 [.int .u64 o0,.int .u64 o1,.int .u64 o2,.int .u64 o3,.int .u64 o4,.int .u64 o5] z=zm [.int .u64 a0,.int .u64 a1,.int .u64 a2,.int .u64 a3,.int .u64 a4,.int .u64 a5] [.int .u64 b0,.int .u64 b1,.int .u64 b2,.int .u64 b3,.int .u64 b4,.int .u64 b5] (shrI .u64 (IntKind.u64.wrap (IntKind.u64.wrap (c+a1)+b1)) 32) 2 [.int .u64 o0,.int .u64 (andI .u64 (IntKind.u64.wrap (IntKind.u64.wrap (c+a1)+b1)) 4294967295),.int .u64 o2,.int .u64 o3,.int .u64 o4,.int .u64 o5] z:=by
 rw [z1f]; rfl
theorem add_st2 (c:Int) (a0 a1 a2 a3 a4 a5:Int) (b0 b1 b2 b3 b4 b5:Int) (o0 o1 o2 o3 o4 o5:Int) (z:Nat):zm [.int .u64 a0,.int .u64 a1,.int .u64 a2,.int .u64 a3,.int .u64 a4,.int .u64 a5] [.int .u64 b0,.int .u64 b1,.int .u64 b2,.int .u64 b3,.int .u64 b4,.int .u64 b5] c 2 [.int .u64 o0,.int .u64 o1,.int .u64 o2,.int .u64 o3,.int .u64 o4,.int .u64 o5] z=zm [.int .u64 a0,.int .u64 a1,.int .u64 a2,.int .u64 a3,.int .u64 a4,.int .u64 a5] [.int .u64 b0,.int .u64 b1,.int .u64 b2,.int .u64 b3,.int .u64 b4,.int .u64 b5] (shrI .u64 (IntKind.u64.wrap (IntKind.u64.wrap (c+a2)+b2)) 32) 3 [.int .u64 o0,.int .u64 o1,.int .u64 (andI .u64 (IntKind.u64.wrap (IntKind.u64.wrap (c+a2)+b2)) 4294967295),.int .u64 o3,.int .u64 o4,.int .u64 o5] z:=by
 rw [z1f]; rfl
theorem add_st3 (c:Int) (a0 a1 a2 a3 a4 a5:Int) (b0 b1 b2 b3 b4 b5:Int) (o0 o1 o2 o3 o4 o5:Int) (z:Nat):zm [.int .u64 a0,.int .u64 a1,.int .u64 a2,.int .u64 a3,.int .u64 a4,.int .u64 a5] [.int .u64 b0,.int .u64 b1,.int .u64 b2,.int .u64 b3,.int .u64 b4,.int .u64 b5] c 3 [.int .u64 o0,.int .u64 o1,.int .u64 o2,.int .u64 o3,.int .u64 o4,.int .u64 o5] z=zm [.int .u64 a0,.int .u64 a1,.int .u64 a2,.int .u64 a3,.int .u64 a4,.int .u64 a5] [.int .u64 b0,.int .u64 b1,.int .u64 b2,.int .u64 b3,.int .u64 b4,.int .u64 b5] (shrI .u64 (IntKind.u64.wrap (IntKind.u64.wrap (c+a3)+b3)) 32) 4 [.int .u64 o0,.int .u64 o1,.int .u64 o2,.int .u64 (andI .u64 (IntKind.u64.wrap (IntKind.u64.wrap (c+a3)+b3)) 4294967295),.int .u64 o4,.int .u64 o5] z:=by
 rw [z1f]; rfl
theorem add_st4 (c:Int) (a0 a1 a2 a3 a4 a5:Int) (b0 b1 b2 b3 b4 b5:Int) (o0 o1 o2 o3 o4 o5:Int) (z:Nat):zm [.int .u64 a0,.int .u64 a1,.int .u64 a2,.int .u64 a3,.int .u64 a4,.int .u64 a5] [.int .u64 b0,.int .u64 b1,.int .u64 b2,.int .u64 b3,.int .u64 b4,.int .u64 b5] c 4 [.int .u64 o0,.int .u64 o1,.int .u64 o2,.int .u64 o3,.int .u64 o4,.int .u64 o5] z=zm [.int .u64 a0,.int .u64 a1,.int .u64 a2,.int .u64 a3,.int .u64 a4,.int .u64 a5] [.int .u64 b0,.int .u64 b1,.int .u64 b2,.int .u64 b3,.int .u64 b4,.int .u64 b5] (shrI .u64 (IntKind.u64.wrap (IntKind.u64.wrap (c+a4)+b4)) 32) 5 [.int .u64 o0,.int .u64 o1,.int .u64 o2,.int .u64 o3,.int .u64 (andI .u64 (IntKind.u64.wrap (IntKind.u64.wrap (c+a4)+b4)) 4294967295),.int .u64 o5] z:=by
 rw [z1f]; rfl
theorem add_st5 (c:Int) (a0 a1 a2 a3 a4 a5:Int) (b0 b1 b2 b3 b4 b5:Int) (o0 o1 o2 o3 o4 o5:Int) (z:Nat):zm [.int .u64 a0,.int .u64 a1,.int .u64 a2,.int .u64 a3,.int .u64 a4,.int .u64 a5] [.int .u64 b0,.int .u64 b1,.int .u64 b2,.int .u64 b3,.int .u64 b4,.int .u64 b5] c 5 [.int .u64 o0,.int .u64 o1,.int .u64 o2,.int .u64 o3,.int .u64 o4,.int .u64 o5] z=zm [.int .u64 a0,.int .u64 a1,.int .u64 a2,.int .u64 a3,.int .u64 a4,.int .u64 a5] [.int .u64 b0,.int .u64 b1,.int .u64 b2,.int .u64 b3,.int .u64 b4,.int .u64 b5] (shrI .u64 (IntKind.u64.wrap (IntKind.u64.wrap (c+a5)+b5)) 32) 6 [.int .u64 o0,.int .u64 o1,.int .u64 o2,.int .u64 o3,.int .u64 o4,.int .u64 (andI .u64 (IntKind.u64.wrap (IntKind.u64.wrap (c+a5)+b5)) 4294967295)] z:=by
 rw [z1f]; rfl
theorem add_end (c:Int) (l m r:List PV) (z:Nat):zm l m c 6 r z=some (.sl 1 r):=by
 rw [z1f]; rfl
theorem less_st0 (c:Int) (a0 a1 a2 a3 a4 a5:Int) (b0 b1 b2 b3 b4 b5:Int) (o0 o1 o2 o3 o4 o5:Int) (z:Nat):zj [.int .u64 a0,.int .u64 a1,.int .u64 a2,.int .u64 a3,.int .u64 a4,.int .u64 a5] [.int .u64 b0,.int .u64 b1,.int .u64 b2,.int .u64 b3,.int .u64 b4,.int .u64 b5] c 0 [.int .u64 o0,.int .u64 o1,.int .u64 o2,.int .u64 o3,.int .u64 o4,.int .u64 o5] z=zj [.int .u64 a0,.int .u64 a1,.int .u64 a2,.int .u64 a3,.int .u64 a4,.int .u64 a5] [.int .u64 b0,.int .u64 b1,.int .u64 b2,.int .u64 b3,.int .u64 b4,.int .u64 b5] (IntKind.u64.wrap (1-shrI .u64 (IntKind.u64.wrap (IntKind.u64.wrap (IntKind.u64.wrap (a0+4294967296)-b0)-c)) 32)) 1 [.int .u64 (andI .u64 (IntKind.u64.wrap (IntKind.u64.wrap (IntKind.u64.wrap (a0+4294967296)-b0)-c)) 4294967295),.int .u64 o1,.int .u64 o2,.int .u64 o3,.int .u64 o4,.int .u64 o5] z:=by
 rw [z1a]; rfl
theorem less_st1 (c:Int) (a0 a1 a2 a3 a4 a5:Int) (b0 b1 b2 b3 b4 b5:Int) (o0 o1 o2 o3 o4 o5:Int) (z:Nat):zj [.int .u64 a0,.int .u64 a1,.int .u64 a2,.int .u64 a3,.int .u64 a4,.int .u64 a5] [.int .u64 b0,.int .u64 b1,.int .u64 b2,.int .u64 b3,.int .u64 b4,.int .u64 b5] c 1 [.int .u64 o0,.int .u64 o1,.int .u64 o2,.int .u64 o3,.int .u64 o4,.int .u64 o5] z=zj [.int .u64 a0,.int .u64 a1,.int .u64 a2,.int .u64 a3,.int .u64 a4,.int .u64 a5] [.int .u64 b0,.int .u64 b1,.int .u64 b2,.int .u64 b3,.int .u64 b4,.int .u64 b5] (IntKind.u64.wrap (1-shrI .u64 (IntKind.u64.wrap (IntKind.u64.wrap (IntKind.u64.wrap (a1+4294967296)-b1)-c)) 32)) 2 [.int .u64 o0,.int .u64 (andI .u64 (IntKind.u64.wrap (IntKind.u64.wrap (IntKind.u64.wrap (a1+4294967296)-b1)-c)) 4294967295),.int .u64 o2,.int .u64 o3,.int .u64 o4,.int .u64 o5] z:=by
 rw [z1a]; rfl
theorem less_st2 (c:Int) (a0 a1 a2 a3 a4 a5:Int) (b0 b1 b2 b3 b4 b5:Int) (o0 o1 o2 o3 o4 o5:Int) (z:Nat):zj [.int .u64 a0,.int .u64 a1,.int .u64 a2,.int .u64 a3,.int .u64 a4,.int .u64 a5] [.int .u64 b0,.int .u64 b1,.int .u64 b2,.int .u64 b3,.int .u64 b4,.int .u64 b5] c 2 [.int .u64 o0,.int .u64 o1,.int .u64 o2,.int .u64 o3,.int .u64 o4,.int .u64 o5] z=zj [.int .u64 a0,.int .u64 a1,.int .u64 a2,.int .u64 a3,.int .u64 a4,.int .u64 a5] [.int .u64 b0,.int .u64 b1,.int .u64 b2,.int .u64 b3,.int .u64 b4,.int .u64 b5] (IntKind.u64.wrap (1-shrI .u64 (IntKind.u64.wrap (IntKind.u64.wrap (IntKind.u64.wrap (a2+4294967296)-b2)-c)) 32)) 3 [.int .u64 o0,.int .u64 o1,.int .u64 (andI .u64 (IntKind.u64.wrap (IntKind.u64.wrap (IntKind.u64.wrap (a2+4294967296)-b2)-c)) 4294967295),.int .u64 o3,.int .u64 o4,.int .u64 o5] z:=by
 rw [z1a]; rfl
theorem less_st3 (c:Int) (a0 a1 a2 a3 a4 a5:Int) (b0 b1 b2 b3 b4 b5:Int) (o0 o1 o2 o3 o4 o5:Int) (z:Nat):zj [.int .u64 a0,.int .u64 a1,.int .u64 a2,.int .u64 a3,.int .u64 a4,.int .u64 a5] [.int .u64 b0,.int .u64 b1,.int .u64 b2,.int .u64 b3,.int .u64 b4,.int .u64 b5] c 3 [.int .u64 o0,.int .u64 o1,.int .u64 o2,.int .u64 o3,.int .u64 o4,.int .u64 o5] z=zj [.int .u64 a0,.int .u64 a1,.int .u64 a2,.int .u64 a3,.int .u64 a4,.int .u64 a5] [.int .u64 b0,.int .u64 b1,.int .u64 b2,.int .u64 b3,.int .u64 b4,.int .u64 b5] (IntKind.u64.wrap (1-shrI .u64 (IntKind.u64.wrap (IntKind.u64.wrap (IntKind.u64.wrap (a3+4294967296)-b3)-c)) 32)) 4 [.int .u64 o0,.int .u64 o1,.int .u64 o2,.int .u64 (andI .u64 (IntKind.u64.wrap (IntKind.u64.wrap (IntKind.u64.wrap (a3+4294967296)-b3)-c)) 4294967295),.int .u64 o4,.int .u64 o5] z:=by
 rw [z1a]; rfl
theorem less_st4 (c:Int) (a0 a1 a2 a3 a4 a5:Int) (b0 b1 b2 b3 b4 b5:Int) (o0 o1 o2 o3 o4 o5:Int) (z:Nat):zj [.int .u64 a0,.int .u64 a1,.int .u64 a2,.int .u64 a3,.int .u64 a4,.int .u64 a5] [.int .u64 b0,.int .u64 b1,.int .u64 b2,.int .u64 b3,.int .u64 b4,.int .u64 b5] c 4 [.int .u64 o0,.int .u64 o1,.int .u64 o2,.int .u64 o3,.int .u64 o4,.int .u64 o5] z=zj [.int .u64 a0,.int .u64 a1,.int .u64 a2,.int .u64 a3,.int .u64 a4,.int .u64 a5] [.int .u64 b0,.int .u64 b1,.int .u64 b2,.int .u64 b3,.int .u64 b4,.int .u64 b5] (IntKind.u64.wrap (1-shrI .u64 (IntKind.u64.wrap (IntKind.u64.wrap (IntKind.u64.wrap (a4+4294967296)-b4)-c)) 32)) 5 [.int .u64 o0,.int .u64 o1,.int .u64 o2,.int .u64 o3,.int .u64 (andI .u64 (IntKind.u64.wrap (IntKind.u64.wrap (IntKind.u64.wrap (a4+4294967296)-b4)-c)) 4294967295),.int .u64 o5] z:=by
 rw [z1a]; rfl
theorem less_st5 (c:Int) (a0 a1 a2 a3 a4 a5:Int) (b0 b1 b2 b3 b4 b5:Int) (o0 o1 o2 o3 o4 o5:Int) (z:Nat):zj [.int .u64 a0,.int .u64 a1,.int .u64 a2,.int .u64 a3,.int .u64 a4,.int .u64 a5] [.int .u64 b0,.int .u64 b1,.int .u64 b2,.int .u64 b3,.int .u64 b4,.int .u64 b5] c 5 [.int .u64 o0,.int .u64 o1,.int .u64 o2,.int .u64 o3,.int .u64 o4,.int .u64 o5] z=zj [.int .u64 a0,.int .u64 a1,.int .u64 a2,.int .u64 a3,.int .u64 a4,.int .u64 a5] [.int .u64 b0,.int .u64 b1,.int .u64 b2,.int .u64 b3,.int .u64 b4,.int .u64 b5] (IntKind.u64.wrap (1-shrI .u64 (IntKind.u64.wrap (IntKind.u64.wrap (IntKind.u64.wrap (a5+4294967296)-b5)-c)) 32)) 6 [.int .u64 o0,.int .u64 o1,.int .u64 o2,.int .u64 o3,.int .u64 o4,.int .u64 (andI .u64 (IntKind.u64.wrap (IntKind.u64.wrap (IntKind.u64.wrap (a5+4294967296)-b5)-c)) 4294967295)] z:=by
 rw [z1a]; rfl
theorem less_end (c:Int) (l m r:List PV) (z:Nat):zj l m c 6 r z=some (.sl 1 r):=by
 rw [z1a]; rfl
theorem addD {c x y:Nat} (hc:c≤1):IntKind.u64.wrap (IntKind.u64.wrap ((c:Int)+((x % 4294967296:Nat):Int))+((y % 4294967296:Nat):Int))=((c+x % 4294967296+y % 4294967296:Nat):Int):=by
 rw [IntKind.wrap_u64,IntKind.wrap_u64]; omega
theorem shrN (n:Nat):shrI .u64 (n:Int) 32=((n / 4294967296:Nat):Int):=by rw [shr32]; omega
theorem andN {n:Nat} (h:n<18446744073709551616):andI .u64 (n:Int) 4294967295=((n % 4294967296:Nat):Int):=by rw [and32 (by omega) (by omega)]; omega
theorem add_step (c x y s:Nat) (hc:c≤1) (h:c+x+y=s):(c+x % 4294967296+y % 4294967296) / 4294967296≤1∧(c+x % 4294967296+y % 4294967296) % 4294967296=s % 4294967296∧(c+x % 4294967296+y % 4294967296) / 4294967296+x / 4294967296+y / 4294967296=s / 4294967296:=by omega
theorem addS {c x y s:Nat} (hc:c≤1) (h:c+x+y=s):∃ d:Nat,d≤1∧d+x / 4294967296+y / 4294967296=s / 4294967296 ∧
  shrI .u64 (IntKind.u64.wrap (IntKind.u64.wrap ((c:Int)+((x % 4294967296:Nat):Int))+((y % 4294967296:Nat):Int))) 32=(d:Int) ∧
  andI .u64 (IntKind.u64.wrap (IntKind.u64.wrap ((c:Int)+((x % 4294967296:Nat):Int))+((y % 4294967296:Nat):Int))) 4294967295=((s % 4294967296:Nat):Int):=by
 obtain ⟨h1,h2,h3⟩:=add_step c x y s hc h
 refine ⟨(c+x % 4294967296+y % 4294967296) / 4294967296,h1,h3,?_,?_⟩
 ·rw [addD hc,shrN]
 ·rw [addD hc,andN (by omega),h2]
theorem lessS {c x y:Nat} {s:Int} (hc:c≤1) (h:(x:Int)-y-c=s):∃ d:Nat,d≤1∧((x / 4294967296:Nat):Int)-((y / 4294967296:Nat):Int)-d=s / 4294967296 ∧
  IntKind.u64.wrap (1-shrI .u64 (IntKind.u64.wrap (IntKind.u64.wrap (IntKind.u64.wrap (((x % 4294967296:Nat):Int)+4294967296)-((y % 4294967296:Nat):Int))-(c:Int))) 32)=(d:Int) ∧
  andI .u64 (IntKind.u64.wrap (IntKind.u64.wrap (IntKind.u64.wrap (((x % 4294967296:Nat):Int)+4294967296)-((y % 4294967296:Nat):Int))-(c:Int))) 4294967295=s % 4294967296:=by
 have e:IntKind.u64.wrap (IntKind.u64.wrap (IntKind.u64.wrap (((x % 4294967296:Nat):Int)+4294967296)-((y % 4294967296:Nat):Int))-(c:Int))=((x % 4294967296:Nat):Int)+4294967296-((y % 4294967296:Nat):Int)-(c:Int):=by
  rw [IntKind.wrap_u64,IntKind.wrap_u64,IntKind.wrap_u64]; omega
 rw [e]
 refine ⟨(1-(((x % 4294967296:Nat):Int)+4294967296-((y % 4294967296:Nat):Int)-(c:Int)) / 4294967296).toNat,by omega,by omega,?_,?_⟩
 ·rw [shr32,IntKind.wrap_u64]; omega
 ·rw [and32 (by omega) (by omega)]; omega
theorem z1i7 (x y:Nat):z2l (limbs x) (limbs y)=some (.sl 1 (limbs (x+y))):=by
 obtain ⟨c1,g1,h1,e1,f1⟩:=addS (c:=0) (x:=x) (y:=y) (s:=x+y) (by omega) (by omega)
 obtain ⟨c2,g2,h2,e2,f2⟩:=addS g1 h1
 obtain ⟨c3,g3,h3,e3,f3⟩:=addS g2 h2
 obtain ⟨c4,g4,h4,e4,f4⟩:=addS g3 h3
 obtain ⟨c5,g5,h5,e5,f5⟩:=addS g4 h4
 obtain ⟨c6,g6,h6,e6,f6⟩:=addS g5 h5
 unfold limbs
 rw [ztg]
 have z0:(0:Int)=((0:Nat):Int):=rfl
 refine (add_st0 ((0:Nat):Int) _ _ _ _ _ _ _ _ _ _ _ _ _ _ _ _ _ _ _).trans ?_
 rw [e1,f1]
 rw [add_st1,e2,f2]
 rw [add_st2,e3,f3]
 rw [add_st3,e4,f4]
 rw [add_st4,e5,f5]
 rw [add_st5,e6,f6]
 rw [add_end]
theorem z1g0 {x y:Nat} (h:y≤x):z43 (limbs x) (limbs y)=some (.sl 1 (limbs (x-y))):=by
 obtain ⟨c1,g1,h1,e1,f1⟩:=lessS (c:=0) (x:=x) (y:=y) (s:=((x-y:Nat):Int)) (by omega) (by omega)
 obtain ⟨c2,g2,h2,e2,f2⟩:=lessS (x:=x / 4294967296) (y:=y / 4294967296) (s:=(((x-y) / 4294967296:Nat):Int)) g1 (by omega)
 obtain ⟨c3,g3,h3,e3,f3⟩:=lessS (x:=x / 4294967296 / 4294967296) (y:=y / 4294967296 / 4294967296) (s:=(((x-y) / 4294967296 / 4294967296:Nat):Int)) g2 (by omega)
 obtain ⟨c4,g4,h4,e4,f4⟩:=lessS (x:=x / 4294967296 / 4294967296 / 4294967296) (y:=y / 4294967296 / 4294967296 / 4294967296) (s:=(((x-y) / 4294967296 / 4294967296 / 4294967296:Nat):Int)) g3 (by omega)
 obtain ⟨c5,g5,h5,e5,f5⟩:=lessS (x:=x / 4294967296 / 4294967296 / 4294967296 / 4294967296) (y:=y / 4294967296 / 4294967296 / 4294967296 / 4294967296) (s:=(((x-y) / 4294967296 / 4294967296 / 4294967296 / 4294967296:Nat):Int)) g4 (by omega)
 obtain ⟨c6,g6,h6,e6,f6⟩:=lessS (x:=x / 4294967296 / 4294967296 / 4294967296 / 4294967296 / 4294967296) (y:=y / 4294967296 / 4294967296 / 4294967296 / 4294967296 / 4294967296) (s:=(((x-y) / 4294967296 / 4294967296 / 4294967296 / 4294967296 / 4294967296:Nat):Int)) g5 (by omega)
 unfold limbs
 rw [zpu]
 refine (less_st0 ((0:Nat):Int) _ _ _ _ _ _ _ _ _ _ _ _ _ _ _ _ _ _ _).trans ?_
 rw [e1,f1]
 refine (less_st1 _ _ _ _ _ _ _ _ _ _ _ _ _ _ _ _ _ _ _ _).trans ?_
 rw [e2,f2]
 refine (less_st2 _ _ _ _ _ _ _ _ _ _ _ _ _ _ _ _ _ _ _ _).trans ?_
 rw [e3,f3]
 refine (less_st3 _ _ _ _ _ _ _ _ _ _ _ _ _ _ _ _ _ _ _ _).trans ?_
 rw [e4,f4]
 refine (less_st4 _ _ _ _ _ _ _ _ _ _ _ _ _ _ _ _ _ _ _ _).trans ?_
 rw [e5,f5]
 refine (less_st5 _ _ _ _ _ _ _ _ _ _ _ _ _ _ _ _ _ _ _ _).trans ?_
 rw [e6,f6]
 rw [less_end]
 rfl
def cmpI (x y:Nat):Int:=if x<y then -1 else if y<x then 1 else 0
theorem cmp_st0 (a0 a1 a2 a3 a4 a5:Int) (b0 b1 b2 b3 b4 b5:Int):zf [.int .u64 a0,.int .u64 a1,.int .u64 a2,.int .u64 a3,.int .u64 a4,.int .u64 a5] [.int .u64 b0,.int .u64 b1,.int .u64 b2,.int .u64 b3,.int .u64 b4,.int .u64 b5] 0=bif ltB a0 b0 then some (.int .i64 (-1)) else bif ltB b0 a0 then some (.int .i64 1) else zf [.int .u64 a0,.int .u64 a1,.int .u64 a2,.int .u64 a3,.int .u64 a4,.int .u64 a5] [.int .u64 b0,.int .u64 b1,.int .u64 b2,.int .u64 b3,.int .u64 b4,.int .u64 b5] (-1):=by
 rw [z1e]; rfl
theorem cmp_st1 (a0 a1 a2 a3 a4 a5:Int) (b0 b1 b2 b3 b4 b5:Int):zf [.int .u64 a0,.int .u64 a1,.int .u64 a2,.int .u64 a3,.int .u64 a4,.int .u64 a5] [.int .u64 b0,.int .u64 b1,.int .u64 b2,.int .u64 b3,.int .u64 b4,.int .u64 b5] 1=bif ltB a1 b1 then some (.int .i64 (-1)) else bif ltB b1 a1 then some (.int .i64 1) else zf [.int .u64 a0,.int .u64 a1,.int .u64 a2,.int .u64 a3,.int .u64 a4,.int .u64 a5] [.int .u64 b0,.int .u64 b1,.int .u64 b2,.int .u64 b3,.int .u64 b4,.int .u64 b5] 0:=by
 rw [z1e]; rfl
theorem cmp_st2 (a0 a1 a2 a3 a4 a5:Int) (b0 b1 b2 b3 b4 b5:Int):zf [.int .u64 a0,.int .u64 a1,.int .u64 a2,.int .u64 a3,.int .u64 a4,.int .u64 a5] [.int .u64 b0,.int .u64 b1,.int .u64 b2,.int .u64 b3,.int .u64 b4,.int .u64 b5] 2=bif ltB a2 b2 then some (.int .i64 (-1)) else bif ltB b2 a2 then some (.int .i64 1) else zf [.int .u64 a0,.int .u64 a1,.int .u64 a2,.int .u64 a3,.int .u64 a4,.int .u64 a5] [.int .u64 b0,.int .u64 b1,.int .u64 b2,.int .u64 b3,.int .u64 b4,.int .u64 b5] 1:=by
 rw [z1e]; rfl
theorem cmp_st3 (a0 a1 a2 a3 a4 a5:Int) (b0 b1 b2 b3 b4 b5:Int):zf [.int .u64 a0,.int .u64 a1,.int .u64 a2,.int .u64 a3,.int .u64 a4,.int .u64 a5] [.int .u64 b0,.int .u64 b1,.int .u64 b2,.int .u64 b3,.int .u64 b4,.int .u64 b5] 3=bif ltB a3 b3 then some (.int .i64 (-1)) else bif ltB b3 a3 then some (.int .i64 1) else zf [.int .u64 a0,.int .u64 a1,.int .u64 a2,.int .u64 a3,.int .u64 a4,.int .u64 a5] [.int .u64 b0,.int .u64 b1,.int .u64 b2,.int .u64 b3,.int .u64 b4,.int .u64 b5] 2:=by
 rw [z1e]; rfl
theorem cmp_st4 (a0 a1 a2 a3 a4 a5:Int) (b0 b1 b2 b3 b4 b5:Int):zf [.int .u64 a0,.int .u64 a1,.int .u64 a2,.int .u64 a3,.int .u64 a4,.int .u64 a5] [.int .u64 b0,.int .u64 b1,.int .u64 b2,.int .u64 b3,.int .u64 b4,.int .u64 b5] 4=bif ltB a4 b4 then some (.int .i64 (-1)) else bif ltB b4 a4 then some (.int .i64 1) else zf [.int .u64 a0,.int .u64 a1,.int .u64 a2,.int .u64 a3,.int .u64 a4,.int .u64 a5] [.int .u64 b0,.int .u64 b1,.int .u64 b2,.int .u64 b3,.int .u64 b4,.int .u64 b5] 3:=by
 rw [z1e]; rfl
theorem cmp_st5 (a0 a1 a2 a3 a4 a5:Int) (b0 b1 b2 b3 b4 b5:Int):zf [.int .u64 a0,.int .u64 a1,.int .u64 a2,.int .u64 a3,.int .u64 a4,.int .u64 a5] [.int .u64 b0,.int .u64 b1,.int .u64 b2,.int .u64 b3,.int .u64 b4,.int .u64 b5] 5=bif ltB a5 b5 then some (.int .i64 (-1)) else bif ltB b5 a5 then some (.int .i64 1) else zf [.int .u64 a0,.int .u64 a1,.int .u64 a2,.int .u64 a3,.int .u64 a4,.int .u64 a5] [.int .u64 b0,.int .u64 b1,.int .u64 b2,.int .u64 b3,.int .u64 b4,.int .u64 b5] 4:=by
 rw [z1e]; rfl
theorem cmp_end (l m:List PV):zf l m (-1)=some (.int .i64 0):=by
 rw [z1e]; rfl
theorem cmpS {x y:Nat} {k:Option PV} (h:x / 4294967296=y / 4294967296) :
  (bif ltB ((x % 4294967296:Nat):Int) ((y % 4294967296:Nat):Int) then some (.int .i64 (-1)) else bif ltB ((y % 4294967296:Nat):Int) ((x % 4294967296:Nat):Int) then some (.int .i64 1) else k) =
   if x=y then k else some (.int .i64 (cmpI x y)):=by
 unfold cmpI
 by_cases h1:x<y
 ·rw [c_ltT (by omega),if_neg (by omega),if_pos h1]
 ·rw [c_ltF (by omega)]
  by_cases h2:y<x
  ·rw [c_ltT (by omega),if_neg (by omega),if_neg h1,if_pos h2]
  ·rw [c_ltF (by omega),if_pos (by omega)]
theorem zyg {x y:Nat} (h:¬ x / 4294967296=y / 4294967296):cmpI (x / 4294967296) (y / 4294967296)=cmpI x y:=by
 unfold cmpI
 by_cases h1:x / 4294967296<y / 4294967296
 ·rw [if_pos h1,if_pos (by omega)]
 ·rw [if_neg h1,if_pos (by omega),if_neg (by omega),if_pos (by omega)]
theorem cmpE0 {x y:Nat} (h:¬ x=y):cmpI (x) (y)=cmpI x y:=rfl
theorem cmpE1 {x y:Nat} (h:¬ x / 4294967296=y / 4294967296):cmpI (x / 4294967296) (y / 4294967296)=cmpI x y:=(zyg h).trans (cmpE0 (fun e=>h (by rw [e])))
theorem cmpE2 {x y:Nat} (h:¬ x / 4294967296 / 4294967296=y / 4294967296 / 4294967296):cmpI (x / 4294967296 / 4294967296) (y / 4294967296 / 4294967296)=cmpI x y:=(zyg h).trans (cmpE1 (fun e=>h (by rw [e])))
theorem cmpE3 {x y:Nat} (h:¬ x / 4294967296 / 4294967296 / 4294967296=y / 4294967296 / 4294967296 / 4294967296):cmpI (x / 4294967296 / 4294967296 / 4294967296) (y / 4294967296 / 4294967296 / 4294967296)=cmpI x y:=(zyg h).trans (cmpE2 (fun e=>h (by rw [e])))
theorem cmpE4 {x y:Nat} (h:¬ x / 4294967296 / 4294967296 / 4294967296 / 4294967296=y / 4294967296 / 4294967296 / 4294967296 / 4294967296):cmpI (x / 4294967296 / 4294967296 / 4294967296 / 4294967296) (y / 4294967296 / 4294967296 / 4294967296 / 4294967296)=cmpI x y:=(zyg h).trans (cmpE3 (fun e=>h (by rw [e])))
theorem cmpE5 {x y:Nat} (h:¬ x / 4294967296 / 4294967296 / 4294967296 / 4294967296 / 4294967296=y / 4294967296 / 4294967296 / 4294967296 / 4294967296 / 4294967296):cmpI (x / 4294967296 / 4294967296 / 4294967296 / 4294967296 / 4294967296) (y / 4294967296 / 4294967296 / 4294967296 / 4294967296 / 4294967296)=cmpI x y:=(zyg h).trans (cmpE4 (fun e=>h (by rw [e])))
theorem cmpF0 {x y:Nat} (h:x / 4294967296=y / 4294967296):zf (limbs x) (limbs y) 0=some (.int .i64 (cmpI x y)):=by
 unfold limbs
 rw [cmp_st0,cmpS h]
 by_cases e:x=y
 ·rw [if_pos e,cmp_end]; subst e; unfold cmpI; rw [if_neg (by omega),if_neg (by omega)]
 ·rw [if_neg e]
theorem cmpF1 {x y:Nat} (h:x / 4294967296 / 4294967296=y / 4294967296 / 4294967296):zf (limbs x) (limbs y) 1=some (.int .i64 (cmpI x y)):=by
 unfold limbs
 rw [cmp_st1,cmpS h]
 by_cases e:x / 4294967296=y / 4294967296
 ·rw [if_pos e]; exact cmpF0 e
 ·rw [if_neg e,cmpE1 e]
theorem cmpF2 {x y:Nat} (h:x / 4294967296 / 4294967296 / 4294967296=y / 4294967296 / 4294967296 / 4294967296):zf (limbs x) (limbs y) 2=some (.int .i64 (cmpI x y)):=by
 unfold limbs
 rw [cmp_st2,cmpS h]
 by_cases e:x / 4294967296 / 4294967296=y / 4294967296 / 4294967296
 ·rw [if_pos e]; exact cmpF1 e
 ·rw [if_neg e,cmpE2 e]
theorem cmpF3 {x y:Nat} (h:x / 4294967296 / 4294967296 / 4294967296 / 4294967296=y / 4294967296 / 4294967296 / 4294967296 / 4294967296):zf (limbs x) (limbs y) 3=some (.int .i64 (cmpI x y)):=by
 unfold limbs
 rw [cmp_st3,cmpS h]
 by_cases e:x / 4294967296 / 4294967296 / 4294967296=y / 4294967296 / 4294967296 / 4294967296
 ·rw [if_pos e]; exact cmpF2 e
 ·rw [if_neg e,cmpE3 e]
theorem cmpF4 {x y:Nat} (h:x / 4294967296 / 4294967296 / 4294967296 / 4294967296 / 4294967296=y / 4294967296 / 4294967296 / 4294967296 / 4294967296 / 4294967296):zf (limbs x) (limbs y) 4=some (.int .i64 (cmpI x y)):=by
 unfold limbs
 rw [cmp_st4,cmpS h]
 by_cases e:x / 4294967296 / 4294967296 / 4294967296 / 4294967296=y / 4294967296 / 4294967296 / 4294967296 / 4294967296
 ·rw [if_pos e]; exact cmpF3 e
 ·rw [if_neg e,cmpE4 e]
theorem cmpF5 {x y:Nat} (h:x / 4294967296 / 4294967296 / 4294967296 / 4294967296 / 4294967296 / 4294967296=y / 4294967296 / 4294967296 / 4294967296 / 4294967296 / 4294967296 / 4294967296):zf (limbs x) (limbs y) 5=some (.int .i64 (cmpI x y)):=by
 unfold limbs
 rw [cmp_st5,cmpS h]
 by_cases e:x / 4294967296 / 4294967296 / 4294967296 / 4294967296 / 4294967296=y / 4294967296 / 4294967296 / 4294967296 / 4294967296 / 4294967296
 ·rw [if_pos e]; exact cmpF4 e
 ·rw [if_neg e,cmpE5 e]
theorem up6 {n:Nat} (h:n<6277101735386680763835789423207666416102355444464034512896):n / 4294967296 / 4294967296 / 4294967296 / 4294967296 / 4294967296 / 4294967296=0:=by
 rw [Nat.div_div_eq_div_mul,Nat.div_div_eq_div_mul,Nat.div_div_eq_div_mul,Nat.div_div_eq_div_mul,Nat.div_div_eq_div_mul]
 exact Nat.div_eq_of_lt h
theorem rcmp_s {x y:Nat} (hx:x<6277101735386680763835789423207666416102355444464034512896) (hy:y<6277101735386680763835789423207666416102355444464034512896) :
  z4i (limbs x) (limbs y)=some (.int .i64 (cmpI x y)):=by
 rw [ztf]
 exact cmpF5 (by rw [up6 hx,up6 hy])
theorem z13p {x:Nat} (hx:x<6277101735386680763835789423207666416102355444464034512896):z1m (limbs x)=some (.bool (decide (x=0))):=by
 rw [zpt,← zk9,rcmp_s hx (by omega)]
 simp only [oB,zl,eqB]
 congr 2
 unfold cmpI
 by_cases h:x=0
 ·subst h; rfl
 ·rw [if_neg (by omega),if_pos (by omega)]; simp [h]
theorem orHL {h l:Nat} (h1:h<4294967296) (h2:l<4294967296):orI .u64 (shlI .u64 (h:Int) 32) (l:Int)=((h*4294967296+l:Nat):Int):=by
 have e:shlI .u64 (h:Int) 32=((h*4294967296:Nat):Int):=by
  unfold shlI
  have:(min (32:Int).toNat IntKind.u64.bits)=32:=rfl
  rw [this,IntKind.wrap_u64]
  have h2:((2:Int) ^ 32)=4294967296:=by decide
  rw [h2]; omega
 rw [e]
 unfold orI
 have hb:IntKind.u64.bits=64:=rfl
 rw [hb]
 have e1:(BitVec.ofInt 64 ((h*4294967296:Nat):Int)).toNat=h*4294967296:=by rw [BitVec.toNat_ofInt]; omega
 have e2:(BitVec.ofInt 64 (l:Int)).toNat=l:=by rw [BitVec.toNat_ofInt]; omega
 rw [BitVec.toNat_or,e1,e2]
 have:=Nat.shiftLeft_add_eq_or_of_lt (b:=l) (i:=32) h2 h
 rw [Nat.shiftLeft_eq] at this
 rw [show h*4294967296=h*2 ^ 32 from rfl,← this,IntKind.wrap_u64]
 omega
theorem rOf_s {a:Int} (h:In64 a):z13 a=some (.agg [.bool (decide (a<0)),.sl 1 (limbs a.natAbs)]):=by
 rw [zw0]
 unfold In64 at h
 have fin:∀ n:Int,n=(a.natAbs:Int)→z74 a n false=some (.agg [.bool (decide (a<0)),.sl 1 (limbs a.natAbs)]):=by
  intro n hn
  subst hn
  rw [zns,shrN,andN (by omega)]
  unfold limbs
  rw [show a.natAbs / 4294967296 % 4294967296=a.natAbs / 4294967296 by omega,show a.natAbs / 4294967296 / 4294967296=0 by omega]
  rfl
 by_cases h0:a<0
 ·rw [c_ltT h0,fin _ (by rw [IntKind.wrap_u64,IntKind.wrap_u64]; omega)]
 ·rw [c_ltF h0,fin _ (by rw [IntKind.wrap_u64]; omega)]
theorem z13j (ng:Bool) (a0 a1 a2 a3 a4 a5:Int):zr 2 ng [.int .u64 a0,.int .u64 a1,.int .u64 a2,.int .u64 a3,.int .u64 a4,.int .u64 a5]=bif !(eqB a2 0) then some (.tuple [.int .i64 0,.int .i64 10]) else zr 3 ng [.int .u64 a0,.int .u64 a1,.int .u64 a2,.int .u64 a3,.int .u64 a4,.int .u64 a5]:=by
 rw [z27]; rfl
theorem z13i (ng:Bool) (a0 a1 a2 a3 a4 a5:Int):zr 3 ng [.int .u64 a0,.int .u64 a1,.int .u64 a2,.int .u64 a3,.int .u64 a4,.int .u64 a5]=bif !(eqB a3 0) then some (.tuple [.int .i64 0,.int .i64 10]) else zr 4 ng [.int .u64 a0,.int .u64 a1,.int .u64 a2,.int .u64 a3,.int .u64 a4,.int .u64 a5]:=by
 rw [z27]; rfl
theorem z13h (ng:Bool) (a0 a1 a2 a3 a4 a5:Int):zr 4 ng [.int .u64 a0,.int .u64 a1,.int .u64 a2,.int .u64 a3,.int .u64 a4,.int .u64 a5]=bif !(eqB a4 0) then some (.tuple [.int .i64 0,.int .i64 10]) else zr 5 ng [.int .u64 a0,.int .u64 a1,.int .u64 a2,.int .u64 a3,.int .u64 a4,.int .u64 a5]:=by
 rw [z27]; rfl
theorem z1cq (ng:Bool) (a0 a1 a2 a3 a4 a5:Int):zr 5 ng [.int .u64 a0,.int .u64 a1,.int .u64 a2,.int .u64 a3,.int .u64 a4,.int .u64 a5]=bif !(eqB a5 0) then some (.tuple [.int .i64 0,.int .i64 10]) else zr 6 ng [.int .u64 a0,.int .u64 a1,.int .u64 a2,.int .u64 a3,.int .u64 a4,.int .u64 a5]:=by
 rw [z27]; rfl
theorem small_end (ng:Bool) (a0 a1 a2 a3 a4 a5:Int):zr 6 ng [.int .u64 a0,.int .u64 a1,.int .u64 a2,.int .u64 a3,.int .u64 a4,.int .u64 a5]=bif ng then (bif leB (orI .u64 (shlI .u64 a1 32) a0) 9223372036854775808 then z7g (orI .u64 (shlI .u64 a1 32) a0) else z3c (orI .u64 (shlI .u64 a1 32) a0) ng [.int .u64 a0,.int .u64 a1,.int .u64 a2,.int .u64 a3,.int .u64 a4,.int .u64 a5]) else z3c (orI .u64 (shlI .u64 a1 32) a0) ng [.int .u64 a0,.int .u64 a1,.int .u64 a2,.int .u64 a3,.int .u64 a4,.int .u64 a5]:=by
 rw [z27]; rfl
theorem z1a4 (ng:Bool) {n:Nat} (hn:n<6277101735386680763835789423207666416102355444464034512896):z2d ng (limbs n)=some (limV (if ng then -(n:Int) else (n:Int))):=by
 rw [znr]
 by_cases hb:n<18446744073709551616
 ·have q2:n / 4294967296 / 4294967296=0:=by omega
  unfold limbs
  rw [q2]
  rw [z13j,c_not,c_eqT (by omega),z13i,c_not,c_eqT (by omega),z13h,c_not,c_eqT (by omega),z1cq,c_not,c_eqT (by omega),small_end,orHL (by omega) (by omega)]
  rw [show n / 4294967296 % 4294967296*4294967296+n % 4294967296=n by omega,zjq,zjp]
  cases ng with
  | true =>
   simp only [cond_true,if_true]
   by_cases hl:n≤9223372036854775808
   ·rw [c_leT (by omega),limV,if_pos (by unfold In64; omega),IntKind.wrap_u64,IntKind.wrap_i64]
    congr 4; omega
   ·rw [c_leF (by omega),limV,if_neg (by unfold In64; omega)]
  | false =>
   simp only [cond_false,Bool.false_eq_true,if_false]
   by_cases hl:9223372036854775808≤n
   ·rw [c_leT (by omega),limV,if_neg (by unfold In64; omega)]
   ·rw [c_leF (by omega),limV,if_pos (by unfold In64; omega),w64 (by omega) (by omega)]
 ·have no:limV (if ng then -(n:Int) else (n:Int))=.tuple [.int .i64 0,.int .i64 10]:=by
   rw [limV,if_neg (by unfold In64; cases ng <;> simp <;> omega)]
  rw [no]
  have hz:n / 4294967296 / 4294967296≠0:=by omega
  have h6:=up6 hn
  unfold limbs
  generalize n / 4294967296 / 4294967296=q at hz h6
  by_cases e2:q % 4294967296=0
  ·rw [z13j,c_not,c_eqT (by omega)]
   by_cases e3:q / 4294967296 % 4294967296=0
   ·rw [z13i,c_not,c_eqT (by omega)]
    by_cases e4:q / 4294967296 / 4294967296 % 4294967296=0
    ·rw [z13h,c_not,c_eqT (by omega),z1cq,c_not,c_eqF (by omega)]
    ·rw [z13h,c_not,c_eqF (by omega)]
   ·rw [z13i,c_not,c_eqF (by omega)]
  ·rw [z13j,c_not,c_eqF (by omega)]
end Dv

namespace Dv
open Go
theorem div_c4 (l m q:List PV) (i:Int) (z w:Nat) (a0 a1 a2 a3 a4 a5:Int) (h:leB 0 i=true):z1d l m i q z [.int .u64 a0,.int .u64 a1,.int .u64 a2,.int .u64 a3,.int .u64 a4,.int .u64 a5] w=z12 l m i q z [.int .u64 (andI .u64 (IntKind.u64.wrap (IntKind.u64.wrap (0+a0)+a0)) 4294967295),.int .u64 (andI .u64 (IntKind.u64.wrap (IntKind.u64.wrap ((shrI .u64 (IntKind.u64.wrap (IntKind.u64.wrap (0+a0)+a0)) 32)+a1)+a1)) 4294967295),.int .u64 (andI .u64 (IntKind.u64.wrap (IntKind.u64.wrap ((shrI .u64 (IntKind.u64.wrap (IntKind.u64.wrap ((shrI .u64 (IntKind.u64.wrap (IntKind.u64.wrap (0+a0)+a0)) 32)+a1)+a1)) 32)+a2)+a2)) 4294967295),.int .u64 (andI .u64 (IntKind.u64.wrap (IntKind.u64.wrap ((shrI .u64 (IntKind.u64.wrap (IntKind.u64.wrap ((shrI .u64 (IntKind.u64.wrap (IntKind.u64.wrap ((shrI .u64 (IntKind.u64.wrap (IntKind.u64.wrap (0+a0)+a0)) 32)+a1)+a1)) 32)+a2)+a2)) 32)+a3)+a3)) 4294967295),.int .u64 (andI .u64 (IntKind.u64.wrap (IntKind.u64.wrap ((shrI .u64 (IntKind.u64.wrap (IntKind.u64.wrap ((shrI .u64 (IntKind.u64.wrap (IntKind.u64.wrap ((shrI .u64 (IntKind.u64.wrap (IntKind.u64.wrap ((shrI .u64 (IntKind.u64.wrap (IntKind.u64.wrap (0+a0)+a0)) 32)+a1)+a1)) 32)+a2)+a2)) 32)+a3)+a3)) 32)+a4)+a4)) 4294967295),.int .u64 (andI .u64 (IntKind.u64.wrap (IntKind.u64.wrap ((shrI .u64 (IntKind.u64.wrap (IntKind.u64.wrap ((shrI .u64 (IntKind.u64.wrap (IntKind.u64.wrap ((shrI .u64 (IntKind.u64.wrap (IntKind.u64.wrap ((shrI .u64 (IntKind.u64.wrap (IntKind.u64.wrap ((shrI .u64 (IntKind.u64.wrap (IntKind.u64.wrap (0+a0)+a0)) 32)+a1)+a1)) 32)+a2)+a2)) 32)+a3)+a3)) 32)+a4)+a4)) 32)+a5)+a5)) 4294967295)] 6:=by
 rw [z94,h]; rfl
theorem div_c41 (l m q:List PV) (i:Int) (z:Nat) (a0 a1 a2 a3 a4 a5:Int) (h:leB 0 i=true):z1k l m [.int .u64 a0,.int .u64 a1,.int .u64 a2,.int .u64 a3,.int .u64 a4,.int .u64 a5] i q z=z12 l m i q z [.int .u64 (andI .u64 (IntKind.u64.wrap (IntKind.u64.wrap (0+a0)+a0)) 4294967295),.int .u64 (andI .u64 (IntKind.u64.wrap (IntKind.u64.wrap ((shrI .u64 (IntKind.u64.wrap (IntKind.u64.wrap (0+a0)+a0)) 32)+a1)+a1)) 4294967295),.int .u64 (andI .u64 (IntKind.u64.wrap (IntKind.u64.wrap ((shrI .u64 (IntKind.u64.wrap (IntKind.u64.wrap ((shrI .u64 (IntKind.u64.wrap (IntKind.u64.wrap (0+a0)+a0)) 32)+a1)+a1)) 32)+a2)+a2)) 4294967295),.int .u64 (andI .u64 (IntKind.u64.wrap (IntKind.u64.wrap ((shrI .u64 (IntKind.u64.wrap (IntKind.u64.wrap ((shrI .u64 (IntKind.u64.wrap (IntKind.u64.wrap ((shrI .u64 (IntKind.u64.wrap (IntKind.u64.wrap (0+a0)+a0)) 32)+a1)+a1)) 32)+a2)+a2)) 32)+a3)+a3)) 4294967295),.int .u64 (andI .u64 (IntKind.u64.wrap (IntKind.u64.wrap ((shrI .u64 (IntKind.u64.wrap (IntKind.u64.wrap ((shrI .u64 (IntKind.u64.wrap (IntKind.u64.wrap ((shrI .u64 (IntKind.u64.wrap (IntKind.u64.wrap ((shrI .u64 (IntKind.u64.wrap (IntKind.u64.wrap (0+a0)+a0)) 32)+a1)+a1)) 32)+a2)+a2)) 32)+a3)+a3)) 32)+a4)+a4)) 4294967295),.int .u64 (andI .u64 (IntKind.u64.wrap (IntKind.u64.wrap ((shrI .u64 (IntKind.u64.wrap (IntKind.u64.wrap ((shrI .u64 (IntKind.u64.wrap (IntKind.u64.wrap ((shrI .u64 (IntKind.u64.wrap (IntKind.u64.wrap ((shrI .u64 (IntKind.u64.wrap (IntKind.u64.wrap ((shrI .u64 (IntKind.u64.wrap (IntKind.u64.wrap (0+a0)+a0)) 32)+a1)+a1)) 32)+a2)+a2)) 32)+a3)+a3)) 32)+a4)+a4)) 32)+a5)+a5)) 4294967295)] 6:=by
 rw [z7s,h]; rfl
theorem dbl_c4 (l m q:List PV) (i:Int) (z w r:Nat) (h:leB 0 i=true):z1d l m i q z (limbs r) w=z12 l m i q z (limbs (2*r)) 6:=by
 obtain ⟨c1,g1,h1,e1,f1⟩:=addS (c:=0) (x:=r) (y:=r) (s:=2*r) (by omega) (by omega)
 obtain ⟨c2,g2,h2,e2,f2⟩:=addS g1 h1
 obtain ⟨c3,g3,h3,e3,f3⟩:=addS g2 h2
 obtain ⟨c4,g4,h4,e4,f4⟩:=addS g3 h3
 obtain ⟨c5,g5,h5,e5,f5⟩:=addS g4 h4
 obtain ⟨c6,g6,h6,e6,f6⟩:=addS g5 h5
 have z0:((0:Nat):Int)=0:=rfl
 rw [z0] at e1 f1
 unfold limbs
 rw [div_c4 l m q i z w _ _ _ _ _ _ h]
 rw [e1,f1]
 rw [e2,f2]
 rw [e3,f3]
 rw [e4,f4]
 rw [e5,f5]
 rw [f6]
theorem dbl_c41 (l m q:List PV) (i:Int) (z r:Nat) (h:leB 0 i=true):z1k l m (limbs r) i q z=z12 l m i q z (limbs (2*r)) 6:=by
 obtain ⟨c1,g1,h1,e1,f1⟩:=addS (c:=0) (x:=r) (y:=r) (s:=2*r) (by omega) (by omega)
 obtain ⟨c2,g2,h2,e2,f2⟩:=addS g1 h1
 obtain ⟨c3,g3,h3,e3,f3⟩:=addS g2 h2
 obtain ⟨c4,g4,h4,e4,f4⟩:=addS g3 h3
 obtain ⟨c5,g5,h5,e5,f5⟩:=addS g4 h4
 obtain ⟨c6,g6,h6,e6,f6⟩:=addS g5 h5
 have z0:((0:Nat):Int)=0:=rfl
 rw [z0] at e1 f1
 unfold limbs
 rw [div_c41 l m q i z _ _ _ _ _ _ h]
 rw [e1,f1]
 rw [e2,f2]
 rw [e3,f3]
 rw [e4,f4]
 rw [e5,f5]
 rw [f6]
theorem and1 {n:Nat} (h:n<18446744073709551616):andI .u64 (n:Int) 1=((n % 2:Nat):Int):=by
 unfold andI
 have hb:IntKind.u64.bits=64:=rfl
 rw [hb,BitVec.toNat_and]
 have e1:(BitVec.ofInt 64 (n:Int)).toNat=n:=by rw [BitVec.toNat_ofInt]; omega
 have e2:(BitVec.ofInt 64 1).toNat=1:=by decide
 rw [e1,e2,Nat.and_one_is_mod,IntKind.wrap_u64]
 omega
theorem shrM {n m:Nat} (hm:m<32):shrI .u64 (n:Int) (m:Int)=((n / 2 ^ m:Nat):Int):=by
 unfold shrI
 have:min (m:Int).toNat IntKind.u64.bits=m:=by have:IntKind.u64.bits=64:=rfl; omega
 rw [this,Int.fdiv_eq_ediv_of_nonneg _ (Int.pow_nonneg (by omega)),Int.natCast_ediv,Int.natCast_pow]
 rfl
theorem bit_s {a m:Nat} (hm:m<32):andI .u64 (shrI .u64 ((a % 4294967296:Nat):Int) (m:Int)) 1=((a / 2 ^ m % 2:Nat):Int):=by
 have hle:a % 4294967296 / 2 ^ m≤a % 4294967296:=Nat.div_le_self _ _
 rw [shrM hm,and1 (by omega)]
 congr 1
 have e:(4294967296:Nat)=2 ^ m*2 ^ (32-m):=by
  rw [← Nat.pow_add,show m+(32-m)=32 by omega]
 rw [e,Nat.mod_mul_right_div_self]
 exact Nat.mod_mod_of_dvd _ ⟨2 ^ (32-m-1),by rw [← Nat.pow_succ']; congr 1; omega⟩
theorem orE {r c:Nat} (h:r % 2=0) (hr:r<18446744073709551616) (hc:c<2):orI .u64 (r:Int) (c:Int)=((r+c:Nat):Int):=by
 unfold orI
 have hb:IntKind.u64.bits=64:=rfl
 rw [hb,BitVec.toNat_or]
 have e1:(BitVec.ofInt 64 (r:Int)).toNat=r:=by rw [BitVec.toNat_ofInt]; omega
 have e2:(BitVec.ofInt 64 (c:Int)).toNat=c:=by rw [BitVec.toNat_ofInt]; omega
 rw [e1,e2]
 have:=Nat.shiftLeft_add_eq_or_of_lt (b:=c) (i:=1) (by omega) (r / 2)
 rw [Nat.shiftLeft_eq,show r / 2*2 ^ 1=r by omega] at this
 rw [← this,IntKind.wrap_u64]; omega
theorem orP {p m k:Nat} (hm:m<32) (h:p=2 ^ (m+1)*k):orI .u64 ((p % 4294967296:Nat):Int) (shlI .u64 1 (m:Int))=((p % 4294967296+2 ^ m:Nat):Int)∧p % 4294967296+2 ^ m<4294967296:=by
 have h2:2 ^ m<4294967296:=Nat.pow_lt_pow_of_lt (a:=2) (by omega) hm
 have es:shlI .u64 1 (m:Int)=((2 ^ m:Nat):Int):=by
  unfold shlI
  have:min (m:Int).toNat IntKind.u64.bits=m:=by have:IntKind.u64.bits=64:=rfl; omega
  have e3:((2:Int) ^ m)=((2 ^ m:Nat):Int):=by rw [Int.natCast_pow]; rfl
  rw [this,IntKind.wrap_u64,Int.one_mul,e3]
  generalize 2 ^ m=t at h2
  omega
 have e:(4294967296:Nat)=2 ^ (m+1)*2 ^ (31-m):=by
  rw [← Nat.pow_add,show m+1+(31-m)=32 by omega]
 have ep:p % 4294967296=2 ^ (m+1)*(k % 2 ^ (31-m)):=by rw [h,e,Nat.mul_mod_mul_left]
 have hp:p % 4294967296<4294967296:=Nat.mod_lt _ (by omega)
 have lt:p % 4294967296+2 ^ m<4294967296:=by
  have hk:k % 2 ^ (31-m)+1≤2 ^ (31-m):=Nat.mod_lt _ (Nat.pow_pos (by omega))
  have:=Nat.mul_le_mul_left (2 ^ (m+1)) hk
  rw [← e,Nat.mul_add,← ep,Nat.mul_one,Nat.pow_succ] at this
  have hpos:0<2 ^ m:=Nat.pow_pos (by omega)
  omega
 refine ⟨?_,lt⟩
 rw [es]
 unfold orI
 have hb:IntKind.u64.bits=64:=rfl
 rw [hb,BitVec.toNat_or]
 have e1:(BitVec.ofInt 64 ((p % 4294967296:Nat):Int)).toNat=p % 4294967296:=by rw [BitVec.toNat_ofInt]; omega
 have e2:(BitVec.ofInt 64 ((2 ^ m:Nat):Int)).toNat=2 ^ m:=by
  rw [BitVec.toNat_ofInt]
  generalize 2 ^ m=t at h2
  omega
 rw [e1,e2]
 have:=Nat.shiftLeft_add_eq_or_of_lt (b:=2 ^ m) (i:=m+1) (Nat.pow_lt_pow_of_lt (by omega) (by omega)) (k % 2 ^ (31-m))
 rw [Nat.shiftLeft_eq,Nat.mul_comm,← ep] at this
 rw [← this,IntKind.wrap_u64]; omega
theorem limb_at (a j:Nat) (hj:j<6):rdT (tiInt .u64) (limbs a) j 0=some (.int .u64 ((a / 4294967296 ^ j % 4294967296:Nat):Int)):=by
 match j,hj with
 | 0,_=>rw [Nat.pow_zero,Nat.div_one]; rfl
 | 1,_=>rw [Nat.pow_one]; rfl
 | 2,_=>rw [show 4294967296 ^ 2=4294967296*4294967296 by decide,← Nat.div_div_eq_div_mul]; rfl
 | 3,_=>rw [show 4294967296 ^ 3=4294967296*4294967296*4294967296 by decide,← Nat.div_div_eq_div_mul,← Nat.div_div_eq_div_mul]; rfl
 | 4,_=>rw [show 4294967296 ^ 4=4294967296*4294967296*4294967296*4294967296 by decide,← Nat.div_div_eq_div_mul,← Nat.div_div_eq_div_mul,← Nat.div_div_eq_div_mul]; rfl
 | 5,_=>rw [show 4294967296 ^ 5=4294967296*4294967296*4294967296*4294967296*4294967296 by decide,← Nat.div_div_eq_div_mul,← Nat.div_div_eq_div_mul,← Nat.div_div_eq_div_mul,← Nat.div_div_eq_div_mul]; rfl
theorem z1iv (p e j:Nat) (hj:j<6) (h:p % 4294967296+e<4294967296):stC (limbs (p*4294967296 ^ j)) j 0 [.int .u64 ((p % 4294967296+e:Nat):Int)]=some (limbs ((p+e)*4294967296 ^ j)):=by
 have h1:(p+e) % 4294967296=p % 4294967296+e:=by omega
 have h2:(p+e) / 4294967296=p / 4294967296:=by omega
 have hB:0<4294967296:=by omega
 match j,hj with
 | 0,_ =>
  rw [Nat.pow_zero,Nat.mul_one,Nat.mul_one]
  unfold limbs; rw [h1,h2]; rfl
 | 1,_ =>
  rw [Nat.pow_one]
  unfold limbs; simp only [Nat.mul_div_cancel _ hB,Nat.mul_mod_left,h1,h2]; rfl
 | 2,_ =>
  rw [show p*4294967296 ^ 2=p*4294967296*4294967296 by rw [show 4294967296 ^ 2=4294967296*4294967296 by decide]; simp only [Nat.mul_assoc],show (p+e)*4294967296 ^ 2=(p+e)*4294967296*4294967296 by rw [show 4294967296 ^ 2=4294967296*4294967296 by decide]; simp only [Nat.mul_assoc]]
  unfold limbs; simp only [Nat.mul_div_cancel _ hB,Nat.mul_mod_left,h1,h2]; rfl
 | 3,_ =>
  rw [show p*4294967296 ^ 3=p*4294967296*4294967296*4294967296 by rw [show 4294967296 ^ 3=4294967296*4294967296*4294967296 by decide]; simp only [Nat.mul_assoc],show (p+e)*4294967296 ^ 3=(p+e)*4294967296*4294967296*4294967296 by rw [show 4294967296 ^ 3=4294967296*4294967296*4294967296 by decide]; simp only [Nat.mul_assoc]]
  unfold limbs; simp only [Nat.mul_div_cancel _ hB,Nat.mul_mod_left,h1,h2]; rfl
 | 4,_ =>
  rw [show p*4294967296 ^ 4=p*4294967296*4294967296*4294967296*4294967296 by rw [show 4294967296 ^ 4=4294967296*4294967296*4294967296*4294967296 by decide]; simp only [Nat.mul_assoc],show (p+e)*4294967296 ^ 4=(p+e)*4294967296*4294967296*4294967296*4294967296 by rw [show 4294967296 ^ 4=4294967296*4294967296*4294967296*4294967296 by decide]; simp only [Nat.mul_assoc]]
  unfold limbs; simp only [Nat.mul_div_cancel _ hB,Nat.mul_mod_left,h1,h2]; rfl
 | 5,_ =>
  rw [show p*4294967296 ^ 5=p*4294967296*4294967296*4294967296*4294967296*4294967296 by rw [show 4294967296 ^ 5=4294967296*4294967296*4294967296*4294967296*4294967296 by decide]; simp only [Nat.mul_assoc],show (p+e)*4294967296 ^ 5=(p+e)*4294967296*4294967296*4294967296*4294967296*4294967296 by rw [show 4294967296 ^ 5=4294967296*4294967296*4294967296*4294967296*4294967296 by decide]; simp only [Nat.mul_assoc]]
  unfold limbs; simp only [Nat.mul_div_cancel _ hB,Nat.mul_mod_left,h1,h2]; rfl
theorem limb_low (r c:Nat) (h:r % 2=0) (hc:c<2):stC (limbs r) 0 0 [.int .u64 ((r % 4294967296+c:Nat):Int)]=some (limbs (r+c)):=by
 have:=z1iv r c 0 (by omega) (by omega)
 rw [Nat.pow_zero,Nat.mul_one,Nat.mul_one] at this
 exact this
theorem z1dt (n:Nat):((limbs n).length:Int)=6:=rfl
theorem div_turn {a b r q j m k:Nat} (z w:Nat) (hj:j<6) (hm:m<32) (hr:r % 2=0) (hr2:r<3138550867693340381917894711603833208051177722232017256446) (hb:b<6277101735386680763835789423207666416102355444464034512896)
  (hq:q=2 ^ (m+1)*k*4294967296 ^ j) :
  z12 (limbs a) (limbs b) ((32*j+m:Nat):Int) (limbs q) z (limbs r) w =
   if b≤r+a / 2 ^ (32*j+m) % 2 then z1k (limbs a) (limbs b) (limbs (r+a / 2 ^ (32*j+m) % 2-b)) (((32*j+m:Nat):Int)-1) (limbs (q+2 ^ (32*j+m))) z
   else z1d (limbs a) (limbs b) (((32*j+m:Nat):Int)-1) (limbs q) z (limbs (r+a / 2 ^ (32*j+m) % 2)) w:=by
 have i1:IntKind.i64.wrap (Int.tdiv ((32*j+m:Nat):Int) 32)=(j:Int):=by rw [z3w (by omega),w64 (by omega) (by omega)]; omega
 have i2:IntKind.u64.wrap (Int.tmod ((32*j+m:Nat):Int) 32)=(m:Int):=by rw [z61 (by omega),wu64 (by omega) (by omega)]; omega
 have ab:a / 4294967296 ^ j / 2 ^ m=a / 2 ^ (32*j+m):=by
  rw [Nat.div_div_eq_div_mul,show (4294967296:Nat)=2 ^ 32 by decide,← Nat.pow_mul,← Nat.pow_add]
 have hbit:a / 2 ^ (32*j+m) % 2<2:=Nat.mod_lt _ (by omega)
 rw [zib,i1,i2,z1dt,c_inT (by omega)]
 have r0:rdT (tiInt .u64) (limbs r) 0 0=some (.int .u64 ((r % 4294967296:Nat):Int)):=rfl
 rw [r0,rdI_n,limb_at a j hj]
 simp only [oB,zl]
 rw [c_ltF (by omega),c_inT (by omega),bit_s hm,ab,orE (by omega) (by omega) hbit,limb_low r _ hr hbit]
 simp only [oB]
 rw [rcmp_s (by omega) hb]
 simp only [oB,zl]
 generalize a / 2 ^ (32*j+m) % 2=c at hbit
 by_cases hc:b≤r+c
 ·have:(0:Int)≤cmpI (r+c) b:=by
   unfold cmpI; rw [if_neg (by omega)]; split <;> omega
  rw [c_leT this,if_pos hc,z1g0 hc]
  simp only [oB,zam]
  rw [z1dt,c_inT (by omega),Int.toNat_natCast,limb_at q j hj]
  simp only [oB,zl]
  rw [c_ltF (by omega),c_inT (by omega)]
  have hqd:q / 4294967296 ^ j=2 ^ (m+1)*k:=by rw [hq,Nat.mul_div_cancel _ (Nat.pow_pos (by omega))]
  obtain ⟨o1,o2⟩:=orP (p:=2 ^ (m+1)*k) hm rfl
  rw [hqd,o1]
  have:=z1iv (2 ^ (m+1)*k) (2 ^ m) j hj o2
  rw [← hq] at this
  rw [this]
  simp only [oB]
  have e:(2 ^ (m+1)*k+2 ^ m)*4294967296 ^ j=q+2 ^ (32*j+m):=by
   rw [Nat.add_mul,← hq,show (4294967296:Nat)=2 ^ 32 by decide,← Nat.pow_mul,← Nat.pow_add,Nat.add_comm m]
  rw [e,w64 (by omega) (by omega)]
 ·have:¬ (0:Int)≤cmpI (r+c) b:=by
   unfold cmpI; rw [if_pos (by omega)]; omega
  rw [c_leF this,if_neg hc,w64 (by omega) (by omega)]
theorem div_math {A b c:Nat} (hb:0<b) (hc:c<2) :
  (b≤2*(A % b)+c→(2*A+c) / b=2*(A / b)+1∧(2*A+c) % b=2*(A % b)+c-b)∧(¬ b≤2*(A % b)+c→(2*A+c) / b=2*(A / b)∧(2*A+c) % b=2*(A % b)+c):=by
 have h1:=Nat.div_add_mod A b
 have h2:=Nat.mod_lt A hb
 generalize A / b=Q at h1
 generalize A % b=R at h1 h2
 subst h1
 constructor
 ·intro h
  have e:2*(b*Q+R)+c=(2*R+c-b)+b*(2*Q+1):=by
   rw [Nat.mul_add b,Nat.mul_one,show b*(2*Q)=2*(b*Q) by rw [Nat.mul_left_comm]]; omega
  rw [e,Nat.add_mul_div_left _ _ hb,Nat.add_mul_mod_self_left,Nat.div_eq_of_lt (by omega),Nat.mod_eq_of_lt (by omega)]
  omega
 ·intro h
  have e:2*(b*Q+R)+c=(2*R+c)+b*(2*Q):=by
   rw [show b*(2*Q)=2*(b*Q) by rw [Nat.mul_left_comm]]; omega
  rw [e,Nat.add_mul_div_left _ _ hb,Nat.add_mul_mod_self_left,Nat.div_eq_of_lt (by omega),Nat.mod_eq_of_lt (by omega)]
  omega
theorem z1jh {a b:Nat} (hb:0<b) (hb2:b<1000000000000000000000000000000000000000000000000000000000):∀ (n:Nat),n≤192 →
  (∀ z w,z1d (limbs a) (limbs b) ((n:Int)-1) (limbs (2 ^ n*(a / 2 ^ n / b))) z (limbs (a / 2 ^ n % b)) w=some (.tuple [.sl 1 (limbs (a / b)),.sl 1 (limbs (a % b))])) ∧
  (∀ z,z1k (limbs a) (limbs b) (limbs (a / 2 ^ n % b)) ((n:Int)-1) (limbs (2 ^ n*(a / 2 ^ n / b))) z=some (.tuple [.sl 1 (limbs (a / b)),.sl 1 (limbs (a % b))]))
 | 0,_=>by
  simp only [Nat.pow_zero,Nat.div_one,Nat.one_mul]
  constructor
  ·intro z w; rw [z94]; rfl
  ·intro z; rw [z7s]; rfl
 | n+1,hn=>by
  have ih:=z1jh (a:=a) hb hb2 n (by omega)
  have e0:((n+1:Nat):Int)-1=(n:Int):=by omega
  have hl:leB 0 (n:Int)=true:=decide_eq_true (by omega)
  have hA:a / 2 ^ n=2*(a / 2 ^ (n+1))+a / 2 ^ n % 2:=by
   have:a / 2 ^ (n+1)=a / 2 ^ n / 2:=by rw [Nat.pow_succ,Nat.div_div_eq_div_mul]
   omega
  have hR:=Nat.mod_lt (a / 2 ^ (n+1)) hb
  have hbit:a / 2 ^ n % 2<2:=Nat.mod_lt _ (by omega)
  obtain ⟨m1,m2⟩:=div_math (A:=a / 2 ^ (n+1)) hb hbit
  rw [← hA] at m1 m2
  have turn:∀ z w,z12 (limbs a) (limbs b) (n:Int) (limbs (2 ^ (n+1)*(a / 2 ^ (n+1) / b))) z (limbs (2*(a / 2 ^ (n+1) % b))) w=some (.tuple [.sl 1 (limbs (a / b)),.sl 1 (limbs (a % b))]):=by
   intro z w
   have hn2:32*(n / 32)+n % 32=n:=by omega
   have:=div_turn (a:=a) (b:=b) (r:=2*(a / 2 ^ (n+1) % b)) (q:=2 ^ (n+1)*(a / 2 ^ (n+1) / b)) (j:=n / 32) (m:=n % 32) (k:=a / 2 ^ (n+1) / b) z w (by omega) (by omega) (by omega) (by omega) (by omega)
    (by
     rw [Nat.mul_right_comm]
     congr 1
     rw [show (4294967296:Nat)=2 ^ 32 by decide,← Nat.pow_mul,← Nat.pow_add]
     congr 1; omega)
   rw [hn2] at this
   rw [this]
   by_cases hc:b≤2*(a / 2 ^ (n+1) % b)+a / 2 ^ n % 2
   ·obtain ⟨q1,q2⟩:=m1 hc
    rw [if_pos hc,← q2]
    have:2 ^ (n+1)*(a / 2 ^ (n+1) / b)+2 ^ n=2 ^ n*(a / 2 ^ n / b):=by
     rw [q1,Nat.mul_add,Nat.mul_one,Nat.pow_succ,Nat.mul_assoc]
    rw [this]
    exact ih.2 z
   ·obtain ⟨q1,q2⟩:=m2 hc
    rw [if_neg hc,← q2]
    have:2 ^ (n+1)*(a / 2 ^ (n+1) / b)=2 ^ n*(a / 2 ^ n / b):=by
     rw [q1,Nat.pow_succ,Nat.mul_assoc]
    rw [this]
    exact ih.1 z w
  constructor
  ·intro z w
   rw [e0,dbl_c4 _ _ _ _ _ _ _ hl]
   exact turn z 6
  ·intro z
   rw [e0,dbl_c41 _ _ _ _ _ _ hl]
   exact turn z 6
theorem rdivide_s {a b:Nat} (ha:a<6277101735386680763835789423207666416102355444464034512896) (hb:0<b) (hb2:b<1000000000000000000000000000000000000000000000000000000000) :
  z9c (limbs a) (limbs b)=some (.tuple [.sl 1 (limbs (a / b)),.sl 1 (limbs (a % b))]):=by
 rw [zmd]
 have h:=(z1jh (a:=a) hb hb2 192 (by omega)).1 6 6
 have e:a / 2 ^ 192=0:=Nat.div_eq_of_lt (by rw [show (2:Nat) ^ 192=6277101735386680763835789423207666416102355444464034512896 by decide]; exact ha)
 rw [e,Nat.zero_div,Nat.zero_mod,Nat.mul_zero,zk9] at h
 exact h
end Dv

namespace Dv
open Go
def wI (v:Int):PV:=.agg [.bool (decide (v<0)),.sl 1 (limbs v.natAbs)]
theorem ofI_s {a:Int} (h:In64 a):z13 a=some (wI a):=rOf_s h
theorem plus_s {a b:Int} (ha:a.natAbs<1000000000000000000000000000000000000000000000000000000000) (hb:b.natAbs<1000000000000000000000000000000000000000000000000000000000) :
  z7t (decide (a<0)) (limbs a.natAbs) (decide (b<0)) (limbs b.natAbs)=some (wI (a+b)):=by
 have fin:∀ (g:Bool) (n:Nat) (v:Int),g=decide (v<0)→n=v.natAbs→some (PV.agg [.bool g,.sl 1 (limbs n)])=some (wI v):=by
  intro g n v h1 h2; subst h1; subst h2; rfl
 rw [zpv]
 by_cases hs:decide (a<0)=decide (b<0)
 ·rw [hs,beq_self_eq_true,cond_true,z1i7]
  simp only [oB,zam]
  have hd:=decide_eq_decide.mp hs
  apply fin
  ·rw [decide_eq_decide]; omega
  ·omega
 ·have hf:(decide (a<0) == decide (b<0))=false:=by simpa using hs
  have hd:¬ (a<0↔b<0):=fun e=>hs (decide_eq_decide.mpr e)
  rw [hf,cond_false,rcmp_s (by omega) (by omega)]
  simp only [oB,zl]
  by_cases hc:b.natAbs≤a.natAbs
  ·have h0:(0:Int)≤cmpI a.natAbs b.natAbs:=by unfold cmpI; rw [if_neg (by omega)]; split <;> omega
   rw [c_leT h0,z1g0 hc]
   simp only [oB,zam]
   by_cases hn:a<0
   ·rw [decide_eq_true hn,cond_true]
    apply fin
    ·unfold ltB; rw [decide_eq_decide]; unfold cmpI; rw [if_neg (by omega)]; split <;> omega
    ·omega
   ·rw [decide_eq_false hn,cond_false]
    apply fin
    ·symm; rw [decide_eq_false_iff_not]; omega
    ·omega
  ·have h0:¬ (0:Int)≤cmpI a.natAbs b.natAbs:=by unfold cmpI; rw [if_pos (by omega)]; omega
   rw [c_leF h0,z1g0 (by omega)]
   simp only [oB,zam]
   apply fin
   ·rw [decide_eq_decide]; omega
   ·omega
theorem minus_s {a:Int} (ha:a.natAbs<1000000000000000000000000000000000000000000000000000000000):zaj (decide (a<0)) (limbs a.natAbs)=some (wI (-a)):=by
 rw [znt,c_not]
 have e:(-a).natAbs=a.natAbs:=by omega
 by_cases hn:a<0
 ·rw [decide_eq_true hn,cond_true]
  unfold wI
  rw [e,decide_eq_false (by omega)]
 ·rw [decide_eq_false hn,cond_false,z13p (by omega)]
  simp only [oB,ze]
  unfold wI
  rw [e,← decide_not]
  congr 4
  rw [decide_eq_decide]; omega
theorem over_s {a b:Int} (ha:a.natAbs<1000000000000000000000000000000000000000000000000000000000) (hb:0<b) (hb2:b<1000000000000000000000000000000000000000000000000000000000) :
  z7u (decide (a<0)) (limbs a.natAbs) (decide (b<0)) (limbs b.natAbs)=some (wI (a / b)):=by
 rw [zpw,rdivide_s (by omega) (by omega) (by omega),decide_eq_false (show ¬ b<0 by omega)]
 simp only [oB,tn0,tn1,zam]
 obtain ⟨k,rfl⟩:=Int.eq_ofNat_of_zero_le (show 0≤b by omega)
 rw [Int.natAbs_natCast]
 have hk:0<k:=by omega
 have hqle:a.natAbs / k≤a.natAbs:=Nat.div_le_self _ _
 have hrlt:a.natAbs % k<k:=Nat.mod_lt _ hk
 have hdm:=Nat.div_add_mod a.natAbs k
 by_cases hn:a<0
 ·rw [decide_eq_true hn]
  have tf:(true == false)=false:=rfl
  simp only [tf,Bool.not_false,cond_true]
  rw [z13p (by omega)]
  simp only [oB,ze]
  generalize hq:a.natAbs / k=q at *
  generalize hr:a.natAbs % k=r at *
  have hkq:((k*q:Nat):Int)=(k:Int)*(q:Int):=Int.natCast_mul _ _
  by_cases hz:r=0
  ·rw [decide_eq_true hz,Bool.not_true,cond_false,z13p (by omega)]
   simp only [oB,ze]
   have hv:a / (k:Int)=-(q:Int):=by
    have:a=(k:Int)*(-(q:Int)):=by rw [Int.mul_neg,← hkq]; omega
    rw [this,Int.mul_ediv_cancel_left _ (by omega)]
   unfold wI
   rw [hv,← decide_not,Int.natAbs_neg,Int.natAbs_natCast]
   congr 4
   rw [decide_eq_decide]; omega
  ·rw [decide_eq_false hz,Bool.not_false,cond_true,zky,ofI_s (by unfold In64; omega)]
   simp only [oB]
   rw [show (wI 1).nth 1=.sl 1 (limbs 1) from rfl,zam,z1i7]
   simp only [oB,zam,tf,Bool.not_false,cond_true]
   rw [z13p (by omega)]
   simp only [oB,ze]
   have hv:a / (k:Int)=-((q+1:Nat):Int):=by
    have h2:a=((k:Int)-r)+(k:Int)*(-((q+1:Nat):Int)):=by
     rw [Int.mul_neg,show (k:Int)*((q+1:Nat):Int)=((k*q:Nat):Int)+k by rw [hkq,Int.natCast_add,Int.mul_add]; omega]; omega
    rw [h2,Int.add_mul_ediv_left _ _ (by omega),Int.ediv_eq_zero_of_lt (by omega) (by omega)]; omega
   unfold wI
   rw [hv,← decide_not,Int.natAbs_neg,Int.natAbs_natCast]
   congr 4
   rw [decide_eq_decide]; omega
 ·rw [decide_eq_false hn]
  have ff:(false == false)=true:=rfl
  simp only [ff,Bool.not_true,cond_false]
  have hv:a / (k:Int)=((a.natAbs / k:Nat):Int):=by
   obtain ⟨m,rfl⟩:=Int.eq_ofNat_of_zero_le (show 0≤a by omega)
   rw [Int.natAbs_natCast,Int.natCast_ediv]
  unfold wI
  rw [hv,Int.natAbs_natCast,decide_eq_false (show ¬ ((a.natAbs / k:Nat):Int)<0 from by have:=Int.natCast_nonneg (a.natAbs / k); omega)]
theorem z1kh (c:Int) (a0 a1 a2 a3 a4 a5:Int) (b0 b1 b2 b3 b4 b5:Int) (o0 o1 o2 o3 o4 o5:Int) (p q s:Bool) (t:List PV) (z w:Nat):z10 0 c 0 p [.int .u64 a0,.int .u64 a1,.int .u64 a2,.int .u64 a3,.int .u64 a4,.int .u64 a5] q [.int .u64 b0,.int .u64 b1,.int .u64 b2,.int .u64 b3,.int .u64 b4,.int .u64 b5] s t z [.int .u64 o0,.int .u64 o1,.int .u64 o2,.int .u64 o3,.int .u64 o4,.int .u64 o5] w=z10 0 (shrI .u64 (IntKind.u64.wrap (c+IntKind.u64.wrap (a0*b0))) 32) 1 p [.int .u64 a0,.int .u64 a1,.int .u64 a2,.int .u64 a3,.int .u64 a4,.int .u64 a5] q [.int .u64 b0,.int .u64 b1,.int .u64 b2,.int .u64 b3,.int .u64 b4,.int .u64 b5] s t z [.int .u64 (andI .u64 (IntKind.u64.wrap (c+IntKind.u64.wrap (a0*b0))) 4294967295),.int .u64 o1,.int .u64 o2,.int .u64 o3,.int .u64 o4,.int .u64 o5] w:=by
 rw [z3l]; rfl
theorem z1kg (c:Int) (a0 a1 a2 a3 a4 a5:Int) (b0 b1 b2 b3 b4 b5:Int) (o0 o1 o2 o3 o4 o5:Int) (p q s:Bool) (t:List PV) (z w:Nat):z10 0 c 1 p [.int .u64 a0,.int .u64 a1,.int .u64 a2,.int .u64 a3,.int .u64 a4,.int .u64 a5] q [.int .u64 b0,.int .u64 b1,.int .u64 b2,.int .u64 b3,.int .u64 b4,.int .u64 b5] s t z [.int .u64 o0,.int .u64 o1,.int .u64 o2,.int .u64 o3,.int .u64 o4,.int .u64 o5] w=z10 0 (shrI .u64 (IntKind.u64.wrap (c+IntKind.u64.wrap (a0*b1))) 32) 2 p [.int .u64 a0,.int .u64 a1,.int .u64 a2,.int .u64 a3,.int .u64 a4,.int .u64 a5] q [.int .u64 b0,.int .u64 b1,.int .u64 b2,.int .u64 b3,.int .u64 b4,.int .u64 b5] s t z [.int .u64 o0,.int .u64 (andI .u64 (IntKind.u64.wrap (c+IntKind.u64.wrap (a0*b1))) 4294967295),.int .u64 o2,.int .u64 o3,.int .u64 o4,.int .u64 o5] w:=by
 rw [z3l]; rfl
theorem z1kf (c:Int) (a0 a1 a2 a3 a4 a5:Int) (b0 b1 b2 b3 b4 b5:Int) (o0 o1 o2 o3 o4 o5:Int) (p q s:Bool) (t:List PV) (z w:Nat):z10 0 c 2 p [.int .u64 a0,.int .u64 a1,.int .u64 a2,.int .u64 a3,.int .u64 a4,.int .u64 a5] q [.int .u64 b0,.int .u64 b1,.int .u64 b2,.int .u64 b3,.int .u64 b4,.int .u64 b5] s t z [.int .u64 o0,.int .u64 o1,.int .u64 o2,.int .u64 o3,.int .u64 o4,.int .u64 o5] w=z10 0 (shrI .u64 (IntKind.u64.wrap (c+IntKind.u64.wrap (a0*b2))) 32) 3 p [.int .u64 a0,.int .u64 a1,.int .u64 a2,.int .u64 a3,.int .u64 a4,.int .u64 a5] q [.int .u64 b0,.int .u64 b1,.int .u64 b2,.int .u64 b3,.int .u64 b4,.int .u64 b5] s t z [.int .u64 o0,.int .u64 o1,.int .u64 (andI .u64 (IntKind.u64.wrap (c+IntKind.u64.wrap (a0*b2))) 4294967295),.int .u64 o3,.int .u64 o4,.int .u64 o5] w:=by
 rw [z3l]; rfl
theorem z1ke (c:Int) (a0 a1 a2 a3 a4 a5:Int) (b0 b1 b2 b3 b4 b5:Int) (o0 o1 o2 o3 o4 o5:Int) (p q s:Bool) (t:List PV) (w:Nat):zv t 1 c 0 p [.int .u64 a0,.int .u64 a1,.int .u64 a2,.int .u64 a3,.int .u64 a4,.int .u64 a5] q [.int .u64 b0,.int .u64 b1,.int .u64 b2,.int .u64 b3,.int .u64 b4,.int .u64 b5] s [.int .u64 o0,.int .u64 o1,.int .u64 o2,.int .u64 o3,.int .u64 o4,.int .u64 o5] w=zv t 1 (shrI .u64 (IntKind.u64.wrap (c+IntKind.u64.wrap (a1*b0))) 32) 1 p [.int .u64 a0,.int .u64 a1,.int .u64 a2,.int .u64 a3,.int .u64 a4,.int .u64 a5] q [.int .u64 b0,.int .u64 b1,.int .u64 b2,.int .u64 b3,.int .u64 b4,.int .u64 b5] s [.int .u64 o0,.int .u64 (andI .u64 (IntKind.u64.wrap (c+IntKind.u64.wrap (a1*b0))) 4294967295),.int .u64 o2,.int .u64 o3,.int .u64 o4,.int .u64 o5] w:=by
 rw [z2v]; rfl
theorem z1kd (c:Int) (a0 a1 a2 a3 a4 a5:Int) (b0 b1 b2 b3 b4 b5:Int) (o0 o1 o2 o3 o4 o5:Int) (p q s:Bool) (t:List PV) (w:Nat):zv t 1 c 1 p [.int .u64 a0,.int .u64 a1,.int .u64 a2,.int .u64 a3,.int .u64 a4,.int .u64 a5] q [.int .u64 b0,.int .u64 b1,.int .u64 b2,.int .u64 b3,.int .u64 b4,.int .u64 b5] s [.int .u64 o0,.int .u64 o1,.int .u64 o2,.int .u64 o3,.int .u64 o4,.int .u64 o5] w=zv t 1 (shrI .u64 (IntKind.u64.wrap (c+IntKind.u64.wrap (a1*b1))) 32) 2 p [.int .u64 a0,.int .u64 a1,.int .u64 a2,.int .u64 a3,.int .u64 a4,.int .u64 a5] q [.int .u64 b0,.int .u64 b1,.int .u64 b2,.int .u64 b3,.int .u64 b4,.int .u64 b5] s [.int .u64 o0,.int .u64 o1,.int .u64 (andI .u64 (IntKind.u64.wrap (c+IntKind.u64.wrap (a1*b1))) 4294967295),.int .u64 o3,.int .u64 o4,.int .u64 o5] w:=by
 rw [z2v]; rfl
theorem z1kc (c:Int) (a0 a1 a2 a3 a4 a5:Int) (b0 b1 b2 b3 b4 b5:Int) (o0 o1 o2 o3 o4 o5:Int) (p q s:Bool) (t:List PV) (w:Nat):zv t 1 c 2 p [.int .u64 a0,.int .u64 a1,.int .u64 a2,.int .u64 a3,.int .u64 a4,.int .u64 a5] q [.int .u64 b0,.int .u64 b1,.int .u64 b2,.int .u64 b3,.int .u64 b4,.int .u64 b5] s [.int .u64 o0,.int .u64 o1,.int .u64 o2,.int .u64 o3,.int .u64 o4,.int .u64 o5] w=zv t 1 (shrI .u64 (IntKind.u64.wrap (c+IntKind.u64.wrap (a1*b2))) 32) 3 p [.int .u64 a0,.int .u64 a1,.int .u64 a2,.int .u64 a3,.int .u64 a4,.int .u64 a5] q [.int .u64 b0,.int .u64 b1,.int .u64 b2,.int .u64 b3,.int .u64 b4,.int .u64 b5] s [.int .u64 o0,.int .u64 o1,.int .u64 o2,.int .u64 (andI .u64 (IntKind.u64.wrap (c+IntKind.u64.wrap (a1*b2))) 4294967295),.int .u64 o4,.int .u64 o5] w:=by
 rw [z2v]; rfl
theorem mulS {c x y s:Nat} (hc:c<4294967296) (hx:x<4294967296) (hy:y<4294967296) (h:c+x*y=s) :
  andI .u64 (IntKind.u64.wrap ((c:Int)+IntKind.u64.wrap ((x:Int)*(y:Int)))) 4294967295=((s % 4294967296:Nat):Int)∧shrI .u64 (IntKind.u64.wrap ((c:Int)+IntKind.u64.wrap ((x:Int)*(y:Int)))) 32=((s / 4294967296:Nat):Int)∧s / 4294967296<4294967296:=by
 have hm:x*y≤4294967295*4294967295:=Nat.mul_le_mul (by omega) (by omega)
 have e:IntKind.u64.wrap ((c:Int)+IntKind.u64.wrap ((x:Int)*(y:Int)))=(s:Int):=by
  rw [← Int.natCast_mul,IntKind.wrap_u64,IntKind.wrap_u64]; omega
 rw [e,andN (by omega),shrN]
 exact ⟨rfl,rfl,by omega⟩
theorem z1d3 {x y:Nat} (hx:x<4294967296) (hy:y<18446744073709551616):∃ p1 p2:Nat,p1<4294967296∧p2<4294967296 ∧
  limbs (x*y)=[.int .u64 ((x*(y % 4294967296) % 4294967296:Nat):Int),.int .u64 (((x*(y % 4294967296) / 4294967296+x*(y / 4294967296)) % 4294967296:Nat):Int),.int .u64 (((x*(y % 4294967296) / 4294967296+x*(y / 4294967296)) / 4294967296:Nat):Int),.int .u64 0,.int .u64 0,.int .u64 0] ∧
  limbs (x*y*4294967296)=[.int .u64 0,.int .u64 ((x*(y % 4294967296) % 4294967296:Nat):Int),.int .u64 (((x*(y % 4294967296) / 4294967296+x*(y / 4294967296)) % 4294967296:Nat):Int),.int .u64 (((x*(y % 4294967296) / 4294967296+x*(y / 4294967296)) / 4294967296:Nat):Int),.int .u64 0,.int .u64 0]:=by
 refine ⟨0,0,by omega,by omega,?_⟩
 have hy1:y / 4294967296<4294967296:=by omega
 have h1:x*(y % 4294967296)≤4294967295*4294967295:=Nat.mul_le_mul (by omega) (by omega)
 have h2:x*(y / 4294967296)≤4294967295*4294967295:=Nat.mul_le_mul (by omega) (by omega)
 have e:x*y=x*(y % 4294967296)+4294967296*(x*(y / 4294967296)):=by
  have h:=Nat.div_add_mod y 4294967296
  have hy:x*y=x*(4294967296*(y / 4294967296)+y % 4294967296):=by rw [h]
  rw [hy,Nat.mul_add,Nat.mul_left_comm,Nat.add_comm]
 rw [e]
 generalize x*(y % 4294967296)=p at h1
 generalize x*(y / 4294967296)=q at h2
 have g0:(p+4294967296*q) % 4294967296=p % 4294967296:=by omega
 have g1:(p+4294967296*q) / 4294967296=p / 4294967296+q:=by omega
 have g2:(p / 4294967296+q) / 4294967296 % 4294967296=(p / 4294967296+q) / 4294967296:=by omega
 have g3:(p / 4294967296+q) / 4294967296 / 4294967296=0:=by omega
 have hB:0<4294967296:=by omega
 constructor
 ·unfold limbs; rw [g0,g1,g2,g3]; rfl
 ·unfold limbs; simp only [Nat.mul_div_cancel _ hB,Nat.mul_mod_left,g0,g1,g2,g3]; rfl
theorem times_s {a b:Int} (ha:a.natAbs<18446744073709551616) (hb:b.natAbs<18446744073709551616) :
  z72 (decide (a<0)) (limbs a.natAbs) (decide (b<0)) (limbs b.natAbs)=some (wI (a*b)):=by
 generalize hp:decide (a<0)=p
 generalize hq:decide (b<0)=q
 have hab:(a*b).natAbs=a.natAbs*b.natAbs:=Int.natAbs_mul a b
 have hsg:decide (a*b<0)=bif !(p == q) then !decide (a.natAbs*b.natAbs=0) else false:=by
  subst hp; subst hq
  by_cases h1:a<0 <;> by_cases h2:b<0
  ·have:¬ a*b<0:=by have:=Int.mul_nonneg_of_nonpos_of_nonpos (show a≤0 by omega) (show b≤0 by omega); omega
   simp [h1,h2,this]
  ·rw [decide_eq_true h1,decide_eq_false h2]
   show _=!decide (a.natAbs*b.natAbs=0)
   rw [← decide_not,decide_eq_decide,← hab]
   have:=Int.mul_nonpos_of_nonpos_of_nonneg (show a≤0 by omega) (show 0≤b by omega)
   omega
  ·rw [decide_eq_false h1,decide_eq_true h2]
   show _=!decide (a.natAbs*b.natAbs=0)
   rw [← decide_not,decide_eq_decide,← hab]
   have:=Int.mul_nonpos_of_nonneg_of_nonpos (show 0≤a by omega) (show b≤0 by omega)
   omega
  ·have:¬ a*b<0:=by have:=Int.mul_nonneg (show 0≤a by omega) (show 0≤b by omega); omega
   simp [h1,h2,this]
 unfold wI
 rw [hab,hsg]
 generalize a.natAbs=x at ha hab hsg
 generalize b.natAbs=y at hb hab hsg
 clear hsg hab
 have hx1:x / 4294967296<4294967296:=by omega
 have hx0:x % 4294967296<4294967296:=by omega
 have hy1:y / 4294967296<4294967296:=by omega
 have hy0:y % 4294967296<4294967296:=by omega
 have yz:y / 4294967296 / 4294967296=0:=by omega
 have xq:x / 4294967296 % 4294967296=x / 4294967296:=by omega
 have yq:y / 4294967296 % 4294967296=y / 4294967296:=by omega
 obtain ⟨_,_,_,_,ra,_⟩:=z1d3 (x:=x % 4294967296) (y:=y) hx0 hb
 obtain ⟨_,_,_,_,_,rb⟩:=z1d3 (x:=x / 4294967296) (y:=y) hx1 hb
 rw [znp,zjo,c_ltT (by omega)]
 obtain ⟨e1,e2,e3⟩:=mulS (c:=0) (s:=x % 4294967296*(y % 4294967296)) (by omega) hx0 hy0 (by omega)
 obtain ⟨f1,f2,f3⟩:=mulS (s:=x % 4294967296*(y % 4294967296) / 4294967296+x % 4294967296*(y / 4294967296)) e3 hx0 hy1 rfl
 obtain ⟨g1,g2,g3⟩:=mulS (y:=0) (s:=(x % 4294967296*(y % 4294967296) / 4294967296+x % 4294967296*(y / 4294967296)) / 4294967296) f3 hx0 (by omega) (by omega)
 have first:∀ t z,z10 0 0 0 p (limbs x) q (limbs y) false t z [.int .u64 0,.int .u64 0,.int .u64 0,.int .u64 0,.int .u64 0,.int .u64 0] 6=(z2l t (limbs (x % 4294967296*y))).bind fun v=>z2m (PV.toL v) 1 p (limbs x) q (limbs y) false:=by
  intro t z
  rw [ra]
  unfold limbs
  rw [yz,xq,yq]
  refine (z1kh ((0:Nat):Int) _ _ _ _ _ _ _ _ _ _ _ _ _ _ _ _ _ _ _ _ _ _ _ _).trans ?_
  rw [e1,e2]
  refine (z1kg _ _ _ _ _ _ _ _ _ _ _ _ _ _ _ _ _ _ _ _ _ _ _ _ _).trans ?_
  rw [f1,f2]
  refine (z1kf _ _ _ _ _ _ _ _ _ ((0:Nat):Int) _ _ _ _ _ _ _ _ _ _ _ _ _ _ _).trans ?_
  rw [g1,g2,z3l,show ((x % 4294967296*(y % 4294967296) / 4294967296+x % 4294967296*(y / 4294967296)) / 4294967296) % 4294967296=(x % 4294967296*(y % 4294967296) / 4294967296+x % 4294967296*(y / 4294967296)) / 4294967296 by omega]
  rfl
 rw [first,← zk9,z1i7,Nat.zero_add]
 simp only [oB,zam]
 rw [z8k,c_ltT (by omega)]
 obtain ⟨e1,e2,e3⟩:=mulS (c:=0) (s:=x / 4294967296*(y % 4294967296)) (by omega) hx1 hy0 (by omega)
 obtain ⟨f1,f2,f3⟩:=mulS (s:=x / 4294967296*(y % 4294967296) / 4294967296+x / 4294967296*(y / 4294967296)) e3 hx1 hy1 rfl
 obtain ⟨g1,g2,g3⟩:=mulS (y:=0) (s:=(x / 4294967296*(y % 4294967296) / 4294967296+x / 4294967296*(y / 4294967296)) / 4294967296) f3 hx1 (by omega) (by omega)
 have second:∀ t,zv t 1 0 0 p (limbs x) q (limbs y) false [.int .u64 0,.int .u64 0,.int .u64 0,.int .u64 0,.int .u64 0,.int .u64 0] 6=(z2l t (limbs (x / 4294967296*y*4294967296))).bind fun v=>z2m (PV.toL v) 2 p (limbs x) q (limbs y) false:=by
  intro t
  rw [rb]
  unfold limbs
  rw [yz,xq,yq]
  refine (z1ke ((0:Nat):Int) _ _ _ _ _ _ _ _ _ _ _ _ _ _ _ _ _ _ _ _ _ _ _).trans ?_
  rw [e1,e2]
  refine (z1kd _ _ _ _ _ _ _ _ _ _ _ _ _ _ _ _ _ _ _ _ _ _ _ _).trans ?_
  rw [f1,f2]
  refine (z1kc _ _ _ _ _ _ _ _ _ ((0:Nat):Int) _ _ _ _ _ _ _ _ _ _ _ _ _ _).trans ?_
  rw [g1,g2,z2v,show ((x / 4294967296*(y % 4294967296) / 4294967296+x / 4294967296*(y / 4294967296)) / 4294967296) % 4294967296=(x / 4294967296*(y % 4294967296) / 4294967296+x / 4294967296*(y / 4294967296)) / 4294967296 by omega]
  rfl
 rw [← zk9] at second ⊢
 rw [zk9] at second ⊢
 rw [second,z1i7]
 simp only [oB,zam]
 have exy:x % 4294967296*y+x / 4294967296*y*4294967296=x*y:=by
  have h:=Nat.div_add_mod x 4294967296
  have hx:x*y=(4294967296*(x / 4294967296)+x % 4294967296)*y:=by rw [h]
  rw [hx,Nat.add_mul,Nat.add_comm,Nat.mul_comm (x / 4294967296*y),Nat.mul_assoc]
 have hxy:x*y≤18446744073709551615*18446744073709551615:=Nat.mul_le_mul (by omega) (by omega)
 rw [exy,z8k,c_ltF (by omega)]
 cases hpq:(p == q) with
 | true=>rfl
 | false =>
  simp only [Bool.not_false,cond_true]
  rw [z13p (by omega)]
  rfl
theorem rdiv_s {a b:Int} (ha:In64 a) (hb:0<b) (hb2:b≤9223372036854775807):z8w a b=some (limV (a / b)):=by
 rw [ztj,c_eqF (by omega),ofI_s ha,ofI_s (by unfold In64; omega)]
 simp only [oB,wI,ag0,ag1,ze,zam]
 unfold In64 at ha
 have hq:(a / b).natAbs≤a.natAbs:=by
  have:=Int.natAbs_ediv_le_natAbs a b
  exact this
 rw [over_s (by omega) hb (by omega)]
 simp only [oB,wI,ag0,ag1,ze,zam]
 rw [z1a4 _ (by omega)]
 simp only [oB]
 have e:(if decide (a / b<0)=true then -((a / b).natAbs:Int) else ((a / b).natAbs:Int))=a / b:=by
  by_cases h:a / b<0
  ·rw [decide_eq_true h,if_pos rfl]; omega
  ·rw [decide_eq_false h,if_neg (by decide)]; omega
 rw [e]
 unfold limV
 split <;> rfl
theorem rmod_s {a b:Int} (ha:In64 a) (hb:0<b) (hb2:b≤4611686018427387904):z8v a b=some (.tuple [.int .i64 (a % b),.int .i64 0]):=by
 rw [zti,c_eqF (by omega),ofI_s ha,ofI_s (by unfold In64; omega)]
 simp only [oB,wI,ag0,ag1,ze,zam]
 have ha':=ha
 unfold In64 at ha
 have hq:(a / b).natAbs≤a.natAbs:=Int.natAbs_ediv_le_natAbs a b
 rw [over_s (by omega) hb (by omega)]
 simp only [oB,wI,ag0,ag1,ze,zam]
 rw [times_s (by omega) (by omega)]
 simp only [oB,wI,ag0,ag1,ze,zam]
 have hr:=z8r a hb
 have hm:=Int.mul_ediv_add_emod a b
 rw [minus_s (by omega)]
 simp only [oB,wI,ag0,ag1,ze,zam]
 rw [plus_s (by omega) (by omega)]
 simp only [oB,wI,ag0,ag1,ze,zam]
 have e:a+-(b*(a / b))=a % b:=by omega
 rw [e,z1a4 _ (by omega)]
 simp only [oB]
 rw [decide_eq_false (show ¬ a % b<0 by omega),if_neg (by decide),limV,if_pos (by unfold In64; omega)]
 simp only [tn0,tn1,zl]
 rw [show ((a % b).natAbs:Int)=a % b by omega]
theorem z1ht {a:Int} (ha:In64 a):z73 a=some (.tuple [.int .i64 (a / 86400000000),.int .i64 (a % 86400000000)]):=by
 rw [znq,rdiv_s ha (by omega) (by omega),rmod_s ha (by omega) (by omega)]
 unfold In64 at ha
 rw [limV,if_pos (by unfold In64; omega)]
 rfl
end Dv

namespace Dv
open Go
theorem z1e2 (y:Int):∀ (k:Nat),jan1 y≤jan1 (y+k)
 | 0=>by simp
 | k+1=>by
  have h1:=z1e2 y k
  have h2:=zp4 (y+k)
  have hl:(if leapI (y+k)=true then (1:Int) else 0)=0∨(if leapI (y+k)=true then (1:Int) else 0)=1:=by cases leapI (y+k) <;> simp
  have e:y+((k+1:Nat):Int)=y+k+1:=by omega
  rw [e]; omega
theorem zlp {y m:Int} (h1:1≤m):∀ (k:Nat),m+k≤13→z1g y m≤z1g y (m+k)
 | 0,_=>by simp
 | k+1,h=>by
  have ih:=zlp (y:=y) h1 k (by omega)
  have h2:=zen (y:=y) (m:=m+k) (by omega) (by omega)
  have h3:=z7a y (m+k) (by omega) (by omega)
  have e:m+((k+1:Nat):Int)=m+k+1:=by omega
  rw [e]; omega
theorem months_13 (y:Int):z1g y 13=365+(if leapI y then 1 else 0):=rfl
def okD (y m d:Int):Prop:=1≤m∧m≤12∧1≤d∧d≤lenI y m
theorem day_in {y m d:Int} (h:okD y m d):jan1 y≤dayI y m d∧dayI y m d<jan1 (y+1):=by
 obtain ⟨h1,h2,h3,h4⟩:=h
 have a:=zlp (y:=y) (m:=1) (by omega) (m-1).toNat (by omega)
 rw [show (1:Int)+((m-1).toNat:Int)=m by omega] at a
 have b:=zlp (y:=y) (m:=m+1) (by omega) (12-m).toNat (by omega)
 rw [show m+1+((12-m).toNat:Int)=13 by omega,months_13] at b
 have c:=zen (y:=y) h1 h2
 have e:=zp4 y
 have z:z1g y 1=0:=rfl
 unfold dayI
 omega
theorem z1jn {y y' m m' d d':Int} (h:okD y m d) (h':okD y' m' d') (hy:y<y'):dayI y m d<dayI y' m' d':=by
 have a:=(day_in h).2
 have b:=(day_in h').1
 have c:=z1e2 (y+1) (y'-(y+1)).toNat
 rw [show y+1+((y'-(y+1)).toNat:Int)=y' by omega] at c
 omega
theorem day_ltm {y m m' d d':Int} (h:okD y m d) (h':okD y m' d') (hm:m<m'):dayI y m d<dayI y m' d':=by
 obtain ⟨h1,h2,h3,h4⟩:=h
 obtain ⟨h1',h2',h3',h4'⟩:=h'
 have b:=zlp (y:=y) (m:=m+1) (by omega) (m'-(m+1)).toNat (by omega)
 rw [show m+1+((m'-(m+1)).toNat:Int)=m' by omega] at b
 have c:=zen (y:=y) h1 h2
 unfold dayI
 omega
theorem z1gt {y y' m m' d d':Int} (h:okD y m d) (h':okD y' m' d') (e:dayI y m d=dayI y' m' d'):y=y'∧m=m'∧d=d':=by
 have hy:y=y':=by
  rcases Int.lt_trichotomy y y' with a | a | a
  ·have:=z1jn h h' a; omega
  ·exact a
  ·have:=z1jn h' h a; omega
 subst hy
 have hm:m=m':=by
  rcases Int.lt_trichotomy m m' with a | a | a
  ·have:=day_ltm h h' a; omega
  ·exact a
  ·have:=day_ltm h' h a; omega
 subst hm
 unfold dayI at e
 exact ⟨rfl,rfl,by omega⟩
theorem minI_i (a b:Int):minI a b=min a b:=by
 unfold minI
 by_cases h:b<a
 ·rw [decide_eq_true h]; simp only [cond_true]; omega
 ·rw [decide_eq_false h]; simp only [cond_false]; omega
theorem march_sum {e c f k:Int} (hc:0≤c∧c≤3) (hf:0≤f∧f≤24) (hk:0≤k∧k≤3):zu0 (400*e+100*c+4*f+k)=146097*e+36524*c+1461*f+365*k:=by
 unfold zu0
 have e1:(400*e+100*c+4*f+k) / 400=e:=by omega
 have e2:(400*e+100*c+4*f+k) % 400=100*c+4*f+k:=by omega
 have e3:(100*c+4*f+k) / 4=25*c+f:=by omega
 have e4:(100*c+4*f+k) / 100=c:=by omega
 rw [e1,e2,e3,e4]
 omega
theorem parts_fin {Y M l3 n:Int} (hm0:0≤M) (hm1:M≤11) (hk:0≤l3∧l3≤365) (hmd:(153*M+2) / 5≤l3) (hm2:l3<(153*(M+1)+2) / 5) (hYb:-5000000≤Y∧Y≤5000000)
  (hy:zu0 Y+l3=n+730425) (hleap:l3=365→leapI (Y+1)=true) :
  ∃ y m d,(bif leB 10 M then some (PV.tuple [.int .i64 (IntKind.i64.wrap (Y+1)),.int .i64 (IntKind.i64.wrap (M-9)),.int .i64 (l3-(153*M+2) / 5+1)]) else some (.tuple [.int .i64 Y,.int .i64 (IntKind.i64.wrap (M+3)),.int .i64 (l3-(153*M+2) / 5+1)])) =
   some (.tuple [.int .i64 y,.int .i64 m,.int .i64 d])∧okD y m d∧dayI y m d=n:=by
 by_cases h10:10≤M
 ·rw [c_leT h10,w64 (n:=Y+1) (by omega) (by omega),w64 (n:=M-9) (by omega) (by omega)]
  refine ⟨_,_,_,rfl,⟨by omega,by omega,by omega,?_⟩,?_⟩
  ·have:M=10∨M=11:=by omega
   rcases this with rfl | rfl
   ·show _≤lenI (Y+1) 1
    unfold lenI; rw [if_neg (by omega),if_neg (by omega),if_pos (by omega)]; omega
   ·show _≤lenI (Y+1) 2
    unfold lenI; rw [if_pos rfl]
    by_cases h3:l3=365
    ·rw [hleap h3,if_pos rfl]; omega
    ·split <;> omega
  ·have:=z149 (y:=Y+1) (m:=M-9) (d:=l3-(153*M+2) / 5+1) (by omega) (by omega)
   rw [if_pos (by omega),if_pos (by omega),show Y+1-1=Y by omega,show M-9+12-3=M by omega] at this
   omega
 ·rw [c_leF h10,w64 (n:=M+3) (by omega) (by omega)]
  refine ⟨_,_,_,rfl,⟨by omega,by omega,by omega,?_⟩,?_⟩
  ·have:M=0∨M=1∨M=2∨M=3∨M=4∨M=5∨M=6∨M=7∨M=8∨M=9:=by omega
   rcases this with rfl | rfl | rfl | rfl | rfl | rfl | rfl | rfl | rfl | rfl <;> (unfold lenI; rw [if_neg (by omega)]; split <;> first | omega | (rw [if_pos (by omega)]; omega))
  ·have:=z149 (y:=Y) (m:=M+3) (d:=l3-(153*M+2) / 5+1) (by omega) (by omega)
   rw [if_neg (by omega),if_neg (by omega),show M+3-3=M by omega] at this
   omega
theorem z1a5 {n:Int} (h1:-1000000000≤n) (h2:n≤1000000000):∃ y m d,zme n=some (.tuple [.int .i64 y,.int .i64 m,.int .i64 d])∧okD y m d∧dayI y m d=n:=by
 rw [zuk,w64 (by omega) (by omega),z15i (by unfold In64; omega) (by omega) (by omega) (by omega)]
 simp only [oB,tn0,tn1,zl]
 have he:n+730425=146097*((n+730425) / 146097)+(n+730425) % 146097:=by omega
 have hl0:0≤(n+730425) % 146097∧(n+730425) % 146097<146097:=by omega
 have hq:-10000≤(n+730425) / 146097∧(n+730425) / 146097≤10000:=by omega
 generalize (n+730425) / 146097=e at he hq
 generalize (n+730425) % 146097=l0 at he hl0
 have c1:minI (IntKind.i64.wrap (Int.tdiv l0 36524)) 3=min (l0 / 36524) 3:=by rw [minI_i,z3w hl0.1,w64 (by omega) (by omega)]
 rw [c1]
 have hc:0≤min (l0 / 36524) 3∧min (l0 / 36524) 3≤3∧0≤l0-min (l0 / 36524) 3*36524∧l0-min (l0 / 36524) 3*36524≤36524∧(l0-min (l0 / 36524) 3*36524=36524→min (l0 / 36524) 3=3):=by omega
 generalize min (l0 / 36524) 3=c at hc
 have c2:IntKind.i64.wrap (l0-IntKind.i64.wrap (c*36524))=l0-c*36524:=by rw [w64 (n:=c*36524) (by omega) (by omega),w64 (by omega) (by omega)]
 rw [c2]
 generalize hl1:l0-c*36524=l1 at hc
 have c3:IntKind.i64.wrap (Int.tdiv l1 1461)=l1 / 1461:=by rw [z3w (by omega),w64 (by omega) (by omega)]
 rw [c3]
 have hf:0≤l1 / 1461∧l1 / 1461≤24∧0≤l1-l1 / 1461*1461∧l1-l1 / 1461*1461≤1460:=by omega
 generalize l1 / 1461=f at hf
 have c4:IntKind.i64.wrap (l1-IntKind.i64.wrap (f*1461))=l1-f*1461:=by rw [w64 (n:=f*1461) (by omega) (by omega),w64 (by omega) (by omega)]
 rw [c4]
 generalize hl2:l1-f*1461=l2 at hf
 have c5:minI (IntKind.i64.wrap (Int.tdiv l2 365)) 3=min (l2 / 365) 3:=by rw [minI_i,z3w (by omega),w64 (by omega) (by omega)]
 rw [c5]
 have hk:0≤min (l2 / 365) 3∧min (l2 / 365) 3≤3∧0≤l2-min (l2 / 365) 3*365∧l2-min (l2 / 365) 3*365≤365∧(l2-min (l2 / 365) 3*365=365→min (l2 / 365) 3=3∧l2=1460):=by omega
 generalize min (l2 / 365) 3=k at hk
 have c6:IntKind.i64.wrap (l2-IntKind.i64.wrap (k*365))=l2-k*365:=by rw [w64 (n:=k*365) (by omega) (by omega),w64 (by omega) (by omega)]
 rw [c6]
 generalize hl3:l2-k*365=l3 at hk
 have c7:IntKind.i64.wrap (Int.tdiv (IntKind.i64.wrap (IntKind.i64.wrap (5*l3)+2)) 153)=(5*l3+2) / 153:=by
  rw [w64 (n:=5*l3) (by omega) (by omega),w64 (n:=5*l3+2) (by omega) (by omega),z3w (by omega),w64 (by omega) (by omega)]
 rw [c7]
 have hm:0≤(5*l3+2) / 153∧(5*l3+2) / 153≤11∧(153*((5*l3+2) / 153)+2) / 5≤l3:=by omega
 have hm2:l3<(153*((5*l3+2) / 153+1)+2) / 5:=by omega
 generalize (5*l3+2) / 153=M at hm hm2
 have c8:IntKind.i64.wrap (Int.tdiv (IntKind.i64.wrap (IntKind.i64.wrap (153*M)+2)) 5)=(153*M+2) / 5:=by
  rw [w64 (n:=153*M) (by omega) (by omega),w64 (n:=153*M+2) (by omega) (by omega),z3w (by omega),w64 (by omega) (by omega)]
 rw [c8]
 have c9:IntKind.i64.wrap (IntKind.i64.wrap (l3-(153*M+2) / 5)+1)=l3-(153*M+2) / 5+1:=by
  rw [w64 (n:=l3-(153*M+2) / 5) (by omega) (by omega),w64 (by omega) (by omega)]
 rw [c9]
 have c10:IntKind.i64.wrap (IntKind.i64.wrap (IntKind.i64.wrap (IntKind.i64.wrap (e*400)+IntKind.i64.wrap (c*100))+IntKind.i64.wrap (f*4))+k)=400*e+100*c+4*f+k:=by
  rw [w64 (n:=e*400) (by omega) (by omega),w64 (n:=c*100) (by omega) (by omega),w64 (n:=f*4) (by omega) (by omega),w64 (n:=e*400+c*100) (by omega) (by omega),w64 (n:=e*400+c*100+f*4) (by omega) (by omega),w64 (by omega) (by omega)]
  omega
 rw [c10]
 clear c1 c2 c3 c4 c5 c6 c7 c8 c9 c10
 have hy:zu0 (400*e+100*c+4*f+k)+l3=n+730425:=by
  rw [march_sum ⟨hc.1,hc.2.1⟩ ⟨hf.1,hf.2.1⟩ ⟨hk.1,hk.2.1⟩]
  clear hm hm2 hq
  omega
 have hleap:l3=365→leapI (400*e+100*c+4*f+k+1)=true:=by
  intro h
  have h3:=hk.2.2.2.2 h
  have hc3:f=24→c=3:=fun hf24=>hc.2.2.2.2 (by clear hm hm2 hq hk; omega)
  rw [zka,h3.1]
  clear hm hm2 he hk hl3 hl2 hl1
  omega
 generalize hY:400*e+100*c+4*f+k=Y at hy hleap
 have hYb:-5000000≤Y∧Y≤5000000:=by omega
 exact parts_fin hm.1 hm.2.1 ⟨hk.2.2.1,hk.2.2.2.1⟩ hm.2.2 hm2 hYb hy hleap
end Dv

namespace Dv
open Go
theorem z1d8 (y:Int):∀ (k:Nat) (m l:Int),1≤m→m+k=12→0≤l→z1g y m+l<365+(if leapI y then 1 else 0) →
  ∃ m' d,z50 y l m=some (.tuple [.int .i64 y,.int .i64 m',.int .i64 d,.int .i64 0])∧okD y m' d∧z1g y m'+d-1=z1g y m+l
 | 0,m,l,h1,hm,h0,ht=>by
  have hm12:m=12:=by omega
  subst hm12
  rw [z148] at ht
  have hlen:lenI y 12=31:=by unfold lenI; rw [if_neg (by omega),if_neg (by omega),if_pos (by omega)]
  rw [z9u,z13z (by omega) (by omega)]
  simp only [oB,zl]
  rw [c_leF (by omega),w64 (by omega) (by omega)]
  exact ⟨_,_,rfl,⟨by omega,by omega,by omega,by omega⟩,by omega⟩
 | k+1,m,l,h1,hm,h0,ht=>by
  have hr:=z7a y m (by omega) (by omega)
  have hs:=zen (y:=y) (m:=m) (by omega) (by omega)
  have hb:=ze7 (y:=y) (m:=m) (by omega) (by omega)
  have hl:(if leapI y=true then (1:Int) else 0)=0∨(if leapI y=true then (1:Int) else 0)=1:=by cases leapI y <;> simp
  rw [z9u,z13z (by omega) (by omega)]
  simp only [oB,zl]
  by_cases h:lenI y m≤l
  ·rw [c_leT h,w64 (n:=l-lenI y m) (by omega) (by omega),w64 (n:=m+1) (by omega) (by omega)]
   obtain ⟨m',d,e1,e2,e3⟩:=z1d8 y k (m+1) (l-lenI y m) (by omega) (by omega) (by omega) (by omega)
   exact ⟨m',d,e1,e2,by omega⟩
  ·rw [c_leF h,w64 (by omega) (by omega)]
   exact ⟨_,_,rfl,⟨by omega,by omega,by omega,by omega⟩,by omega⟩
theorem z1i6:∀ (k:Nat) (y l:Int),0≤l→l<k→-1000000≤y→y+k≤2000000→-1000000000≤jan1 y→jan1 y+l≤1000000000 →
  ∃ y' m' d,z5t y l=some (.tuple [.int .i64 y',.int .i64 m',.int .i64 d,.int .i64 0])∧okD y' m' d∧dayI y' m' d=jan1 y+l
 | 0,y,l,h0,hk,_,_,_,_=>by omega
 | k+1,y,l,h0,hk,hy,hy2,hj,hj2=>by
  have hs:=zp4 y
  have fin:∀ long:Int,long=365+(if leapI y then 1 else 0)→∃ y' m' d,z5s y l long=some (.tuple [.int .i64 y',.int .i64 m',.int .i64 d,.int .i64 0])∧okD y' m' d∧dayI y' m' d=jan1 y+l:=by
   intro long hlong
   have hl:(if leapI y=true then (1:Int) else 0)=0∨(if leapI y=true then (1:Int) else 0)=1:=by cases leapI y <;> simp
   rw [zkw]
   by_cases h:l<long
   ·rw [c_ltT h]
    have z:z1g y 1=0:=rfl
    obtain ⟨m',d,e1,e2,e3⟩:=z1d8 y 11 1 l (by omega) (by omega) h0 (by omega)
    exact ⟨y,m',d,e1,e2,by unfold dayI; omega⟩
   ·rw [c_ltF h,w64 (n:=y+1) (by omega) (by omega),w64 (n:=l-long) (by omega) (by omega)]
    obtain ⟨y',m',d,e1,e2,e3⟩:=z1i6 k (y+1) (l-long) (by omega) (by omega) (by omega) (by omega) (by omega) (by omega)
    exact ⟨y',m',d,e1,e2,by omega⟩
  rw [zkx,z1a1]
  simp only [oB,ze]
  cases hl:leapI y with
  | true=>exact fin 366 (by rw [hl]; rfl)
  | false=>exact fin 365 (by rw [hl]; rfl)
def canB (n:Int):Bool:=decide (-2453698≤n∧n≤106754173)
theorem z150:dayI (-4718) 1 1=-2453698:=by decide
theorem z1dw:dayI 294282 12 31=106754173:=by decide
theorem z15k (n:Int):zyh n=some (.bool (canB n)):=by
 rw [z11b,zjr,zmg,z15j (by omega) (by omega) (by omega) (by omega),z15j (by omega) (by omega) (by omega) (by omega)]
 simp only [oB,zl]
 rw [z150,z1dw]
 unfold canB
 by_cases h:-2453698≤n
 ·rw [c_leT h]; unfold leB; congr 2; rw [decide_eq_decide]; omega
 ·rw [c_leF h,decide_eq_false (by omega)]
theorem ref_can (n:Int):zdv n=some (.bool (canB n)):=by
 rw [zte,zdi,zpq,z1a2 (by omega) (by omega) (by omega) (by omega),z1a2 (by omega) (by omega) (by omega) (by omega)]
 simp only [oB,zl]
 rw [z150,z1dw]
 unfold canB
 by_cases h:-2453698≤n
 ·rw [c_leT h]; unfold leB; congr 2; rw [decide_eq_decide]; omega
 ·rw [c_leF h,decide_eq_false (by omega)]
theorem z1eg (n:Int):∃ y m d e,z8y n=some (.tuple [.int .i64 y,.int .i64 m,.int .i64 d,.int .i64 e]) ∧
  z42 n=some (.tuple [.int .i64 y,.int .i64 m,.int .i64 d,.int .i64 e]) ∧
  (e=0→okD y m d∧dayI y m d=n∧-4718≤y∧y≤294282)∧(e≠0→e=10∧y=0∧m=0∧d=0):=by
 rw [z8x,zps,z15k,ref_can]
 simp only [oB,ze]
 cases hc:canB n with
 | false=>exact ⟨_,_,_,_,rfl,rfl,(by intro h; cases h),fun _=>⟨rfl,rfl,rfl,rfl⟩⟩
 | true =>
  unfold canB at hc
  have hn:=of_decide_eq_true hc
  simp only [Bool.not_true,cond_false]
  obtain ⟨y,m,d,e1,e2,e3⟩:=z1a5 (n:=n) (by omega) (by omega)
  rw [e1,ref_div (by unfold In64; omega) (by omega) (by omega),zow (by omega) (by omega)]
  simp only [oB,tn0,tn1,tn2,zl]
  have hq:-20≤n / 146097∧n / 146097≤1000:=by omega
  have hr:0≤n % 146097∧n % 146097<146097:=by omega
  rw [w64 (n:=n / 146097*400) (by omega) (by omega),w64 (n:=2000+n / 146097*400) (by omega) (by omega)]
  have hj:jan1 (2000+n / 146097*400)=n / 146097*146097:=by
   unfold jan1
   have a1:(2000+n / 146097*400-2000) / 400=n / 146097:=by omega
   have a2:(2000+n / 146097*400-2000) % 400=0:=by omega
   rw [a1,a2,show zci 0=0 from rfl]; omega
  obtain ⟨y',m',d',f1,f2,f3⟩:=z1i6 146097 (2000+n / 146097*400) (n % 146097) hr.1 hr.2 (by omega) (by omega) (by omega) (by omega)
  have hf:dayI y' m' d'=n:=by rw [f3,hj]; omega
  obtain ⟨rfl,rfl,rfl⟩:=z1gt e2 f2 (e3.trans hf.symm)
  rw [f1]
  refine ⟨y,m,d,0,rfl,rfl,fun _=>⟨e2,e3,?_,?_⟩,by intro h; exact absurd rfl h⟩
  ·rcases Int.lt_or_le y (-4718) with h | h
   ·have hx:=z1jn e2 (show okD (-4718) 1 1 by unfold okD; decide) h
    rw [z150] at hx; omega
   ·exact h
  ·rcases Int.lt_or_le 294282 y with h | h
   ·have hx:=z1jn (show okD 294282 12 31 by unfold okD; decide) e2 h
    rw [z1dw] at hx; omega
   ·exact h
theorem zxm (n:Int):∃ b,z3h n=some (.bool b)∧z68 n=some (.bool b)∧(b=true→∃ y m d,z8y n=some (.tuple [.int .i64 y,.int .i64 m,.int .i64 d,.int .i64 0]) ∧
  z42 n=some (.tuple [.int .i64 y,.int .i64 m,.int .i64 d,.int .i64 0])∧okD y m d∧dayI y m d=n∧-4712≤y∧y≤294276):=by
 obtain ⟨y,m,d,e,h1,h2,h3,h4⟩:=z1eg n
 rw [zyc,zm2,h1,h2]
 simp only [oB,tn0,tn3,zl]
 by_cases he:e=0
 ·rw [c_eqT he]
  subst he
  obtain ⟨g1,g2,g3,g4⟩:=h3 rfl
  by_cases hy:-4712≤y
  ·rw [c_leT hy]
   refine ⟨_,rfl,rfl,fun hb=>⟨y,m,d,rfl,rfl,g1,g2,hy,of_decide_eq_true hb⟩⟩
  ·rw [c_leF hy]; exact ⟨_,rfl,rfl,by intro h; cases h⟩
 ·rw [c_eqF he]; exact ⟨_,rfl,rfl,by intro h; cases h⟩
theorem z1jp (i n:Int):∃ b,zki i n=some (.bool b)∧z4r i n=some (.bool b)∧(b=true→i=0→z3h n=some (.bool true))∧(b=true→i=-1∨i=0∨i=1):=by
 obtain ⟨c,h1,h2,h3⟩:=zxm n
 rw [zpe,zdb,h1,h2]
 simp only [oB,ze]
 unfold eqB
 by_cases a:i=0
 ·subst a
  refine ⟨c,rfl,rfl,fun hb _=>by rw [hb],fun _=>.inr (.inl rfl)⟩
 ·by_cases b:i=-1
  ·subst b
   by_cases z:n=0
   ·subst z; exact ⟨true,rfl,rfl,fun _ h=>absurd h a,fun _=>.inl rfl⟩
   ·refine ⟨false,by simp [z],by simp [z],(by intro h; cases h),by intro h; cases h⟩
  ·by_cases b1:i=1
   ·subst b1
    by_cases z:n=0
    ·subst z; exact ⟨true,rfl,rfl,fun _ h=>absurd h a,fun _=>.inr (.inr rfl)⟩
    ·refine ⟨false,by simp [z],by simp [z],(by intro h; cases h),by intro h; cases h⟩
   ·exact ⟨false,by simp [a,b,b1],by simp [a,b,b1],(by intro h; cases h),by intro h; cases h⟩
theorem z12l (i:Int) {n:Int} (hn:In64 n):∃ b,z2p i n=some (.bool b)∧zu i n=some (.bool b)∧(b=true→i=0→z3h (n / 86400000000)=some (.bool true))∧(b=true→i=-1∨i=0∨i=1):=by
 obtain ⟨c,h1,h2,h3⟩:=zxm (n / 86400000000)
 rw [zkh,z8d,z1ib hn,z1ht hn]
 simp only [oB,tn0,zl]
 rw [h1,h2]
 simp only [oB,ze]
 unfold eqB
 by_cases a:i=0
 ·subst a
  refine ⟨c,rfl,rfl,fun hb _=>by rw [hb],fun _=>.inr (.inl rfl)⟩
 ·by_cases b:i=-1
  ·subst b
   by_cases z:n=0
   ·subst z; exact ⟨true,rfl,rfl,fun _ h=>absurd h a,fun _=>.inl rfl⟩
   ·refine ⟨false,by simp [z],by simp [z],(by intro h; cases h),by intro h; cases h⟩
  ·by_cases b1:i=1
   ·subst b1
    by_cases z:n=0
    ·subst z; exact ⟨true,rfl,rfl,fun _ h=>absurd h a,fun _=>.inr (.inr rfl)⟩
    ·refine ⟨false,by simp [z],by simp [z],(by intro h; cases h),by intro h; cases h⟩
   ·exact ⟨false,by simp [a,b,b1],by simp [a,b,b1],(by intro h; cases h),by intro h; cases h⟩
theorem parts0_s {n:Int} (h:z3h n=some (.bool true)):∃ y m d,zyd 0 n=some (.tuple [.int .i64 y,.int .i64 m,.int .i64 d,.int .i64 0]) ∧
  zab 0 n=some (.tuple [.int .i64 y,.int .i64 m,.int .i64 d,.int .i64 0])∧okD y m d∧dayI y m d=n∧-4712≤y∧y≤294276:=by
 obtain ⟨c,h1,h2,h3⟩:=zxm n
 rw [h] at h1
 cases h1
 obtain ⟨y,m,d,e1,e2,e3,e4,e5,e6⟩:=h3 rfl
 refine ⟨y,m,d,?_,?_,e3,e4,e5,e6⟩
 ·rw [z118,zpe,h,e1]; rfl
 ·rw [zne,zdb,h2,e2]; rfl
theorem of0_s {n:Int} (hn:In64 n) (h:z3h (n / 86400000000)=some (.bool true)) :
  day_Of 0 n=some (.tuple [.agg [.int .i64 0,.int .i64 (n / 86400000000)],.int .i64 (n % 86400000000),.int .i64 0]) ∧
  zfy 0 n=some (.tuple [.agg [.int .i64 0,.int .i64 (n / 86400000000)],.int .i64 (n % 86400000000),.int .i64 0]):=by
 obtain ⟨c,h1,h2,h3⟩:=zxm (n / 86400000000)
 rw [h] at h1
 cases h1
 constructor
 ·rw [day_Of_eq,zkh,z1ib hn]
  simp only [oB,tn0,zl]
  rw [h]; rfl
 ·rw [zvz,z8d,z1ht hn]
  simp only [oB,tn0,zl]
  rw [h2]; rfl
end Dv

namespace Dv
open Go
def wdOk (wd:Int):Bool:=leB 0 wd&&leB wd 6
def dayOk (n:Int):Bool:=leB 1 n&&leB n 31
theorem zqc (wd:Int):wdOk wd=true↔0≤wd∧wd≤6:=by simp [wdOk,leB]
theorem zkj (n:Int):dayOk n=true↔1≤n∧n≤31:=by simp [dayOk,leB]
theorem zto (n:Int):zic n=some (.bool (wdOk n)):=by
 rw [z132]; unfold wdOk
 cases leB 0 n <;> rfl
theorem z175 (n:Int):z128 n=some (.bool (dayOk n)):=by
 rw [z1f6]; unfold dayOk
 cases leB 1 n <;> rfl
def formV (k wd n:Int):PV :=
 bif eqB k 0&&eqB wd 0 then (bif dayOk n then .iface zba (.int .i64 n) else .nili) else
 bif eqB k 1&&eqB n 0 then (bif wdOk wd then .iface zbb (.int .i64 wd) else .nili) else
 bif eqB k 2 then (bif wdOk wd&&dayOk n then .iface z58 (.agg [.int .i64 wd,.int .i64 n,.int .i64 1]) else .nili) else
 bif eqB k 3 then (bif wdOk wd&&dayOk n then .iface z58 (.agg [.int .i64 wd,.int .i64 n,.int .i64 (-1)]) else .nili) else .nili
def rightV (k wd n:Int):Bool :=
 bif eqB k 0 then dayOk n&&eqB wd 0 else bif eqB k 1 then wdOk wd&&eqB n 0 else bif eqB k 2 then wdOk wd&&dayOk n else bif eqB k 3 then wdOk wd&&dayOk n else false
theorem form_s (k wd n:Int):zid k wd n=some (formV k wd n):=by
 have near:∀ st,zb9 wd n st=some (.bool (wdOk wd&&dayOk n)):=by
  intro st
  rw [zwg,zto,z175]
  cases wdOk wd <;> rfl
 rw [z133,zwk,zwj,zwi,zwh,near,near,zuo,zup,z175,zto]
 unfold formV
 cases eqB k 0 <;> cases eqB wd 0 <;> cases eqB k 1 <;> cases eqB n 0 <;> cases eqB k 2 <;> cases eqB k 3 <;> cases hw:wdOk wd <;> cases hd:dayOk n <;> rfl
theorem z1i0 (k wd n:Int):z5o k wd n=some (.bool (rightV k wd n)):=by
 rw [zkr,z8g,z8g]
 simp only [zht]
 unfold rightV wdOk dayOk
 cases leB 0 wd <;> cases leB 1 n <;> cases leB wd 6 <;> cases leB n 31 <;> cases eqB k 0 <;> cases eqB wd 0 <;> cases eqB k 1 <;> cases eqB n 0 <;> cases eqB k 2 <;> cases eqB k 3 <;> rfl
theorem z1h4 (n:Int):wkI (n+1)=if wkI n=6 then 0 else wkI n+1:=by unfold wkI; split <;> omega
theorem z1h5 (n:Int):wkI (n-1)=if wkI n=0 then 6 else wkI n-1:=by unfold wkI; split <;> omega
def onI (n wd:Int):Int:=n+(wd-wkI n) % 7
def backI (n wd:Int):Int:=n-(wkI n-wd) % 7
theorem to_on {wd:Int} (h0:0≤wd) (h6:wd≤6):∀ (j:Nat) (n:Int),-1000000000≤n→n+j≤1000000000→(wd-wkI n) % 7=j→zjt n wd 1=some (.int .i64 (onI n wd))
 | 0,n,hn,hn2,hj=>by
  have hw:=zef n
  rw [zgq,zmi (by unfold In64; omega) (by omega)]
  simp only [oB,PV.toI]
  rw [c_not,c_eqT (by omega)]
  unfold onI; rw [hj]; simp
 | j+1,n,hn,hn2,hj=>by
  have hw:=zef n
  rw [zgq,zmi (by unfold In64; omega) (by omega)]
  simp only [oB,PV.toI]
  rw [c_not,c_eqF (by intro h; rw [h] at hj; simp at hj; omega),w64 (by omega) (by omega)]
  have hs:=z1h4 n
  have hj0:((j+1:Nat):Int)≤6:=by rw [← hj]; omega
  have hx:(wd-wkI (n+1)) % 7=j:=by
   rw [hs]; split <;> omega
  rw [to_on h0 h6 j (n+1) (by omega) (by omega) hx]
  unfold onI
  congr 2
  omega
theorem to_back {wd:Int} (h0:0≤wd) (h6:wd≤6):∀ (j:Nat) (n:Int),-1000000000≤n-j→n≤1000000000→(wkI n-wd) % 7=j→zjt n wd (-1)=some (.int .i64 (backI n wd))
 | 0,n,hn,hn2,hj=>by
  have hw:=zef n
  rw [zgq,zmi (by unfold In64; omega) (by omega)]
  simp only [oB,PV.toI]
  rw [c_not,c_eqT (by omega)]
  unfold backI; rw [hj]; simp
 | j+1,n,hn,hn2,hj=>by
  have hw:=zef n
  rw [zgq,zmi (by unfold In64; omega) (by omega)]
  simp only [oB,PV.toI]
  rw [c_not,c_eqF (by intro h; rw [h] at hj; simp at hj; omega),w64 (by omega) (by omega)]
  have hs:=z1h5 n
  have hj0:((j+1:Nat):Int)≤6:=by rw [← hj]; omega
  have hx:(wkI (n-1)-wd) % 7=j:=by
   rw [hs]; split <;> omega
  rw [show n+-1=n-1 by omega,to_back h0 h6 j (n-1) (by omega) (by omega) hx]
  unfold backI
  congr 2
  omega
theorem to_s1 {n wd:Int} (h0:0≤wd) (h6:wd≤6) (hn:-100000000≤n) (hn2:n≤200000000):zun n wd 1=some (.int .i64 (onI n wd)):=by
 rw [z174]
 exact to_on h0 h6 ((wd-wkI n) % 7).toNat n (by omega) (by omega) (by omega)
theorem to_s2 {n wd:Int} (h0:0≤wd) (h6:wd≤6) (hn:-100000000≤n) (hn2:n≤200000000):zun n wd (-1)=some (.int .i64 (backI n wd)):=by
 rw [z174]
 exact to_back h0 h6 ((wkI n-wd) % 7).toNat n (by omega) (by omega) (by omega)
def dayK (y m k wd n:Int):Int :=
 if k=0 then dayI y m 1+n-1 else if k=1 then backI (dayI y m 1+lenI y m-1) wd else if k=2 then onI (dayI y m 1+n-1) wd else backI (dayI y m 1+n-1) wd
def canBL (y m k wd n:Int):Bool:=rightV k wd n&&(leB 1 m&&leB m 12)
def yearB (y:Int):Bool:=ltB (-4718) y&&ltB y 294282
def dayV (y m k wd n:Int):PV :=
 bif !canBL y m k wd n then .tuple [.int .i64 0,.int .i64 1] else bif !yearB y then .tuple [.int .i64 0,.int .i64 10] else .tuple [.int .i64 (dayK y m k wd n),.int .i64 0]
theorem zzs {y m:Int} (hy:-4718<y∧y<294282) (h1:1≤m) (h2:m≤12):-4000000≤dayI y m 1∧dayI y m 1≤109000000:=by
 have:=zvp (y:=y) (by omega) (by omega)
 have:=ze7 (y:=y) h1 h2
 unfold dayI; omega
theorem z13x {y m:Int} (hy:-4718<y∧y<294282) (h1:1≤m) (h2:m≤12):zxa y m 1=true:=by
 have:=z7a y m h1 h2
 unfold zxa
 exact decide_eq_true ⟨by omega,by omega,h1,h2,by omega,by omega⟩
theorem zh5 (y:Int):yearB y=true↔-4718<y∧y<294282:=by simp [yearB,ltB]
theorem right_cases {k wd n:Int} (h:rightV k wd n=true) :
  (k=0∧wd=0∧1≤n∧n≤31)∨(k=1∧n=0∧0≤wd∧wd≤6)∨((k=2∨k=3)∧0≤wd∧wd≤6∧1≤n∧n≤31):=by
 unfold rightV at h
 by_cases k0:k=0
 ·rw [c_eqT k0] at h
  simp [zkj,eqB] at h
  left; omega
 ·rw [c_eqF k0] at h
  by_cases k1:k=1
  ·rw [c_eqT k1] at h
   simp [zqc,eqB] at h
   right; left; omega
  ·rw [c_eqF k1] at h
   by_cases k2:k=2
   ·rw [c_eqT k2] at h
    simp [zqc,zkj] at h
    right; right; omega
   ·rw [c_eqF k2] at h
    by_cases k3:k=3
    ·rw [c_eqT k3] at h
     simp [zqc,zkj] at h
     right; right; omega
    ·rw [c_eqF k3] at h; cases h
theorem z1j8 (k wd n:Int):((formV k wd n).opq 0).nilOf (.iface true)=some (!rightV k wd n):=by
 unfold formV rightV
 by_cases k0:k=0
 ·subst k0
  cases hw:eqB wd 0 <;> cases hd:dayOk n <;> simp [eqB,PV.nilOf,PV.nilR]
 ·simp only [eqB,decide_eq_false k0,Bool.false_and,cond_false]
  by_cases k1:k=1
  ·subst k1
   cases hw:decide (n=0) <;> cases hd:wdOk wd <;> simp [PV.nilOf,PV.nilR]
  ·simp only [decide_eq_false k1,Bool.false_and,cond_false]
   cases hd:wdOk wd <;> cases hd:dayOk n <;> by_cases k2:k=2 <;> by_cases k3:k=3 <;> simp [k2,k3,PV.nilOf,PV.nilR]
theorem c6_fixed (y m n:Int):zh8 y m (.iface zba (.int .i64 n))=(ze0 y m 1).bind fun v=>some (.tuple [.int .i64 (IntKind.i64.wrap (IntKind.i64.wrap ((v.tnth 0).toI+n)-1)),.int .i64 0]):=by
 rw [zja]; rfl
theorem c6_final (y m wd:Int):zh8 y m (.iface zbb (.int .i64 wd))=(ze0 y m 1).bind fun v=>(zl2 y m).bind fun u =>
  (zun (IntKind.i64.wrap (IntKind.i64.wrap ((v.tnth 0).toI+u.toI)-1)) wd (-1)).bind fun z=>some (.tuple [.int .i64 z.toI,.int .i64 0]):=by
 rw [zja]; rfl
theorem c6_near (y m wd n st:Int):zh8 y m (.iface z58 (.agg [.int .i64 wd,.int .i64 n,.int .i64 st]))=(ze0 y m 1).bind fun v =>
  (zun (IntKind.i64.wrap (IntKind.i64.wrap ((v.tnth 0).toI+n)-1)) wd st).bind fun z=>some (.tuple [.int .i64 z.toI,.int .i64 0]):=by
 rw [zja]; rfl
theorem z1lj {n:Int} (h:dayOk n=true):formV 0 0 n=.iface zba (.int .i64 n):=by unfold formV; rw [h]; rfl
theorem z1lk {wd:Int} (h:wdOk wd=true):formV 1 wd 0=.iface zbb (.int .i64 wd):=by unfold formV; rw [h]; rfl
theorem form_on {wd n:Int} (h:wdOk wd=true) (h2:dayOk n=true):formV 2 wd n=.iface z58 (.agg [.int .i64 wd,.int .i64 n,.int .i64 1]):=by unfold formV; rw [h,h2]; rfl
theorem form_back {wd n:Int} (h:wdOk wd=true) (h2:dayOk n=true):formV 3 wd n=.iface z58 (.agg [.int .i64 wd,.int .i64 n,.int .i64 (-1)]):=by unfold formV; rw [h,h2]; rfl
theorem day_s (y m k wd n:Int):z129 y m k wd n=some (dayV y m k wd n):=by
 rw [z1f7,form_s]
 simp only [oB,z1j8]
 rw [z165]
 unfold dayV canBL
 cases hr:rightV k wd n with
 | false=>rfl
 | true =>
 simp only [Bool.not_true,cond_false,Bool.true_and]
 by_cases hm1:m<1
 ·rw [c_ltT hm1]
  have:leB 1 m=false:=decide_eq_false (by omega)
  rw [this]; rfl
 by_cases hm2:12<m
 ·rw [c_ltF hm1,c_ltT hm2]
  have:leB m 12=false:=decide_eq_false (by omega)
  rw [this]; simp
 rw [c_ltF hm1,c_ltF hm2]
 have e1:leB 1 m=true:=decide_eq_true (by omega)
 have e2:leB m 12=true:=decide_eq_true (by omega)
 rw [e1,e2,z164,z163]
 by_cases hy1:y≤-4718
 ·rw [c_leT hy1]
  have:yearB y=false:=by rw [Bool.eq_false_iff,ne_eq,zh5]; omega
  rw [this]; rfl
 by_cases hy2:294282≤y
 ·rw [c_leF hy1,c_leT hy2]
  have:yearB y=false:=by rw [Bool.eq_false_iff,ne_eq,zh5]; omega
  rw [this]; rfl
 rw [c_leF hy1,c_leF hy2]
 have hy:-4718<y∧y<294282:=by omega
 have hyb:yearB y=true:=(zh5 y).2 hy
 have hf:=zzs hy (by omega:1≤m) (by omega)
 have hl:=z7a y m (by omega) (by omega)
 have hd0:ze0 y m 1=some (.tuple [.int .i64 (dayI y m 1),.int .i64 0]):=by rw [civ_days,daysV,z13x hy (by omega:1≤m) (by omega)]; rfl
 rw [hyb]
 simp only [Bool.and_self,Bool.not_true,cond_false]
 rcases right_cases hr with ⟨rfl,rfl,h1,h2⟩ | ⟨rfl,rfl,h1,h2⟩ | ⟨hk,h1,h2,h3,h4⟩
 ·rw [z1lj ((zkj n).2 ⟨h1,h2⟩),c6_fixed,hd0]
  simp only [oB,PV.tnth,nthD,PV.toI]
  rw [w64 (n:=dayI y m 1+n) (by omega) (by omega),w64 (n:=dayI y m 1+n-1) (by omega) (by omega)]
  unfold dayK
  rw [if_pos rfl]
 ·rw [z1lk ((zqc wd).2 ⟨h1,h2⟩),c6_final,hd0,civ_len (by omega) (by omega)]
  simp only [oB,PV.tnth,nthD,PV.toI]
  rw [w64 (n:=dayI y m 1+lenI y m) (by omega) (by omega),w64 (n:=dayI y m 1+lenI y m-1) (by omega) (by omega),to_s2 h1 h2 (by omega) (by omega)]
  unfold dayK
  rw [if_neg (by omega),if_pos rfl]
  rfl
 ·rcases hk with rfl | rfl
  ·rw [form_on ((zqc wd).2 ⟨h1,h2⟩) ((zkj n).2 ⟨h3,h4⟩),c6_near,hd0]
   simp only [oB,PV.tnth,nthD,PV.toI]
   rw [w64 (n:=dayI y m 1+n) (by omega) (by omega),w64 (n:=dayI y m 1+n-1) (by omega) (by omega),to_s1 h1 h2 (by omega) (by omega)]
   unfold dayK
   rw [if_neg (by omega),if_neg (by omega),if_pos rfl]
   rfl
  ·rw [form_back ((zqc wd).2 ⟨h1,h2⟩) ((zkj n).2 ⟨h3,h4⟩),c6_near,hd0]
   simp only [oB,PV.tnth,nthD,PV.toI]
   rw [w64 (n:=dayI y m 1+n) (by omega) (by omega),w64 (n:=dayI y m 1+n-1) (by omega) (by omega),to_s2 h1 h2 (by omega) (by omega)]
   unfold dayK
   rw [if_neg (by omega),if_neg (by omega),if_neg (by omega)]
   rfl
def dvR (n:Int):PV:=.tuple [.int .i64 n,.int .i64 0]
theorem rday_on {wd x4:Int} (h0:0≤wd) (h6:wd≤6):∀ (j:Nat) (n i:Int),-1000000000≤n→n+j≤1000000000→0≤i→i+j≤6→(wd-wkI n) % 7=j→z2j n i 2 wd x4=some (dvR (onI n wd))
 | 0,n,i,hn,hn2,hi,hi2,hj=>by
  have hw:=zef n
  rw [z2i,c_ltT (by omega),c_ltT (by omega),zlm]
  simp only [oB,PV.toI]
  rw [c_not,c_eqT (by omega)]
  unfold onI; rw [hj]; simp [dvR]
 | j+1,n,i,hn,hn2,hi,hi2,hj=>by
  have hw:=zef n
  rw [z2i,c_ltT (by omega),c_ltT (by omega),zlm]
  simp only [oB,PV.toI]
  rw [c_not,c_eqF (by intro h; rw [h] at hj; simp at hj; omega),zb4,c_eqT (by omega),w64 (by omega) (by omega),w64 (by omega) (by omega)]
  have hs:=z1h4 n
  have hx:(wd-wkI (n+1)) % 7=j:=by
   rw [hs]; split <;> omega
  rw [rday_on h0 h6 j (n+1) (i+1) (by omega) (by omega) (by omega) (by omega) hx]
  unfold onI
  congr 2
  omega
theorem z140 {wd k x4:Int} (hk:k=1∨k=3) (h0:0≤wd) (h6:wd≤6):∀ (j:Nat) (n i:Int),-1000000000≤n-j→n≤1000000000→0≤i→i+j≤6→(wkI n-wd) % 7=j→z2j n i k wd x4=some (dvR (backI n wd))
 | 0,n,i,hn,hn2,hi,hi2,hj=>by
  have hw:=zef n
  rw [z2i,c_ltT (by omega),c_ltT (by omega),zlm]
  simp only [oB,PV.toI]
  rw [c_not,c_eqT (by omega)]
  unfold backI; rw [hj]; simp [dvR]
 | j+1,n,i,hn,hn2,hi,hi2,hj=>by
  have hw:=zef n
  rw [z2i,c_ltT (by omega),c_ltT (by omega),zlm]
  simp only [oB,PV.toI]
  rw [c_not,c_eqF (by intro h; rw [h] at hj; simp at hj; omega),zb4,c_eqF (by omega),w64 (by omega) (by omega),w64 (by omega) (by omega)]
  have hs:=z1h5 n
  have hx:(wkI (n-1)-wd) % 7=j:=by
   rw [hs]; split <;> omega
  rw [z140 hk h0 h6 j (n-1) (i+1) (by omega) (by omega) (by omega) (by omega) hx]
  unfold backI
  congr 2
  omega
theorem rday_s (y m k wd n:Int):zdu y m k wd n=some (dayV y m k wd n):=by
 rw [zt8,z1i0]
 simp only [oB,PV.toB]
 rw [zm8]
 unfold dayV canBL
 cases hr:rightV k wd n with
 | false=>rfl
 | true =>
 simp only [Bool.not_true,cond_false,Bool.true_and]
 by_cases hm1:m<1
 ·rw [c_ltT hm1]
  have:leB 1 m=false:=decide_eq_false (by omega)
  rw [this]; rfl
 by_cases hm2:12<m
 ·rw [c_ltF hm1,c_ltT hm2]
  have:leB m 12=false:=decide_eq_false (by omega)
  rw [this]; simp
 rw [c_ltF hm1,c_ltF hm2]
 have e1:leB 1 m=true:=decide_eq_true (by omega)
 have e2:leB m 12=true:=decide_eq_true (by omega)
 rw [e1,e2,zm7,zm6]
 by_cases hy1:y≤-4718
 ·rw [c_leT hy1]
  have:yearB y=false:=by rw [Bool.eq_false_iff,ne_eq,zh5]; omega
  rw [this]; rfl
 by_cases hy2:294282≤y
 ·rw [c_leF hy1,c_leT hy2]
  have:yearB y=false:=by rw [Bool.eq_false_iff,ne_eq,zh5]; omega
  rw [this]; rfl
 rw [c_leF hy1,c_leF hy2]
 have hy:-4718<y∧y<294282:=by omega
 have hyb:yearB y=true:=(zh5 y).2 hy
 have hf:=zzs hy (by omega:1≤m) (by omega)
 have hl:=z7a y m (by omega) (by omega)
 rw [hyb,zm5,ref_days,z13z (by omega) (by omega)]
 simp only [daysV,z13x hy (by omega:1≤m) (by omega),cond_true,oB,PV.tnth,nthD,PV.toI,Bool.not_true,cond_false,Bool.and_self,zm4]
 rcases right_cases hr with ⟨rfl,rfl,h1,h2⟩ | ⟨rfl,rfl,h1,h2⟩ | ⟨hk,h1,h2,h3,h4⟩
 ·rw [c_eqF (by omega),w64 (n:=dayI y m 1+n) (by omega) (by omega),w64 (n:=dayI y m 1+n-1) (by omega) (by omega),z2i,c_ltT (by omega),c_ltF (by omega)]
  unfold dayK
  rw [if_pos rfl]
 ·rw [c_eqT rfl,w64 (n:=dayI y m 1+lenI y m) (by omega) (by omega),w64 (n:=dayI y m 1+lenI y m-1) (by omega) (by omega),
   z140 (.inl rfl) h1 h2 ((wkI (dayI y m 1+lenI y m-1)-wd) % 7).toNat _ 0 (by omega) (by omega) (by omega) (by omega) (by omega)]
  unfold dayK
  rw [if_neg (by omega),if_pos rfl]
  rfl
 ·rw [c_eqF (by omega),w64 (n:=dayI y m 1+n) (by omega) (by omega),w64 (n:=dayI y m 1+n-1) (by omega) (by omega)]
  rcases hk with rfl | rfl
  ·rw [rday_on h1 h2 ((wd-wkI (dayI y m 1+n-1)) % 7).toNat _ 0 (by omega) (by omega) (by omega) (by omega) (by omega)]
   unfold dayK
   rw [if_neg (by omega),if_neg (by omega),if_pos rfl]
   rfl
  ·rw [z140 (.inr rfl) h1 h2 ((wkI (dayI y m 1+n-1)-wd) % 7).toNat _ 0 (by omega) (by omega) (by omega) (by omega) (by omega)]
   unfold dayK
   rw [if_neg (by omega),if_neg (by omega),if_neg (by omega)]
   rfl
end Dv

namespace Dv
open Go
abbrev Small (s:List UInt8):Prop:=s.length≤70368744177664
def begB (s t:List UInt8):Bool:=leN s.length t.length&&sameB s (t.take s.length)
def findI (s:List UInt8):Nat→List (List UInt8)→Int
 | _,[]=>-1
 | i,t::r=>bif begB s t then (i:Int) else findI s (i+1) r
def z1ct (s:List UInt8) (l:List (List UInt8)):Int:=if s.length<3 then -1 else findI s 0 l
def zye:List (List UInt8):=[[83,117,110,100,97,121],[77,111,110,100,97,121],[84,117,101,115,100,97,121],[87,101,100,110,101,115,100,97,121],[84,104,117,114,115,100,97,121],[70,114,105,100,97,121],[83,97,116,117,114,100,97,121]]
end Dv

namespace Dv
open Go
def digB (c:UInt8):Bool:=decide (48≤c.toNat∧c.toNat≤57)
def badV:PV:=.tuple [.int .i64 0,.int .i64 13]
def numG:List UInt8→Int→Bool→PV
 | [],n,o=>bif o then .tuple [.int .i64 0,.int .i64 10] else .tuple [.int .i64 n,.int .i64 0]
 | c::r,n,o=>bif digB c then (bif o then numG r 0 true else bif leB (10*n+((c.toNat:Int)-48)) 9223372036854775807 then numG r (10*n+((c.toNat:Int)-48)) false else numG r 0 true) else badV
def numV (s:List UInt8):PV:=bif eqS s [] then badV else numG s 0 false
end Dv

namespace Dv
open Go
def z10c (c:UInt8):List UInt8→List (List UInt8)
 | []=>[[]]
 | x::r=>if x=c then []::z10c c r else match z10c c r with
  | p::ps=>(x::p)::ps
  | []=>[[x]]
end Dv

namespace Dv
open Go
def numN (s:List UInt8):Int:=((numV s).tnth 0).toI
def numE (s:List UInt8):Int:=((numV s).tnth 1).toI
def okSh (s:List UInt8):Bool:=eqB (numE s) 0&&leB ((s.length:Nat):Int) 2
def z1hp (s:List UInt8):Int:=if okSh s then numN s else -1
def okMS (t:List UInt8):Bool:=okSh t&&(eqB ((t.length:Nat):Int) 2&&ltB (numN t) 60)
def allOk:List (List UInt8)→Bool
 | []=>true
 | t::r=>okMS t&&allOk r
def accN:Int→Int→List (List UInt8)→Int
 | n,_,[]=>n
 | n,u,t::r=>accN (IntKind.i64.wrap (n+IntKind.i64.wrap (numN t*u))) (IntKind.i64.wrap (u.tdiv 60)) r
def okSec (l:List (List UInt8)):Bool :=
 match l with
 | h::r=>okSh h&&allOk r&&leB (((h::r).length:Nat):Int) 3
 | []=>false
def secN (l:List (List UInt8)):Int :=
 match l with
 | h::r=>accN (IntKind.i64.wrap (numN h*3600)) 60 r
 | []=>0
def secI (l:List (List UInt8)):Int:=if okSec l then secN l else -1
end Dv

namespace Dv
open Go
def glue (p:List UInt8):List (List UInt8)→List (List UInt8)
 | q::qs=>(p++q)::qs
 | []=>[p]
end Dv

namespace Dv
open Go
def rightAt (sec k:Int):Bool:=leB 0 sec&&(leB sec 86400&&(eqB k 119||(eqB k 115||eqB k 117)))
theorem atRight_s (sec k:Int):zlc sec k=some (.bool (rightAt sec k)):=by
 rw [z11j]; unfold rightAt
 cases leB 0 sec <;> cases leB sec 86400 <;> cases eqB k 119 <;> cases eqB k 115 <;> rfl
theorem z1d7 (sec k:Int):z8h sec k=some (.bool (rightAt sec k)):=by
 rw [zks]; unfold rightAt
 cases leB 0 sec <;> cases leB sec 86400 <;> cases eqB k 119 <;> cases eqB k 115 <;> rfl
def badAt:PV:=.tuple [.agg [.int .i64 0,.int .u8 0],.int .i64 21]
def goodAt (sec k:Int):PV:=.tuple [.agg [.int .i64 sec,.int .u8 k],.int .i64 0]
def atV (s:List UInt8) (k:Int):PV:=bif rightAt (secI (z10c 58 s)) k then goodAt (secI (z10c 58 s)) k else badAt
def letK (c:UInt8):Int:=if c=103∨c=122 then 117 else if c=119∨c=115∨c=117 then c.toNat else 0
def readAtV (s:List UInt8):PV :=
 bif eqS s [45] then goodAt 0 119 else
 match s.getLast? with
 | none=>atV s 119
 | some c=>if letK c=0 then atV s 119 else atV s.dropLast (letK c)
theorem u8_eq {c:UInt8} {n:Nat} (hn:n<256):(c.toNat:Int)=(n:Int)↔c=UInt8.ofNat n:=by
 constructor
 ·intro h
  apply UInt8.toNat_inj.1
  rw [UInt8.toNat_ofNat']
  omega
 ·rintro rfl
  rw [UInt8.toNat_ofNat']
  omega
def badSave:PV:=.tuple [.int .i64 0,.int .i64 21]
def z1j5 (n:Int):PV:=.tuple [.int .i64 n,.int .i64 0]
def saveV (s:List UInt8) (neg:Bool):PV:=if secI (z10c 58 s)<0∨86400<secI (z10c 58 s) then badSave else z1j5 (if neg then 0-secI (z10c 58 s) else secI (z10c 58 s))
def readSaveV (s:List UInt8):PV :=
 bif eqS s [45] then z1j5 0 else
 match s with
 | []=>saveV [] false
 | c::r=>if c=45 then saveV r true else saveV (c::r) false
end Dv

namespace Dv
open Go
def badOn:PV:=.tuple [.agg [.int .i64 0,.int .i64 0,.int .i64 0],.int .i64 21]
def goodOn (k wd n:Int):PV:=.tuple [.agg [.int .i64 k,.int .i64 wd,.int .i64 n],.int .i64 0]
def resOn (ok:Bool) (k wd n:Int):PV:=bif ok then goodOn k wd n else badOn
def wdN (wd:List UInt8):Int:=if wd=[] then 0 else z1ct wd zye
def dnN (n:List UInt8):Int:=if n=[] then 0 else numN n
def dnOk (n:List UInt8):Bool:=if n=[] then true else okSh n
def pairOn (k:Int) (wd n:List UInt8):PV:=resOn (rightV k (z1ct wd zye) (z1hp n)) k (z1ct wd zye) (z1hp n)
def lastB:List UInt8:=[108,97,115,116]
def aheadB (s:List UInt8) (c:UInt8):Bool:=decide (0<Lib.indexByte s 61)&&decide (s[(Lib.indexByte s 61-1).toNat]?=some c)
def lastAt (s:List UInt8):Bool:=decide (4<s.length)&&sameB (s.take 4) lastB
def readOnV (s:List UInt8):PV :=
 bif lastAt s then resOn (rightV 1 (z1ct (s.drop 4) zye) 0) 1 (z1ct (s.drop 4) zye) 0 else
 bif aheadB s 62 then pairOn 2 (s.take (Lib.indexByte s 61-1).toNat) (s.drop (Lib.indexByte s 61+1).toNat) else
 bif aheadB s 60 then pairOn 3 (s.take (Lib.indexByte s 61-1).toNat) (s.drop (Lib.indexByte s 61+1).toNat) else
 resOn (rightV 0 0 (z1hp s)) 0 0 (z1hp s)
end Dv

namespace Dv
open Go
end Dv

namespace Dv
open Go
def dgB (n:Int):UInt8:=UInt8.ofNat (48+n).toNat
def twoB (n:Int):List UInt8:=[dgB (n / 10),dgB (n % 10)]
def ztx (n:Int):List UInt8:=if n<10 then [dgB n] else twoB n
theorem dgB_val {n:Int} (h0:0≤n) (h1:n≤9):(PV.int .u8 (IntKind.u8.wrap (IntKind.u64.wrap (48+n))))=byteV (dgB n):=by
 rw [wu64 (by omega) (by omega),wu8 (by omega) (by omega)]
 unfold byteV dgB
 congr 1
 rw [UInt8.toNat_ofNat']
 omega
def zeros (k:Nat):List PV:=List.replicate k (.int .u8 0)
theorem digits2 {a:Int} (h0:0≤a) (h1:a<100):z8l a 2=some (.str (twoB a)):=by
 rw [zpy]
 have e20:IntKind.i64.wrap (20-1)=19:=by decide
 have e19:IntKind.i64.wrap (19-1)=18:=by decide
 have e18:IntKind.i64.wrap (20-2)=18:=by decide
 have c5a:∀ l x4,z3t a 2 20 l x4=(stC l 19 0 [byteV (dgB (a % 10))]).bind fun v=>z2w (a / 10) 2 19 v x4:=by
  intro l x4
  rw [zcf,e20,c_inT (by omega),z61 h0,z3w h0,dgB_val (by omega) (by omega),wu64 (n:=a / 10) (by omega) (by omega)]; rfl
 have c5b:∀ l x4,z3t (a / 10) 2 19 l x4=(stC l 18 0 [byteV (dgB (a / 10))]).bind fun v=>z2w 0 2 18 v x4:=by
  intro l x4
  have h2:a / 10 % 10=a / 10:=by omega
  have h3:a / 10 / 10=0:=by omega
  rw [zcf,e19,c_inT (by omega),z61 (by omega),z3w (by omega),h2,h3,dgB_val (by omega) (by omega)]; rfl
 have c3a:∀ l x4,z2w a 2 20 l x4=z3t a 2 20 l x4:=by
  intro l x4
  rw [z44,e18]
  by_cases h:0<a
  ·rw [c_ltT h]
  ·rw [c_ltF h,c_ltT (by omega)]
 have c3b:∀ l x4,z2w (a / 10) 2 19 l x4=z3t (a / 10) 2 19 l x4:=by
  intro l x4
  rw [z44,e18]
  by_cases h:0<a / 10
  ·rw [c_ltT h]
  ·rw [c_ltF h,c_ltT (by omega)]
 rw [c3a,c5a]
 have s1:∀ v,stC [PV.int .u8 0,PV.int .u8 0,PV.int .u8 0,PV.int .u8 0,PV.int .u8 0,PV.int .u8 0,PV.int .u8 0,PV.int .u8 0,PV.int .u8 0,PV.int .u8 0,PV.int .u8 0,PV.int .u8 0,PV.int .u8 0,PV.int .u8 0,PV.int .u8 0,PV.int .u8 0,PV.int .u8 0,PV.int .u8 0,PV.int .u8 0,PV.int .u8 0] 19 0 [v] =
  some [PV.int .u8 0,PV.int .u8 0,PV.int .u8 0,PV.int .u8 0,PV.int .u8 0,PV.int .u8 0,PV.int .u8 0,PV.int .u8 0,PV.int .u8 0,PV.int .u8 0,PV.int .u8 0,PV.int .u8 0,PV.int .u8 0,PV.int .u8 0,PV.int .u8 0,PV.int .u8 0,PV.int .u8 0,PV.int .u8 0,PV.int .u8 0,v]:=fun _=>rfl
 rw [s1]
 simp only [oB]
 rw [c3b,c5b]
 have s2:∀ u v,stC [PV.int .u8 0,PV.int .u8 0,PV.int .u8 0,PV.int .u8 0,PV.int .u8 0,PV.int .u8 0,PV.int .u8 0,PV.int .u8 0,PV.int .u8 0,PV.int .u8 0,PV.int .u8 0,PV.int .u8 0,PV.int .u8 0,PV.int .u8 0,PV.int .u8 0,PV.int .u8 0,PV.int .u8 0,PV.int .u8 0,PV.int .u8 0,u] 18 0 [v] =
  some [PV.int .u8 0,PV.int .u8 0,PV.int .u8 0,PV.int .u8 0,PV.int .u8 0,PV.int .u8 0,PV.int .u8 0,PV.int .u8 0,PV.int .u8 0,PV.int .u8 0,PV.int .u8 0,PV.int .u8 0,PV.int .u8 0,PV.int .u8 0,PV.int .u8 0,PV.int .u8 0,PV.int .u8 0,PV.int .u8 0,v,u]:=fun _ _=>rfl
 rw [s2]
 simp only [oB]
 rw [z44,e18,c_ltF (by omega),c_ltF (by omega),z11e (by rfl),z11e (by rfl),decide_eq_true (by omega),cond_true]
 have e:z7h (List.take (20-(18:Int).toNat) (List.drop (18:Int).toNat [PV.int .u8 0,PV.int .u8 0,PV.int .u8 0,PV.int .u8 0,PV.int .u8 0,PV.int .u8 0,PV.int .u8 0,PV.int .u8 0,PV.int .u8 0,PV.int .u8 0,PV.int .u8 0,PV.int .u8 0,PV.int .u8 0,PV.int .u8 0,PV.int .u8 0,PV.int .u8 0,PV.int .u8 0,PV.int .u8 0,byteV (dgB (a / 10)),byteV (dgB (a % 10))]))=some (twoB a):=z75 (twoB a)
 rw [e]; rfl
theorem z1he {a:Int} (h0:0≤a) (h1:a<100):z3d a=some (.str (twoB a)):=by
 rw [z11a,c_leT h0,wu64 h0 (by omega),digits2 h0 h1]; rfl
end Dv

namespace Dv
open Go
def dayN3 (wd:Int):List UInt8:=nthD [] [[83,117,110],[77,111,110],[84,117,101],[87,101,100],[84,104,117],[70,114,105],[83,97,116]] wd.toNat
def txtOn (k wd n:Int):List UInt8 :=
 if k=1 then [108,97,115,116]++dayN3 wd else if k=2 then dayN3 wd++[62,61]++ztx n else if k=3 then dayN3 wd++[60,61]++ztx n else ztx n
def z1fi (k wd n:Int):PV:=bif rightV k wd n then .tuple [.str (txtOn k wd n),.int .i64 0] else .tuple [.str [],.int .i64 1]
theorem wdcases {wd:Int} (h0:0≤wd) (h6:wd≤6):wd=0∨wd=1∨wd=2∨wd=3∨wd=4∨wd=5∨wd=6:=by omega
theorem dayN3_len {wd:Int} (h0:0≤wd) (h6:wd≤6):(dayN3 wd).length=3:=by
 rcases wdcases h0 h6 with rfl | rfl | rfl | rfl | rfl | rfl | rfl <;> rfl
theorem z1kw (n:Int):(ztx n).length≤2:=by unfold ztx; split <;> simp [twoB]
theorem dgB_48 {n:Int} (h0:0≤n) (h9:n≤9):dgB n=48↔n=0:=by
 constructor
 ·intro h
  have:=congrArg UInt8.toNat h
  unfold dgB at this
  rw [UInt8.toNat_ofNat'] at this
  have e:(48:UInt8).toNat=48:=rfl
  omega
 ·rintro rfl; rfl
theorem trim_two {n:Int} (h0:0≤n) (h1:n<100):z2r (twoB n) [48]=some (.str (ztx n)):=by
 rw [z7z,z5u,z1o]
 have e1:(((List.length [(48:UInt8)]:Nat)):Int)=1:=rfl
 have e2:((((twoB n).length:Nat)):Int)=2:=rfl
 have e3:List.take (1:Int).toNat (twoB n)=[dgB (n / 10)]:=rfl
 have e4:List.drop (1:Int).toNat (twoB n)=[dgB (n % 10)]:=rfl
 rw [e1,e2,c_leT (by omega),z12i (by omega) (by rw [e2]; omega),zlv (by omega) (by rw [e2]; omega),e3,e4]
 simp only [oB,ze]
 unfold ztx
 by_cases h:n<10
 ·have hd:n / 10=0:=by omega
  have hm:n % 10=n:=by omega
  rw [if_pos h,hd,hm,zyk (by rfl)]; rfl
 ·have hne:¬ [dgB (n / 10)]=[(48:UInt8)]:=by
   intro he
   have he:=List.head_eq_of_cons_eq he
   have:=(dgB_48 (by omega) (by omega)).1 he
   omega
  rw [if_neg h,zul hne]; rfl
theorem textOn_s (k wd n:Int):zuq k wd n=some (z1fi k wd n):=by
 rw [z161,form_s]
 simp only [oB,z1j8]
 unfold z1fi
 cases hr:rightV k wd n with
 | false=>rfl
 | true =>
 simp only [Bool.not_true,cond_false,cond_true]
 have hb:0≤wd∧wd≤6∧0≤n∧n≤31∧(k=0∨k=1∨k=2∨k=3):=by rcases right_cases hr with h | h | h <;> omega
 obtain ⟨h0,h6,n0,n1,hk⟩:=hb
 have hrd:rdC tiStr [(PV.str [(83:UInt8),(117:UInt8),(110:UInt8)]),(PV.str [(77:UInt8),(111:UInt8),(110:UInt8)]),(PV.str [(84:UInt8),(117:UInt8),(101:UInt8)]),(PV.str [(87:UInt8),(101:UInt8),(100:UInt8)]),(PV.str [(84:UInt8),(104:UInt8),(117:UInt8)]),(PV.str [(70:UInt8),(114:UInt8),(105:UInt8)]),(PV.str [(83:UInt8),(97:UInt8),(116:UInt8)])] wd.toNat=some (.str (dayN3 wd)):=by
  rcases wdcases h0 h6 with rfl | rfl | rfl | rfl | rfl | rfl | rfl <;> rfl
 have hl:=dayN3_len h0 h6
 have hl2:=z1kw n
 rw [c_inT ⟨h0,by omega⟩,hrd,z1he n0 (by omega)]
 simp only [oB,zg]
 rw [trim_two n0 (by omega)]
 simp only [oB,zg]
 unfold txtOn
 rw [z9 (by simp [hl]),z9 (by simp [hl]),z9 (by simp [hl])]
 simp only [oB]
 rw [z9 (by simp only [List.length_append,hl]; simp <;> omega),z9 (by simp only [List.length_append,hl]; simp <;> omega)]
 simp only [oB]
 rcases hk with rfl | rfl | rfl | rfl
 ·rw [c_eqF (by omega),c_eqF (by omega),c_eqF (by omega),if_neg (by omega),if_neg (by omega),if_neg (by omega)]
 ·rw [c_eqT rfl,if_pos rfl]
 ·rw [c_eqF (by omega),c_eqT rfl,if_neg (by omega),if_pos rfl]
 ·rw [c_eqF (by omega),c_eqF (by omega),c_eqT rfl,if_neg (by omega),if_neg (by omega),if_pos rfl]
def isOn (v:PV) (k wd n:Int):Bool :=
 match v with
 | .tuple [.agg [.int .i64 a,.int .i64 b,.int .i64 c],.int .i64 e]=>eqB a k&&(eqB b wd&&(eqB c n&&eqB e 0))
 | _=>false
def backOn (k wd n:Nat):Bool:=isOn (readOnV (txtOn k wd n)) k wd n
def txtAt (sec k:Int):List UInt8 :=
 ztx (sec / 3600)++([58]++(twoB (sec / 60 % 60)++((if sec % 60=0 then [] else [58]++twoB (sec % 60))++(if k=119 then [] else [UInt8.ofNat k.toNat]))))
def z1fj (sec k:Int):PV:=bif rightAt sec k then .tuple [.str (txtAt sec k),.int .i64 0] else .tuple [.str [],.int .i64 1]
theorem z10o {sec k:Int} (h:rightAt sec k=true):0≤sec∧sec≤86400∧(k=119∨k=115∨k=117):=by
 unfold rightAt at h
 simp only [Bool.and_eq_true,Bool.or_eq_true] at h
 obtain ⟨h1,h2,h3⟩:=h
 exact ⟨of_decide_eq_true h1,of_decide_eq_true h2,h3.imp of_decide_eq_true (Or.imp of_decide_eq_true of_decide_eq_true)⟩
theorem at_c8 (x:List UInt8) (hx:x.length≤100) (sec k:Int) (hk:k=119∨k=115∨k=117):ze4 x sec k=some (.tuple [.str (x++(if k=119 then [] else [UInt8.ofNat k.toNat])),.int .i64 0]):=by
 rw [zyy,c_not]
 rcases hk with rfl | rfl | rfl
 ·rw [c_eqT rfl,if_pos rfl,List.append_nil]
 ·have e:encR (IntKind.i32.wrap 115)=[115]:=by kernel_rfl
  rw [c_eqF (by omega),if_neg (by omega),e,z9 (by simp; omega)]; rfl
 ·have e:encR (IntKind.i32.wrap 117)=[117]:=by kernel_rfl
  rw [c_eqF (by omega),if_neg (by omega),e,z9 (by simp; omega)]; rfl
theorem at_c6 (x:List UInt8) (hx:x.length≤90) {sec k:Int} (h0:0≤sec) (hk:k=119∨k=115∨k=117) :
  ze5 x sec k=some (.tuple [.str (x++((if sec % 60=0 then [] else [58]++twoB (sec % 60))++(if k=119 then [] else [UInt8.ofNat k.toNat]))),.int .i64 0]):=by
 have l2:(twoB (sec % 60)).length=2:=rfl
 rw [zyz,c_not,z61 h0]
 by_cases h:sec % 60=0
 ·rw [c_eqT h,if_pos h,at_c8 x (by omega) sec k hk,List.nil_append]
 ·rw [c_eqF h,if_neg h,z1he (by omega) (by omega)]
  simp only [oB,zg]
  rw [z9 (by rw [l2]; simp)]
  simp only [oB]
  rw [z9 (by simp [l2]; omega)]
  simp only [oB]
  rw [at_c8 _ (by simp [l2]; omega) sec k hk,List.append_assoc]
theorem textAt_s {sec k:Int} (hs:In64 sec):zur sec k=some (z1fj sec k):=by
 rw [z162,atRight_s]
 simp only [oB,ze]
 unfold z1fj
 cases hr:rightAt sec k with
 | false=>rfl
 | true =>
 obtain ⟨h0,h1,hk⟩:=z10o hr
 have l2:∀ n,(twoB n).length=2:=fun _=>rfl
 simp only [Bool.not_true,cond_false,cond_true]
 rw [z3w h0,z3w h0,w64 (n:=sec / 3600) (by omega) (by omega),w64 (n:=sec / 60) (by omega) (by omega),z61 (by omega),z1he (by omega) (by omega),z1he (by omega) (by omega)]
 simp only [oB,zg]
 rw [z9 (by simp [l2])]
 simp only [oB]
 rw [z9 (by simp [l2])]
 simp only [oB]
 have hat:atS (twoB (sec / 3600)++[58]++twoB (sec / 60 % 60)) 0=some (((dgB (sec / 3600 / 10)).toNat:Nat):Int):=atS_z rfl
 rw [hat]
 simp only [oB]
 have q:((dgB (sec / 3600 / 10)).toNat:Int)=48↔dgB (sec / 3600 / 10)=48:=u8_eq (n:=48) (by omega)
 have hq:=dgB_48 (n:=sec / 3600 / 10) (by omega) (by omega)
 unfold txtAt ztx
 by_cases h:sec / 3600<10
 ·rw [c_eqT (q.2 (hq.2 (by omega))),if_pos h,zlv (by omega) (by simp [l2])]
  simp only [oB]
  have e:List.drop (1:Int).toNat (twoB (sec / 3600)++[58]++twoB (sec / 60 % 60))=[dgB (sec / 3600)]++([58]++twoB (sec / 60 % 60)):=by
   have:sec / 3600 % 10=sec / 3600:=by omega
   show [dgB (sec / 3600 % 10)]++([58]++twoB (sec / 60 % 60))=_
   rw [this]
  rw [e,at_c6 _ (by simp [l2]) h0 hk]
  simp only [List.append_assoc]
 ·rw [c_eqF (fun hh=>by have:=hq.1 (q.1 hh); omega),if_neg h,at_c6 _ (by simp [l2]) h0 hk]
  simp only [List.append_assoc]
def numIs (s:List UInt8) (n:Nat):Bool:=okSh s&&eqB (numN s) n&&allB (fun c=>!(c == 58)&&!(c == 45)) s
def bodyAt (sec:Int):List UInt8:=ztx (sec / 3600)++([58]++(twoB (sec / 60 % 60)++(if sec % 60=0 then [] else [58]++twoB (sec % 60))))
end Dv

set_option maxRecDepth 20000
namespace Dv
open Go
theorem z1dl (n:Int) {wd:Int} (h0:0≤wd) (h6:wd≤6):backI n wd≤n∧n-7<backI n wd:=by
 unfold backI wkI
 refine ⟨?_,?_⟩ <;> omega
theorem near_on (n:Int) {wd:Int} (h0:0≤wd) (h6:wd≤6):n≤onI n wd∧onI n wd<n+7:=by
 unfold onI wkI
 refine ⟨?_,?_⟩ <;> omega
theorem z1jo {y m k wd n:Int} (hr:rightV k wd n=true) (h1:1≤m) (h2:m≤12):dayI y m 1-6≤dayK y m k wd n∧dayK y m k wd n≤dayI y m 1+36:=by
 have hl:=z7a y m h1 h2
 rcases right_cases hr with ⟨rfl,rfl,a1,a2⟩ | ⟨rfl,rfl,a1,a2⟩ | ⟨hk,a1,a2,a3,a4⟩
 ·unfold dayK; rw [if_pos rfl]; omega
 ·have:=z1dl (dayI y m 1+lenI y m-1) a1 a2
  unfold dayK; rw [if_neg (by omega),if_pos rfl]; omega
 ·rcases hk with rfl | rfl
  ·have:=near_on (dayI y m 1+n-1) a1 a2
   unfold dayK; rw [if_neg (by omega),if_neg (by omega),if_pos rfl]; omega
  ·have:=z1dl (dayI y m 1+n-1) a1 a2
   unfold dayK; rw [if_neg (by omega),if_neg (by omega),if_neg (by omega)]; omega
theorem first_gap {y m1 m2:Int} (h1:1≤m1) (h2:m1+2≤m2) (h3:m2≤12):dayI y m1 1+59≤dayI y m2 1:=by
 have e1:m1=1∨m1=2∨m1=3∨m1=4∨m1=5∨m1=6∨m1=7∨m1=8∨m1=9∨m1=10:=by omega
 have e2:m2=3∨m2=4∨m2=5∨m2=6∨m2=7∨m2=8∨m2=9∨m2=10∨m2=11∨m2=12:=by omega
 unfold dayI z1g
 rcases e1 with rfl | rfl | rfl | rfl | rfl | rfl | rfl | rfl | rfl | rfl <;> rcases e2 with rfl | rfl | rfl | rfl | rfl | rfl | rfl | rfl | rfl | rfl <;> first | (exfalso; omega) | (cases leapI y <;> simp <;> omega)
theorem year_gap {y m1 m2:Int} (h1:1≤m1) (h2:m2≤m1+10) (h3:m2≤12) (h4:1≤m2) (h5:m1≤12):dayI y m2 1+59≤dayI (y+1) m1 1:=by
 have hj:=zp4 y
 have e1:m1=1∨m1=2∨3≤m1:=by omega
 have b1:=ze7 (y:=y+1) h1 h5
 have key:∀ m:Int,1≤m→m≤12→z1g y m≤31*(m-1)∧(m=12→z1g y m=334+(if leapI y then 1 else 0))∧(m≤11→z1g y m≤304+(if leapI y then 1 else 0)):=by
  intro m h1 h2
  have e:m=1∨m=2∨m=3∨m=4∨m=5∨m=6∨m=7∨m=8∨m=9∨m=10∨m=11∨m=12:=by omega
  unfold z1g
  rcases e with rfl | rfl | rfl | rfl | rfl | rfl | rfl | rfl | rfl | rfl | rfl | rfl <;> cases leapI y <;> simp
 have k2:=key m2 h4 h3
 have lo:m1=2→z1g (y+1) m1=31:=by intro h; subst h; unfold z1g; simp
 have lo3:3≤m1→59≤z1g (y+1) m1:=by
  intro h
  have e:m1=3∨m1=4∨m1=5∨m1=6∨m1=7∨m1=8∨m1=9∨m1=10∨m1=11∨m1=12:=by omega
  unfold z1g
  rcases e with rfl | rfl | rfl | rfl | rfl | rfl | rfl | rfl | rfl | rfl <;> cases leapI (y+1) <;> simp
 unfold dayI
 rw [hj]
 rcases Int.lt_or_le m2 12 with h12 | h12
 ·have:=k2.2.2 (by omega)
  rcases e1 with h | h | h
  ·have:z1g (y+1) m1≥0:=b1.1
   split at*<;> omega
  ·have:=lo h; split at*<;> omega
  ·have:=lo3 h; split at*<;> omega
 ·have hm:m2=12:=by omega
  have:=k2.2.1 hm
  rcases e1 with h | h | h
  ·omega
  ·have:=lo h; split at*<;> omega
  ·have:=lo3 h; split at*<;> omega
def instI (day sec kd off save:Int):Int:=(day+10957)*86400+sec-(if kd=117 then 0 else off)-(if kd=117∨kd=115 then 0 else save)
theorem inst_rng {sec off save:Int} (kd:Int) (h1:0≤sec) (h2:sec≤86400) (h3:-50400≤off) (h4:off≤50400) (h5:0≤save) (h6:save≤7200) (day:Int) :
  (day+10957)*86400-57600≤instI day sec kd off save∧instI day sec kd off save≤(day+10957)*86400+136800:=by
 unfold instI
 split <;> split <;> omega
structure HalfI where
 m:Int
 k:Int
 wd:Int
 n:Int
 sec:Int
 kd:Int
 save:Int
def HalfI.ok (h:HalfI):Prop:=1≤h.m∧h.m≤12∧rightV h.k h.wd h.n=true∧(0≤h.sec∧h.sec≤86400)∧0≤h.save∧h.save≤7200
def HalfI.at (h:HalfI) (y off other:Int):Int:=instI (dayK y h.m h.k h.wd h.n) h.sec h.kd off other
theorem HalfI.rng {h:HalfI} (hk:h.ok) {off other:Int} (y:Int) (h3:-50400≤off) (h4:off≤50400) (h5:0≤other) (h6:other≤7200) :
  (dayI y h.m 1-6+10957)*86400-57600≤h.at y off other∧h.at y off other≤(dayI y h.m 1+36+10957)*86400+136800:=by
 obtain ⟨a1,a2,a3,⟨a4,a5⟩,_⟩:=hk
 have hd:=z1jo (y:=y) a3 a1 a2
 have:=inst_rng h.kd a4 a5 h3 h4 h5 h6 (dayK y h.m h.k h.wd h.n)
 unfold HalfI.at
 omega
theorem half_rise {a b:HalfI} (ha:a.ok) (hb:b.ok) {off:Int} (y:Int) (h3:-50400≤off) (h4:off≤50400) (h2:a.m+2≤b.m):a.at y off b.save<b.at y off a.save:=by
 have r1:=HalfI.rng ha y h3 h4 hb.2.2.2.2.1 hb.2.2.2.2.2
 have r2:=HalfI.rng hb y h3 h4 ha.2.2.2.2.1 ha.2.2.2.2.2
 have g:=first_gap (y:=y) ha.1 h2 hb.2.1
 omega
theorem half_next {a b:HalfI} (ha:a.ok) (hb:b.ok) {off:Int} (y:Int) (h3:-50400≤off) (h4:off≤50400) (h2:b.m≤a.m+10):b.at y off a.save<a.at (y+1) off b.save:=by
 have r1:=HalfI.rng ha (y+1) h3 h4 hb.2.2.2.2.1 hb.2.2.2.2.2
 have r2:=HalfI.rng hb y h3 h4 ha.2.2.2.2.1 ha.2.2.2.2.2
 have g:=year_gap (y:=y) ha.1 h2 hb.2.1 hb.1 ha.2.1
 omega
end Dv

set_option maxRecDepth 20000
namespace Dv
open Go
theorem floor_s {u:Int} (h:In64 u):zzo u=some (.int .i64 (u / 86400)):=by
 rw [z1b0]
 have hf:=zjx (a:=u) (b:=86400) (by omega)
 unfold In64 at h
 by_cases hn:u.tmod 86400<0
 ·rw [if_pos hn] at hf
  rw [c_ltT hn,w64 (n:=u.tdiv 86400) (by omega) (by omega),hf,w64 (by omega) (by omega)]
 ·rw [if_neg hn] at hf
  rw [c_ltF hn,hf,w64 (by omega) (by omega)]
theorem maxI_i (a b:Int):maxI a b=max a b:=by
 unfold maxI
 by_cases h:b>a
 ·rw [decide_eq_true h]; simp only [cond_true]; omega
 ·rw [decide_eq_false h]; simp only [cond_false]; omega
theorem z18w {u:Int} (h:In64 u):∃ y,z88 u=some (.int .i64 y)∧z2x u=some (.int .i64 y)∧-4718≤y∧y≤294282∧(u / 86400-10957 < -2453698→y=-4718):=by
 have hb:-106751991167301≤u / 86400∧u / 86400≤106751991167300:=by unfold In64 at h; omega
 have hr:z2x u=z4d (u / 86400):=by
  rw [zm3]
  have hf:=zjx (a:=u) (b:=86400) (by omega)
  unfold In64 at h
  by_cases hn:u.tmod 86400<0
  ·rw [if_pos hn] at hf
   rw [c_ltT hn,w64 (n:=u.tdiv 86400) (by omega) (by omega),hf,w64 (by omega) (by omega)]
  ·rw [if_neg hn] at hf
   rw [c_ltF hn,hf,w64 (by omega) (by omega)]
 rw [hr,z16x,floor_s h,zi8,zjr,zmg,zdi,z15j (by omega) (by omega) (by omega) (by omega),z15j (by omega) (by omega) (by omega) (by omega),z1a2 (by omega) (by omega) (by omega) (by omega)]
 simp only [oB,zl]
 rw [z150,z1dw,w64 (n:=u / 86400-10957) (by omega) (by omega),maxI_i,minI_i]
 by_cases h1:u / 86400-10957 < -2453698
 ·rw [c_ltT h1,show min (max (u / 86400-10957) (-2453698)) 106754173=-2453698 by omega]
  obtain ⟨y,m,d,e,e1,e2,e3,e4⟩:=z1eg (-2453698)
  have he:e=0:=by
   have hc:z8y (-2453698)=some (.tuple [.int .i64 y,.int .i64 m,.int .i64 d,.int .i64 e]):=e1
   rw [z8x,z15k] at hc
   have hcb:canB (-2453698)=true:=by decide
   rw [hcb] at hc
   obtain ⟨y',m',d',f1,f2,f3⟩:=z1a5 (n:=-2453698) (by omega) (by omega)
   rw [f1] at hc
   simp only [oB,ze,Bool.not_true,cond_false,tn0,tn1,tn2,zl] at hc
   cases hc; rfl
  obtain ⟨g1,g2,g3,g4⟩:=e3 he
  obtain ⟨rfl,rfl,rfl⟩:=z1gt g1 (show okD (-4718) 1 1 by unfold okD; decide) (g2.trans z150.symm)
  rw [e1]
  exact ⟨-4718,rfl,rfl,by omega,by omega,fun _=>rfl⟩
 ·rw [c_ltF h1,show max (u / 86400-10957) (-2453698)=u / 86400-10957 by omega]
  by_cases h2:106754173<u / 86400-10957
  ·rw [show min (u / 86400-10957) 106754173=106754173 by omega]
   obtain ⟨y,m,d,e,e1,e2,e3,e4⟩:=z1eg 106754173
   have he:e=0:=by
    have hc:z8y 106754173=some (.tuple [.int .i64 y,.int .i64 m,.int .i64 d,.int .i64 e]):=e1
    rw [z8x,z15k] at hc
    have hcb:canB 106754173=true:=by decide
    rw [hcb] at hc
    obtain ⟨y',m',d',f1,f2,f3⟩:=z1a5 (n:=106754173) (by omega) (by omega)
    rw [f1] at hc
    simp only [oB,ze,Bool.not_true,cond_false,tn0,tn1,tn2,zl] at hc
    cases hc; rfl
   obtain ⟨g1,g2,g3,g4⟩:=e3 he
   obtain ⟨rfl,rfl,rfl⟩:=z1gt g1 (show okD 294282 12 31 by unfold okD; decide) (g2.trans z1dw.symm)
   obtain ⟨y',m',d',e',f1,f2,f3,f4⟩:=z1eg (u / 86400-10957)
   rw [e1,f2]
   have hne:¬ e'=0:=by
    intro h0
    have hc:=f1
    rw [z8x,z15k] at hc
    have hcb:canB (u / 86400-10957)=false:=by unfold canB; rw [decide_eq_false (by omega)]
    rw [hcb] at hc
    simp only [oB,ze,Bool.not_false,cond_true] at hc
    cases hc; cases h0
   simp only [oB,tn3,tn0,zl]
   rw [c_not,c_eqF hne]
   exact ⟨294282,rfl,rfl,by omega,by omega,fun h=>absurd h h1⟩
  ·rw [show min (u / 86400-10957) 106754173=u / 86400-10957 by omega]
   obtain ⟨y,m,d,e,e1,e2,e3,e4⟩:=z1eg (u / 86400-10957)
   have he:e=0:=by
    have hc:=e1
    rw [z8x,z15k] at hc
    have hcb:canB (u / 86400-10957)=true:=by unfold canB; rw [decide_eq_true (by omega)]
    rw [hcb] at hc
    obtain ⟨y',m',d',f1,f2,f3⟩:=z1a5 (n:=u / 86400-10957) (by omega) (by omega)
    rw [f1] at hc
    simp only [oB,ze,Bool.not_true,cond_false,tn0,tn1,tn2,zl] at hc
    cases hc; rfl
   obtain ⟨g1,g2,g3,g4⟩:=e3 he
   rw [e1,e2]
   simp only [oB,tn3,tn0,zl]
   rw [c_not,c_eqT he]
   exact ⟨y,rfl,rfl,by omega,by omega,fun h=>absurd h h1⟩
structure FootI where
 h:Bool
 f:Int
 o:Int
 a:HalfI
 p:List UInt8
 b:HalfI
 q:List UInt8
def halfB (x:HalfI):Bool:=leB 1 x.m&&(leB x.m 12&&(rightV x.k x.wd x.n&&(rightAt x.sec x.kd&&(leB 0 x.save&&leB x.save 7200))))
theorem ze8 {x:HalfI} (h:halfB x=true):x.ok:=by
 unfold halfB at h
 simp only [Bool.and_eq_true] at h
 obtain ⟨h1,h2,h3,h4,h5,h6⟩:=h
 have ha:=z10o h4
 exact ⟨of_decide_eq_true h1,of_decide_eq_true h2,h3,⟨ha.1,ha.2.1⟩,of_decide_eq_true h5,of_decide_eq_true h6⟩
theorem z1j7 (x:HalfI) (hs:In64 x.sec) (s:List UInt8):zsi x.m x.k x.wd x.n x.sec x.kd x.save s=some (.bool (halfB x)):=by
 rw [z1av,textOn_s,textAt_s hs]
 unfold halfB z1fi z1fj
 simp only [oB]
 cases leB 1 x.m <;> cases leB x.m 12 <;> cases rightV x.k x.wd x.n <;> cases rightAt x.sec x.kd <;> cases leB 0 x.save <;> rfl
theorem z1d4 (x:HalfI) (s:List UInt8):z6y x.m x.k x.wd x.n x.sec x.kd x.save s=some (.bool (halfB x)):=by
 rw [znk,z1i0,z1d7]
 unfold halfB
 simp only [oB,ze]
 cases leB 1 x.m <;> cases leB x.m 12 <;> cases rightV x.k x.wd x.n <;> cases rightAt x.sec x.kd <;> cases leB 0 x.save <;> rfl
def apartB (m n:Int):Bool:=decide ((2≤m-n∧m-n≤10)∨(2≤n-m∧n-m≤10))
def footB (F:FootI):Bool:=F.h&&(halfB F.a&&(halfB F.b&&(!ltB F.o (-50400)&&(!ltB 50400 F.o&&apartB F.a.m F.b.m))))
noncomputable abbrev z1gp (F:FootI):Option PV:=z1aw F.h F.f F.o F.a.m F.a.k F.a.wd F.a.n F.a.sec F.a.kd F.a.save F.p F.b.m F.b.k F.b.wd F.b.n F.b.sec F.b.kd F.b.save F.q
noncomputable abbrev zxo (F:FootI):Option PV:=z6z F.h F.f F.o F.a.m F.a.k F.a.wd F.a.n F.a.sec F.a.kd F.a.save F.p F.b.m F.b.k F.b.wd F.b.n F.b.sec F.b.kd F.b.save F.q
def FootI.in64 (F:FootI):Prop:=In64 F.a.sec∧In64 F.b.sec
theorem footCan_s (F:FootI) (h:F.in64):z1gp F=some (.bool (footB F)):=by
 unfold z1gp footB
 rw [z1go,z1j7 F.a h.1 F.p,z1j7 F.b h.2 F.q,z16u]
 cases h0:F.h with
 | false=>rfl
 | true =>
 cases h1:halfB F.a with
 | false=>rfl
 | true =>
 cases h2:halfB F.b with
 | false=>rfl
 | true =>
 cases h3:ltB F.o (-50400) with
 | true=>rfl
 | false =>
 cases h4:ltB 50400 F.o with
 | true=>rfl
 | false =>
 simp only [oB,ze,Bool.not_true,Bool.not_false,cond_true,cond_false,Bool.true_and]
 have ha:=(ze8 h1).1
 have ha2:=(ze8 h1).2.1
 have hb:=(ze8 h2).1
 have hb2:=(ze8 h2).2.1
 rw [z16t,w64 (n:=F.a.m-F.b.m) (by omega) (by omega),w64 (n:=0-(F.a.m-F.b.m)) (by omega) (by omega),maxI_i]
 unfold apartB
 by_cases g:2≤max (F.a.m-F.b.m) (0-(F.a.m-F.b.m))
 ·rw [c_leT g]; unfold leB; congr 2; rw [decide_eq_decide]; omega
 ·rw [c_leF g,decide_eq_false (by omega)]
theorem z14q (F:FootI):zxo F=some (.bool (footB F)):=by
 unfold zxo footB
 rw [znl,z1d4 F.a F.p,z1d4 F.b F.q,zjl]
 cases h0:F.h with
 | false=>rfl
 | true =>
 cases h1:halfB F.a with
 | false=>rfl
 | true =>
 cases h2:halfB F.b with
 | false=>rfl
 | true =>
 cases h3:ltB F.o (-50400) with
 | true=>rfl
 | false =>
 cases h4:ltB 50400 F.o with
 | true=>rfl
 | false =>
 simp only [oB,ze,Bool.not_true,Bool.not_false,cond_true,cond_false,Bool.true_and]
 have ha:=(ze8 h1).1
 have ha2:=(ze8 h1).2.1
 have hb:=(ze8 h2).1
 have hb2:=(ze8 h2).2.1
 rw [zjk,w64 (n:=F.a.m-F.b.m) (by omega) (by omega),w64 (n:=0-(F.a.m-F.b.m)) (by omega) (by omega)]
 unfold apartB
 by_cases g:F.a.m-F.b.m<0
 ·rw [c_ltT g]
  by_cases g2:2≤0-(F.a.m-F.b.m)
  ·rw [c_leT g2]; unfold leB; congr 2; rw [decide_eq_decide]; omega
  ·rw [c_leF g2,decide_eq_false (by omega)]
 ·rw [c_ltF g]
  by_cases g2:2≤F.a.m-F.b.m
  ·rw [c_leT g2]; unfold leB; congr 2; rw [decide_eq_decide]; omega
  ·rw [c_leF g2,decide_eq_false (by omega)]
theorem inst_s {day sec off save:Int} (kd:Int) (hd:-1000000000≤day∧day≤1000000000) (h1:0≤sec∧sec≤86400) (h2:-50400≤off∧off≤50400) (h3:0≤save∧save≤7200) :
  zax day sec kd off save=some (.int .i64 (instI day sec kd off save))∧z8f day sec kd off save=some (.int .i64 (instI day sec kd off save)):=by
 rw [z151,zkq,w64 (n:=day+10957) (by omega) (by omega),w64 (n:=(day+10957)*86400) (by omega) (by omega),w64 (n:=(day+10957)*86400+sec) (by omega) (by omega),
  w64 (n:=(day+10957)*86400+sec-off) (by omega) (by omega),w64 (n:=(day+10957)*86400+sec-off-save) (by omega) (by omega)]
 unfold instI
 by_cases k1:kd=117
 ·rw [c_eqT k1,c_eqT k1,if_pos k1,if_pos (.inl k1),w64 (n:=(day+10957)*86400+sec-0) (by omega) (by omega),w64 (by omega) (by omega)]
  exact ⟨rfl,by congr 2; omega⟩
 ·rw [c_eqF k1,c_eqF k1,if_neg k1]
  by_cases k2:kd=115
  ·rw [c_eqT k2,c_eqT k2,if_pos (.inr k2),w64 (by omega) (by omega)]
   exact ⟨rfl,by congr 2; omega⟩
  ·rw [c_eqF k2,c_eqF k2,if_neg (by omega)]
   exact ⟨rfl,rfl⟩
def z1cu (x y:HalfI) (s:List UInt8) (o k:Int):Tr:=⟨x.at k o y.save,o+x.save,!eqB x.save 0,s⟩
theorem z1gu {x:HalfI} (h:x.ok) {k:Int} (hk:-4718<k∧k<294282):-1000000000≤dayK k x.m x.k x.wd x.n∧dayK k x.m x.k x.wd x.n≤1000000000:=by
 have:=z1jo (y:=k) h.2.2.1 h.1 h.2.1
 have:=zzs hk h.1 h.2.1
 omega
theorem z1ba {x:HalfI} (h:x.ok) {k:Int} (hk:-4718<k∧k<294282):dayV k x.m x.k x.wd x.n=.tuple [.int .i64 (dayK k x.m x.k x.wd x.n),.int .i64 0]:=by
 unfold dayV
 have h1:canBL k x.m x.k x.wd x.n=true:=by
  unfold canBL leB
  rw [h.2.2.1,decide_eq_true h.1,decide_eq_true h.2.1]; rfl
 have h2:yearB k=true:=(zh5 k).2 hk
 rw [h1,h2]; rfl
theorem z1hu {x y:HalfI} (hx:x.ok) (hy:y.ok) (s t:List UInt8) {o k:Int} (ho:-50400≤o∧o≤50400) (hk:-4718<k∧k<294282) :
  z6x x.m x.k x.wd x.n x.sec x.kd x.save s y.m y.k y.wd y.n y.sec y.kd y.save t o k=some (z1cu x y s o k).v:=by
 rw [znj,rday_s,z1ba hx hk]
 simp only [oB,tn0,zl]
 rw [(inst_s x.kd (z1gu hx hk) hx.2.2.2.1 ho hy.2.2.2.2).2]
 simp only [oB,zl]
 have:=hx.2.2.2.2
 rw [w64 (by omega) (by omega)]
 rfl
end Dv

set_option maxRecDepth 20000
namespace Dv
open Go
def FootI.e (F:FootI):HalfI:=if F.a.m<F.b.m then F.a else F.b
def FootI.l (F:FootI):HalfI:=if F.a.m<F.b.m then F.b else F.a
def FootI.es (F:FootI):List UInt8:=if F.a.m<F.b.m then F.p else F.q
def FootI.ls (F:FootI):List UInt8:=if F.a.m<F.b.m then F.q else F.p
def FootI.sh (F:FootI) (k:Int) (first:Bool):Tr:=bif first then z1cu F.e F.l F.es F.o k else z1cu F.l F.e F.ls F.o k
structure FootI.Ok (F:FootI):Prop where
 a:F.a.ok
 b:F.b.ok
 o:-50400≤F.o∧F.o≤50400
 d:(2≤F.a.m-F.b.m∧F.a.m-F.b.m≤10)∨(2≤F.b.m-F.a.m∧F.b.m-F.a.m≤10)
theorem z1j9 {F:FootI} (h:footB F=true):F.Ok:=by
 unfold footB at h
 simp only [Bool.and_eq_true,Bool.not_eq_true'] at h
 obtain ⟨_,h1,h2,h3,h4,h5⟩:=h
 exact ⟨ze8 h1,ze8 h2,⟨by have:=of_decide_eq_false h3; omega,by have:=of_decide_eq_false h4; omega⟩,of_decide_eq_true h5⟩
theorem FootI.Ok.early {F:FootI} (h:F.Ok):F.e.ok∧F.l.ok∧F.e.m+2≤F.l.m∧F.l.m≤F.e.m+10:=by
 have:=h.d
 unfold FootI.e FootI.l
 by_cases hm:F.a.m<F.b.m
 ·rw [if_pos hm,if_pos hm]; exact ⟨h.a,h.b,by omega,by omega⟩
 ·rw [if_neg hm,if_neg hm]; exact ⟨h.b,h.a,by omega,by omega⟩
noncomputable abbrev fShift (F:FootI) (k:Int) (first:Bool):Option PV:=zsh F.h F.f F.o F.a.m F.a.k F.a.wd F.a.n F.a.sec F.a.kd F.a.save F.p F.b.m F.b.k F.b.wd F.b.n F.b.sec F.b.kd F.b.save F.q k first
theorem z1j6 {F:FootI} (h:F.Ok) {k:Int} (hk:-4718<k∧k<294282) (first:Bool):fShift F k first=some (F.sh k first).v:=by
 have key:∀ (x y:HalfI) (s t:List UInt8) (z1 z2:Int) (z3:Bool) (z4:List UInt8),x.ok→y.ok →
   zbs k true F.h F.f F.o F.a.m F.a.k F.a.wd F.a.n F.a.sec F.a.kd F.a.save F.p F.b.m F.b.k F.b.wd F.b.n F.b.sec F.b.kd F.b.save F.q z1 z2 z3 z4 y.m y.k y.wd y.n y.sec y.kd y.save t x.m x.k x.wd x.n x.sec x.kd x.save s=some (z1cu x y s F.o k).v ∧
   zbs k false F.h F.f F.o F.a.m F.a.k F.a.wd F.a.n F.a.sec F.a.kd F.a.save F.p F.b.m F.b.k F.b.wd F.b.n F.b.sec F.b.kd F.b.save F.q z1 z2 z3 z4 y.m y.k y.wd y.n y.sec y.kd y.save t x.m x.k x.wd x.n x.sec x.kd x.save s=some (z1cu y x t F.o k).v:=by
  intro x y s t z1 z2 z3 z4 hx hy
  have hx2:=hx.2.2.2.2
  have hy2:=hy.2.2.2.2
  have ho:=h.o
  constructor
  ·rw [zms,z15m,day_s,z1ba hx hk]
   simp only [oB,tn0,zl,Bool.not_true,cond_true,cond_false]
   rw [(inst_s x.kd (z1gu hx hk) hx.2.2.2.1 h.o hy.2.2.2.2).1,w64 (n:=F.o+x.save) (by omega) (by omega)]
   rfl
  ·rw [zms,z15n,day_s,z1ba hy hk]
   simp only [oB,tn0,zl,Bool.not_false,cond_true,cond_false]
   rw [(inst_s y.kd (z1gu hy hk) hy.2.2.2.1 h.o hx.2.2.2.2).1,w64 (n:=F.o+y.save) (by omega) (by omega)]
   rfl
 unfold fShift
 rw [z1au]
 unfold FootI.sh FootI.e FootI.l FootI.es FootI.ls
 by_cases hm:F.a.m<F.b.m
 ·have hb:ltB F.a.m F.b.m=true:=decide_eq_true hm
  simp only [hb,cond_true,Bool.not_true,cond_false,if_pos hm]
  cases first with
  | true=>exact (key F.a F.b F.p F.q _ _ _ _ h.a h.b).1
  | false=>exact (key F.a F.b F.p F.q _ _ _ _ h.a h.b).2
 ·have hb:ltB F.a.m F.b.m=false:=decide_eq_false hm
  simp only [hb,cond_true,Bool.not_false,cond_false,if_neg hm]
  cases first with
  | true=>exact (key F.b F.a F.q F.p _ _ _ _ h.b h.a).1
  | false=>exact (key F.b F.a F.q F.p _ _ _ _ h.b h.a).2
noncomputable abbrev rYear (F:FootI) (k:Int):Option PV:=zc9 F.h F.f F.o F.a.m F.a.k F.a.wd F.a.n F.a.sec F.a.kd F.a.save F.p F.b.m F.b.k F.b.wd F.b.n F.b.sec F.b.kd F.b.save F.q k
theorem ryear_s {F:FootI} (hb:footB F=true) {k:Int} (hk:-4718<k∧k<294282):rYear F k=some (.tuple [.sl 4 [(F.sh k true).v,(F.sh k false).v],.int .i64 0]):=by
 have h:=z1j9 hb
 have hr:=z14q F
 unfold zxo at hr
 unfold rYear
 rw [zpm,hr,hb]
 simp only [oB,ze,Bool.not_true,cond_false]
 rw [c_leF (by omega),c_leF (by omega),zkp,z1hu h.a h.b F.p F.q h.o hk,z1hu h.b h.a F.q F.p h.o hk]
 simp only [oB]
 unfold FootI.sh FootI.e FootI.l FootI.es FootI.ls
 by_cases hm:F.a.m<F.b.m
 ·rw [c_ltT hm]; simp only [if_pos hm,cond_true,cond_false]; rfl
 ·rw [c_ltF hm]; simp only [if_neg hm,cond_true,cond_false]; rfl
def FootI.nf (F:FootI) (y:Int) (i:Nat):Tr:=F.sh (y-2+((i / 2:Nat):Int)) (i % 2 == 0)
def FootI.nl (F:FootI) (y:Int):List Tr:=(List.range 10).map (F.nf y)
theorem z1ae (F:FootI) (y:Int) (j:Nat):F.nf y (2*j)=F.sh (y-2+(j:Int)) true:=by
 unfold FootI.nf
 rw [show 2*j / 2=j by omega,show 2*j % 2=0 by omega]; rfl
theorem z1id (F:FootI) (y:Int) (j:Nat):F.nf y (2*j+1)=F.sh (y-2+(j:Int)) false:=by
 unfold FootI.nf
 rw [show (2*j+1) / 2=j by omega,show (2*j+1) % 2=1 by omega]; rfl
theorem sh_rise {F:FootI} (h:F.Ok) (y:Int) (i:Nat):(F.nf y i).a<(F.nf y (i+1)).a:=by
 obtain ⟨h1,h2,h3,h4⟩:=h.early
 rcases Nat.mod_two_eq_zero_or_one i with hi | hi
 ·obtain ⟨j,rfl⟩:∃ j,i=2*j:=⟨i / 2,by omega⟩
  rw [z1ae,z1id]
  exact half_rise h1 h2 _ h.o.1 h.o.2 h3
 ·obtain ⟨j,rfl⟩:∃ j,i=2*j+1:=⟨i / 2,by omega⟩
  rw [z1id,show 2*j+1+1=2*(j+1) by omega,z1ae,show y-2+((j+1:Nat):Int)=y-2+(j:Int)+1 by omega]
  exact half_next h1 h2 _ h.o.1 h.o.2 h4
theorem sh_off {F:FootI} (h:F.Ok) (k:Int) (first:Bool):-57600≤(F.sh k first).o∧(F.sh k first).o≤57600:=by
 have h1:=h.early.1.2.2.2.2
 have h2:=h.early.2.1.2.2.2.2
 have ho:=h.o
 unfold FootI.sh
 cases first
 ·show -57600≤F.o+F.l.save∧F.o+F.l.save≤57600; omega
 ·show -57600≤F.o+F.e.save∧F.o+F.e.save≤57600; omega
theorem sh_name (F:FootI) (k:Int) (first:Bool) (P:List UInt8→Prop) (h1:P F.p) (h2:P F.q):P (F.sh k first).s:=by
 unfold FootI.sh FootI.es FootI.ls
 cases first
 ·show P (if F.a.m<F.b.m then F.q else F.p); split <;> assumption
 ·show P (if F.a.m<F.b.m then F.p else F.q); split <;> assumption
def tr0:Tr:=⟨0,0,false,[]⟩
theorem z199:-57600≤tr0.o∧tr0.o≤57600:=⟨by show (-57600:Int)≤0; omega,by show (0:Int)≤57600; omega⟩
theorem at_loop {F:FootI} (h:F.Ok) {y u:Int} (hy:-4714≤y∧y≤294278) {K:Nat} (hc:cutAt (fun i=>(F.nf y i).a) 10 u K) (z1 z2:Int) (z3:Bool) (z4:List UInt8) (z5:Int) :
  ∀ (n j:Nat),j+n=5→2*j≤K→∀ t:Tr,t=pick (F.nf y) tr0 (2*j) →
   z31 y (y-2+(j:Int)) F.h F.f F.o F.a.m F.a.k F.a.wd F.a.n F.a.sec F.a.kd F.a.save F.p F.b.m F.b.k F.b.wd F.b.n F.b.sec F.b.kd F.b.save F.q z1 z2 z3 z4 t.a t.o t.d t.s u z5=some ((pick (F.nf y) tr0 K).r 0):=by
 obtain ⟨c1,c2,c3⟩:=hc
 intro n
 induction n with
 | zero =>
  intro j hj hk t ht
  rw [z76,w64 (n:=y+2) (by omega) (by omega),c_leF (by omega),ht]
  have:K=2*j:=by omega
  rw [this]; rfl
 | succ n ih =>
  intro j hj hk t ht
  have hkk:-4718<y-2+(j:Int)∧y-2+(j:Int)<294282:=by omega
  rw [z76,w64 (n:=y+2) (by omega) (by omega),c_leT (by omega)]
  have e1:=z1j6 h hkk true
  have e2:=z1j6 h hkk false
  unfold fShift at e1 e2
  rw [e1,e2,← z1ae,← z1id]
  simp only [oB]
  have k1:((F.nf y (2*j)).v.nth 0).toI=(F.nf y (2*j)).a:=rfl
  have k2:((F.nf y (2*j+1)).v.nth 0).toI=(F.nf y (2*j+1)).a:=rfl
  rw [k1,k2]
  by_cases g1:K=2*j
  ·rw [c_ltT (c3 (2*j) (by omega) (by omega)),ht,g1]; rfl
  ·rw [c_ltF (by have:=c2 (2*j) (by omega); simp only at this; omega)]
   by_cases g2:K=2*j+1
   ·rw [c_ltT (c3 (2*j+1) (by omega) (by omega)),g2]; rfl
   ·rw [c_ltF (by have:=c2 (2*j+1) (by omega); simp only at this; omega),w64 (by omega) (by omega),show y-2+(j:Int)+1=y-2+((j+1:Nat):Int) by omega]
    exact ih (j+1) (by omega) (by omega) (F.nf y (2*j+1)) (by rw [show 2*(j+1)=2*j+1+1 by omega]; rfl)
theorem rd_tr {l:List Tr} {i:Nat} {t:Tr} (h:l[i]?=some t):rdI (EE.ti zp) (l.map Tr.v) (i:Int)=some t.v:=by
 rw [rdI_n]
 unfold rdT
 rw [List.getElem?_map,h]
 rfl
theorem rat_loop {l:List Tr} (hl:l.length≤1000) {f:Nat→Tr} (hf:∀ i,i<l.length→l[i]?=some (f i)) {u:Int} {K:Nat} (hc:cutAt (fun i=>(f i).a) l.length u K) (e:Int):∀ (i:Nat),i≤l.length→K≤i →
  z4s u (l.map Tr.v) e ((i:Int)-1) 0 0 false []=some ((pick f tr0 K).r (if K=0 then e else 0)):=by
 obtain ⟨c1,c2,c3⟩:=hc
 intro i
 induction i with
 | zero =>
  intro hi hk
  rw [z7f,c_leF (by omega)]
  have:K=0:=by omega
  rw [this]; rfl
 | succ i ih =>
  intro hi hk
  rw [z7f,c_leT (by omega),show ((i+1:Nat):Int)-1=(i:Int) by omega,rd_tr (hf i (by omega))]
  simp only [oB]
  have k1:((f i).v.nth 0).toI=(f i).a:=rfl
  rw [k1]
  by_cases g:K=i+1
  ·rw [c_leT (c2 i (by omega)),g,if_neg (by omega)]; rfl
  ·rw [c_leF (by have:=c3 i (by omega) (by omega); simp only at this; omega),w64 (by omega) (by omega)]
   exact ih (by omega) (by omega)
noncomputable abbrev rNear (F:FootI) (u:Int):Option PV:=zc8 F.h F.f F.o F.a.m F.a.k F.a.wd F.a.n F.a.sec F.a.kd F.a.save F.p F.b.m F.b.k F.b.wd F.b.n F.b.sec F.b.kd F.b.save F.q u
theorem near_loop {F:FootI} (hb:footB F=true) {y:Int} (hy:-4714≤y∧y≤294278):∀ (n j:Nat),j+n=5 →
  z5n y (y-2+(j:Int)) F.h F.f F.o F.a.m F.a.k F.a.wd F.a.n F.a.sec F.a.kd F.a.save F.p F.b.m F.b.k F.b.wd F.b.n F.b.sec F.b.kd F.b.save F.q (((List.range (2*j)).map (F.nf y)).map Tr.v)=some (.tuple [.sl 4 ((F.nl y).map Tr.v),.int .i64 0]):=by
 intro n
 induction n with
 | zero =>
  intro j hj
  rw [zb2,w64 (n:=y+2) (by omega) (by omega),c_leF (by omega)]
  have:j=5:=by omega
  subst this; rfl
 | succ n ih =>
  intro j hj
  have hkk:-4718<y-2+(j:Int)∧y-2+(j:Int)<294282:=by omega
  have e1:=ryear_s hb hkk
  unfold rYear at e1
  rw [zb2,w64 (n:=y+2) (by omega) (by omega),c_leT (by omega),e1]
  simp only [oB,tn0,PV.toL]
  rw [zfz (by simp; omega)]
  simp only [oB]
  rw [w64 (by omega) (by omega),show y-2+(j:Int)+1=y-2+((j+1:Nat):Int) by omega]
  have e2:((List.range (2*j)).map (F.nf y)).map Tr.v++[(F.sh (y-2+(j:Int)) true).v,(F.sh (y-2+(j:Int)) false).v]=((List.range (2*(j+1))).map (F.nf y)).map Tr.v:=by
   rw [show 2*(j+1)=2*j+1+1 by omega,List.range_succ,List.range_succ]
   simp [z1ae,z1id]
  rw [e2]
  exact ih (j+1) (by omega)
noncomputable abbrev fAt (F:FootI) (u:Int):Option PV:=z1ax F.h F.f F.o F.a.m F.a.k F.a.wd F.a.n F.a.sec F.a.kd F.a.save F.p F.b.m F.b.k F.b.wd F.b.n F.b.sec F.b.kd F.b.save F.q u
noncomputable abbrev rfAt (F:FootI) (u:Int):Option PV:=za2 F.h F.f F.o F.a.m F.a.k F.a.wd F.a.n F.a.sec F.a.kd F.a.save F.p F.b.m F.b.k F.b.wd F.b.n F.b.sec F.b.kd F.b.save F.q u
theorem z1ja (F:FootI) (hF:F.in64) {u:Int} (hu:In64 u):∃ (t:Tr) (e:Int),fAt F u=some (t.r e)∧rfAt F u=some (t.r e)∧(-57600≤t.o∧t.o≤57600) ∧
  (footB F=true→∀ y,z88 u=some (.int .i64 y)→-4714≤y→y≤294278→e=0)∧(e=0→footB F=true)∧(∀ P:List UInt8→Prop,P []→P F.p→P F.q→P t.s):=by
 obtain ⟨y,y1,y2,y3,y4⟩:=z18w hu
 have hcan:=footCan_s F hF
 have hright:=z14q F
 unfold z1gp at hcan
 unfold zxo at hright
 have hnil:∀ e:Int,z4s u [] e (IntKind.i64.wrap (((([]:List PV).length:Nat):Int)-1)) 0 0 false []=some (tr0.r e):=by
  intro e
  rw [w64 (by simp) (by simp),z7f,c_leF (by simp)]
  rfl
 cases hb:footB F with
 | false =>
  refine ⟨tr0,1,?_,?_,z199,(by intro h; cases h),(by intro h; cases h),fun P h _ _=>h⟩
  ·unfold fAt
   rw [zsj,zgv,y1,hcan,hb]
   rfl
  ·unfold rfAt
   rw [z70,z5m,hright,hb]
   exact hnil 1
 | true =>
  have hok:=z1j9 hb
  by_cases g1:y < -4714
  ·refine ⟨tr0,10,?_,?_,z199,(by intro _ y' h; rw [y1] at h; cases h; intro h; omega),(by intro h; cases h),fun P h _ _=>h⟩
   ·unfold fAt
    rw [zsj,zgv,y1,hcan,hb]
    simp only [oB,zl,ze,Bool.not_true,cond_false]
    rw [c_ltT g1]; rfl
   ·unfold rfAt
    rw [z70,z5m,hright,hb,y2]
    simp only [oB,zl,ze,Bool.not_true,cond_false]
    rw [c_ltT g1,zb3]
    exact hnil 10
  ·by_cases g2:294278<y
   ·refine ⟨tr0,10,?_,?_,z199,(by intro _ y' h; rw [y1] at h; cases h; intro _ h; omega),(by intro h; cases h),fun P h _ _=>h⟩
    ·unfold fAt
     rw [zsj,zgv,y1,hcan,hb]
     simp only [oB,zl,ze,Bool.not_true,cond_false]
     rw [c_ltF g1,c_ltT g2]; rfl
    ·unfold rfAt
     rw [z70,z5m,hright,hb,y2]
     simp only [oB,zl,ze,Bool.not_true,cond_false]
     rw [c_ltF g1,c_ltT g2,zb3]
     exact hnil 10
   ·have hy:-4714≤y∧y≤294278:=by omega
    obtain ⟨K,hK⟩:=cut_ex (f:=fun i=>(F.nf y i).a) (x:=u) 10 (fun i _=>sh_rise hok y i)
    refine ⟨pick (F.nf y) tr0 K,0,?_,?_,?_,fun _ _ _ _ _=>rfl,fun _=>rfl,fun P h1 h2 h3=>by cases K with | zero=>exact h1 | succ k=>exact sh_name _ _ _ P h2 h3⟩
    ·unfold fAt
     rw [zsj,zgv,y1,hcan,hb]
     simp only [oB,zl,ze,Bool.not_true,cond_false]
     rw [c_ltF g1,c_ltF g2]
     simp only [oB,zl]
     rw [c_not,c_eqT rfl,w64 (by omega) (by omega)]
     have:=at_loop hok hy hK 0 0 false [] 0 5 0 rfl (by omega) tr0 rfl
     rw [show y-2+((0:Nat):Int)=y-2 by omega] at this
     exact this
    ·unfold rfAt
     rw [z70,z5m,hright,hb,y2]
     simp only [oB,zl,ze,Bool.not_true,cond_false]
     rw [c_ltF g1,c_ltF g2,zko,w64 (by omega) (by omega)]
     have hn:=near_loop hb hy 5 0 rfl
     simp only [Nat.mul_zero,List.range_zero,List.map_nil] at hn
     rw [show y-2=y-2+((0:Nat):Int) by omega,hn]
     simp only [oB,tn0,tn1,zl,PV.toL]
     have hlen:(F.nl y).length=10:=by simp [FootI.nl]
     rw [w64 (by simp; omega) (by simp; omega)]
     have:=rat_loop (l:=F.nl y) (by omega) (f:=F.nf y) (fun i hi=>by unfold FootI.nl; rw [hlen] at hi; simp [hi]) (u:=u) (K:=K) (by rw [hlen]; exact hK) 0 10 (by omega) hK.1
     rw [show (((F.nl y).map Tr.v).length:Int)-1=((10:Nat):Int)-1 by simp [hlen]]
     rw [this]
     cases K <;> rfl
    ·cases K with
     | zero=>exact z199
     | succ k=>exact sh_off hok _ _
end Dv

set_option maxRecDepth 20000
namespace Dv
open Go
structure TabI where
 nm:List UInt8
 t:Tr
 rows:List Tr
 F:FootI
def offB (o:Int):Bool:=leB (-57600) o&&leB o 57600
def rowsB:Int→List Tr→Bool
 | _,[]=>true
 | last,t::r=>offB t.o&&(ltB last t.a&&(leB t.a 1125899906842624&&rowsB t.a r))
def lastA:Int→List Tr→Int
 | last,[]=>last
 | _,t::r=>lastA t.a r
theorem z12x (a b:Int) (hb:0≤b) (hb2:b≤4611686018427387904):zh4 a b=some (.bool (leB (-b) a&&leB a b)):=by
 rw [z160,w64 (by omega) (by omega),show (0:Int)-b=-b by omega]
 cases leB (-b) a <;> rfl
theorem roff_s (a o:Int) (d:Bool) (s:List UInt8):z8t a o d s=some (.bool (offB o)):=by
 rw [zt7]; unfold offB
 cases leB (-57600) o <;> rfl
noncomputable abbrev rc4 (T:TabI) (i:Int):Option PV:=zgo (T.rows.map Tr.v) (((T.rows.map Tr.v).length:Nat):Int) i T.nm T.t.a T.t.o T.t.d T.t.s (T.rows.map Tr.v) T.F.h T.F.f T.F.o T.F.a.m T.F.a.k T.F.a.wd T.F.a.n T.F.a.sec T.F.a.kd T.F.a.save T.F.p T.F.b.m T.F.b.k T.F.b.wd T.F.b.n T.F.b.sec T.F.b.kd T.F.b.save T.F.q
noncomputable abbrev rrc5 (T:TabI) (last i:Int):Option PV:=z4y last i T.nm T.t.a T.t.o T.t.d T.t.s (T.rows.map Tr.v) T.F.h T.F.f T.F.o T.F.a.m T.F.a.k T.F.a.wd T.F.a.n T.F.a.sec T.F.a.kd T.F.a.save T.F.p T.F.b.m T.F.b.k T.F.b.wd T.F.b.n T.F.b.sec T.F.b.kd T.F.b.save T.F.q
theorem z1kq (T:TabI) (hl:T.rows.length≤8192):∀ (r:List Tr) (i:Nat) (last:Int),T.rows.drop i=r→i≤T.rows.length→((i=0∧last=-1125899906842625)∨(0<i∧(∃ t,T.rows[i-1]?=some t∧t.a=last)∧-1125899906842624≤last)) →
  rc4 T (i:Int)=(bif rowsB last r then rc4 T (T.rows.length:Int) else some (.bool false)):=by
 intro r
 induction r with
 | nil =>
  intro i last hd hi _
  have:i=T.rows.length:=by
   have:=congrArg List.length hd
   simp at this; omega
  rw [this]; rfl
 | cons t r ih =>
  intro i last hd hi hinv
  have hlt:i<T.rows.length:=by
   have:=congrArg List.length hd
   simp at this; omega
  have ht:T.rows[i]?=some t:=by
   have:=congrArg (fun l=>l[0]?) hd
   simpa using this
  have hd':T.rows.drop (i+1)=r:=by
   have:=congrArg List.tail hd
   simpa using this
  have hlen:(((T.rows.map Tr.v).length:Nat):Int)=(T.rows.length:Int):=by simp
  have cont:rc4 T ((i+1:Nat):Int)=(bif rowsB t.a r then rc4 T (T.rows.length:Int) else some (.bool false))→-1125899906842624≤t.a→True:=fun _ _=>trivial
  unfold rc4
  rw [zmj,c_ltT (by omega),rd_tr ht]
  simp only [oB]
  have k0:(t.v.nth 0).toI=t.a:=rfl
  have k1:(t.v.nth 1).toI=t.o:=rfl
  rw [k0,k1,z12x _ _ (by omega) (by omega),z12x _ _ (by omega) (by omega)]
  simp only [oB,ze,rowsB,offB]
  cases ho:(leB (-57600) t.o&&leB t.o 57600) with
  | false=>simp only [Bool.not_false,cond_true,Bool.false_and,cond_false]; rw [z9w]
  | true =>
  simp only [Bool.not_true,cond_false,Bool.true_and]
  by_cases ha:-1125899906842624≤t.a
  ·have hab:leB (-1125899906842624) t.a=true:=decide_eq_true ha
   rw [hab]
   simp only [Bool.true_and]
   by_cases hz:t.a≤1125899906842624
   ·have hzb:leB t.a 1125899906842624=true:=decide_eq_true hz
    rw [hzb]
    simp only [Bool.not_true,cond_false,Bool.true_and]
    have next:(ltB last t.a=true)→zgm (T.rows.map Tr.v) (((T.rows.map Tr.v).length:Nat):Int) (i:Int) T.nm T.t.a T.t.o T.t.d T.t.s (T.rows.map Tr.v) T.F.h T.F.f T.F.o T.F.a.m T.F.a.k T.F.a.wd T.F.a.n T.F.a.sec T.F.a.kd T.F.a.save T.F.p T.F.b.m T.F.b.k T.F.b.wd T.F.b.n T.F.b.sec T.F.b.kd T.F.b.save T.F.q =
      (bif rowsB t.a r then rc4 T (T.rows.length:Int) else some (.bool false)):=by
     intro _
     rw [z11h,w64 (by omega) (by omega),show (i:Int)+1=((i+1:Nat):Int) by omega]
     exact ih (i+1) t.a hd' (by omega) (.inr ⟨by omega,⟨t,by simpa using ht,rfl⟩,ha⟩)
    rcases hinv with ⟨hi0,hlast⟩ | ⟨hi0,⟨t',ht',hlast⟩,hlo⟩
    ·subst hi0
     have hb:ltB last t.a=true:=decide_eq_true (by omega)
     rw [c_ltF (by omega),next hb,hb]
     rfl
    ·rw [c_ltT (by omega),w64 (by omega) (by omega),show (i:Int)-1=((i-1:Nat):Int) by omega,rd_tr ht']
     simp only [oB]
     have k2:(t'.v.nth 0).toI=t'.a:=rfl
     rw [k2]
     by_cases hc:t.a≤t'.a
     ·rw [c_leT hc,z9w,show ltB last t.a=false from decide_eq_false (by omega)]; rfl
     ·have hb:ltB last t.a=true:=decide_eq_true (by omega)
      rw [c_leF hc,next hb,hb]; rfl
   ·have hzb:leB t.a 1125899906842624=false:=decide_eq_false hz
    rw [hzb]
    simp only [Bool.not_false,cond_true,Bool.false_and,Bool.and_false,cond_false]
    rw [z9w]
  ·have hab:leB (-1125899906842624) t.a=false:=decide_eq_false ha
   rw [hab]
   simp only [Bool.false_and,Bool.not_false,cond_true]
   have hb:ltB last t.a=false:=decide_eq_false (by rcases hinv with ⟨_,h⟩ | ⟨_,_,h⟩ <;> omega)
   rw [hb,z9w]; rfl
theorem z1fy (T:TabI) (hl:T.rows.length≤8192):∀ (r:List Tr) (i:Nat) (last:Int),T.rows.drop i=r→i≤T.rows.length →
  rrc5 T last (i:Int)=(bif rowsB last r then rrc5 T (lastA last r) (T.rows.length:Int) else some (.bool false)):=by
 intro r
 induction r with
 | nil =>
  intro i last hd hi
  have:i=T.rows.length:=by
   have:=congrArg List.length hd
   simp at this; omega
  rw [this]; rfl
 | cons t r ih =>
  intro i last hd hi
  have hlt:i<T.rows.length:=by
   have:=congrArg List.length hd
   simp at this; omega
  have ht:T.rows[i]?=some t:=by
   have:=congrArg (fun l=>l[0]?) hd
   simpa using this
  have hd':T.rows.drop (i+1)=r:=by
   have:=congrArg List.tail hd
   simpa using this
  unfold rrc5
  rw [z9r,c_ltT (by simp; omega),rd_tr ht]
  simp only [oB]
  have k0:(t.v.nth 0).toI=t.a:=rfl
  have k1:(t.v.nth 1).toI=t.o:=rfl
  rw [k0,k1,roff_s]
  simp only [oB,ze,rowsB,lastA]
  cases ho:offB t.o with
  | false=>simp only [Bool.not_false,cond_true,Bool.false_and,cond_false]; rw [z5y]
  | true =>
  simp only [Bool.not_true,cond_false,Bool.true_and]
  by_cases hc:t.a≤last
  ·rw [c_leT hc,z5y,show ltB last t.a=false from decide_eq_false (by omega)]; rfl
  ·rw [c_leF hc,show ltB last t.a=true from decide_eq_true (by omega)]
   by_cases hz:1125899906842624<t.a
   ·rw [c_ltT hz,z5y,show leB t.a 1125899906842624=false from decide_eq_false (by omega)]; rfl
   ·rw [c_ltF hz,show leB t.a 1125899906842624=true from decide_eq_true (by omega),zi7,w64 (by omega) (by omega),show (i:Int)+1=((i+1:Nat):Int) by omega]
    exact ih (i+1) t.a hd' (by omega)
noncomputable abbrev ztn (T:TabI):Option PV:=zjs T.nm T.t.a T.t.o T.t.d T.t.s (T.rows.map Tr.v) T.F.h T.F.f T.F.o T.F.a.m T.F.a.k T.F.a.wd T.F.a.n T.F.a.sec T.F.a.kd T.F.a.save T.F.p T.F.b.m T.F.b.k T.F.b.wd T.F.b.n T.F.b.sec T.F.b.kd T.F.b.save T.F.q
noncomputable abbrev zot (T:TabI):Option PV:=z2c T.nm T.t.a T.t.o T.t.d T.t.s (T.rows.map Tr.v) T.F.h T.F.f T.F.o T.F.a.m T.F.a.k T.F.a.wd T.F.a.n T.F.a.sec T.F.a.kd T.F.a.save T.F.p T.F.b.m T.F.b.k T.F.b.wd T.F.b.n T.F.b.sec T.F.b.kd T.F.b.save T.F.q
theorem z1dx:∀ (r:List Tr) (last:Int),r≠[]→∃ t,r[r.length-1]?=some t∧lastA last r=t.a
 | [],_,h=>absurd rfl h
 | [t],_,_=>⟨t,rfl,rfl⟩
 | t::t'::r,last,_=>by
  obtain ⟨u,h1,h2⟩:=z1dx (t'::r) t.a (by simp)
  exact ⟨u,by simpa using h1,h2⟩
structure TabI.Ok (T:TabI):Prop where
 t:-57600≤T.t.o∧T.t.o≤57600
 len:T.rows.length≤8192
 rows:rowsB (-1125899906842625) T.rows=true
 foot:T.F.h=true→footB T.F=true
theorem z18q (T:TabI) (hF:T.F.in64) (hf:In64 T.F.f):∃ b,ztn T=some (.bool b)∧zot T=some (.bool b)∧(b=true→T.Ok):=by
 have c2:=z9x
 have hw:=z12x T.t.o 57600 (by omega) (by omega)
 have ho:=roff_s T.t.a T.t.o T.t.d T.t.s
 unfold ztn zot
 rw [z18u,zng,hw,ho]
 simp only [oB,ze]
 unfold offB
 cases h1:(leB (-57600) T.t.o&&leB T.t.o 57600) with
 | false=>exact ⟨false,by simp only [Bool.not_false,cond_true]; exact z9x,by simp only [Bool.not_false,cond_true]; exact z5z,by intro h; cases h⟩
 | true =>
 simp only [Bool.not_true,cond_false]
 have ht:-57600≤T.t.o∧T.t.o≤57600:=by
  simp only [Bool.and_eq_true] at h1
  exact ⟨of_decide_eq_true h1.1,of_decide_eq_true h1.2⟩
 by_cases h2:T.t.a=0
 case neg =>
  rw [c_not,c_eqF h2,c_not,c_eqF h2]
  exact ⟨false,z9x,z5z,by intro h; cases h⟩
 rw [c_not,c_eqT h2,c_not,c_eqT h2]
 have hlen:(((T.rows.map Tr.v).length:Nat):Int)=(T.rows.length:Int):=by simp
 by_cases h3:8192<T.rows.length
 ·rw [c_ltT (by omega),c_ltT (by omega)]
  exact ⟨false,z9x,z5z,by intro h; cases h⟩
 rw [c_ltF (by omega),c_ltF (by omega),z11i,zjj]
 have e1:=z1kq T (by omega) T.rows 0 (-1125899906842625) rfl (by omega) (.inl ⟨rfl,rfl⟩)
 have e2:=z1fy T (by omega) T.rows 0 (-1125899906842625) rfl (by omega)
 unfold rc4 at e1
 unfold rrc5 at e2
 simp only [Int.natCast_zero] at e1 e2
 rw [e1,e2]
 cases hr:rowsB (-1125899906842625) T.rows with
 | false=>exact ⟨false,rfl,rfl,by intro h; cases h⟩
 | true =>
 simp only [cond_true]
 rw [zmj,z9r,c_ltF (by omega),c_ltF (by omega)]
 cases hh:T.F.h with
 | false =>
  refine ⟨_,rfl,rfl,fun _=>⟨ht,by omega,hr,fun h=>?_⟩⟩
  rw [hh] at h; cases h
 | true =>
  simp only [Bool.not_true,cond_false]
  obtain ⟨y,y1,y2,_,_,y5⟩:=z18w hf
  obtain ⟨t,e,f1,f2,_,_,f5,_⟩:=z1ja T.F hF hf
  unfold fAt at f1
  unfold rfAt at f2
  rw [hh] at f1 f2
  rw [y1,y2,f1,f2]
  simp only [oB,zl]
  have k1:((t.r e).tnth 1).toI=e:=rfl
  have k0:(((t.r e).tnth 0).nth 0).toI=t.a:=rfl
  rw [k1,k0]
  by_cases g1:e=0
  case neg=>rw [c_eqF g1,c_eqF g1]; exact ⟨false,rfl,rfl,by intro h; cases h⟩
  rw [c_eqT g1,c_eqT g1]
  have hok:T.Ok:=⟨ht,by omega,hr,fun _=>f5 g1⟩
  by_cases g2:t.a=T.F.f
  case neg=>rw [c_eqF g2,c_eqF g2]; exact ⟨false,rfl,rfl,by intro h; cases h⟩
  rw [c_eqT g2,c_eqT g2]
  by_cases g3:1800≤y
  case neg =>
   rw [c_leF g3,c_leF g3]
   refine ⟨false,rfl,?_,by intro h; cases h⟩
   cases ltB (lastA (-1125899906842625) T.rows) T.F.f <;> rfl
  rw [c_leT g3,c_leT g3]
  have hlo:-1125899906842625<T.F.f:=by
   rcases Int.lt_or_le (-1125899906842625) T.F.f with h | h
   ·exact h
   ·have:=y5 (by omega); omega
  by_cases g4:y≤2110
  case neg =>
   rw [c_leF g4,show leB y 2110=false from decide_eq_false g4]
   refine ⟨false,rfl,?_,by intro h; cases h⟩
   cases ltB (lastA (-1125899906842625) T.rows) T.F.f <;> rfl
  rw [c_leT g4,show leB y 2110=true from decide_eq_true g4]
  by_cases g5:T.rows=[]
  ·rw [c_eqT (by rw [hlen,g5]; rfl),g5]
   refine ⟨true,rfl,?_,fun _=>hok⟩
   simp only [lastA]
   rw [c_ltT hlo]
  ·have hpos:0<T.rows.length:=List.length_pos_iff.2 g5
   obtain ⟨u,u1,u2⟩:=z1dx T.rows (-1125899906842625) g5
   rw [c_eqF (by omega),hlen,w64 (by omega) (by omega),show (T.rows.length:Int)-1=((T.rows.length-1:Nat):Int) by omega,rd_tr u1]
   simp only [oB]
   have k2:(u.v.nth 0).toI=u.a:=rfl
   rw [k2,u2]
   refine ⟨ltB u.a T.F.f,rfl,?_,fun _=>hok⟩
   cases ltB u.a T.F.f <;> rfl
theorem z1hw:∀ (r:List Tr) (last:Int),rowsB last r=true→∀ i,i+1<r.length→((r[i]?).getD default).a<((r[i+1]?).getD default).a
 | [],_,_,i,h=>by simp at h
 | [_],_,_,i,h=>by simp at h
 | t::t'::r,last,h,i,hi=>by
  simp only [rowsB,Bool.and_eq_true] at h
  obtain ⟨_,_,_,h4⟩:=h
  cases i with
  | zero=>simpa using of_decide_eq_true h4.2.1
  | succ i =>
   have:=z1hw (t'::r) t.a (by simp only [rowsB,Bool.and_eq_true]; exact h4) i (by simpa using hi)
   simpa using this
theorem z1d2:∀ (r:List Tr) (last:Int),rowsB last r=true→∀ (i:Nat) (t:Tr),r[i]?=some t→-57600≤t.o∧t.o≤57600
 | [],_,_,i,t,h=>by simp at h
 | t'::r,last,h,i,t,ht=>by
  simp only [rowsB,Bool.and_eq_true,offB] at h
  cases i with
  | zero=>simp at ht; subst ht; exact ⟨of_decide_eq_true h.1.1,of_decide_eq_true h.1.2⟩
  | succ i=>exact z1d2 r t'.a h.2.2.2 i t (by simpa using ht)
def TabI.at (T:TabI) (i:Nat):Tr:=(T.rows[i]?).getD default
theorem TabI.at_get (T:TabI) {i:Nat} (h:i<T.rows.length):T.rows[i]?=some (T.at i):=by
 unfold TabI.at
 rw [List.getElem?_eq_getElem h]; rfl
def TabI.cells (T:TabI):List PV:=[.str T.nm,.int .i64 T.t.a,.int .i64 T.t.o,.bool T.t.d,.str T.t.s,.sl 4 (T.rows.map Tr.v),.bool T.F.h,.int .i64 T.F.f,.int .i64 T.F.o,.int .i64 T.F.a.m,.int .i64 T.F.a.k,.int .i64 T.F.a.wd,.int .i64 T.F.a.n,.int .i64 T.F.a.sec,.int .u8 T.F.a.kd,.int .i64 T.F.a.save,.str T.F.p,.int .i64 T.F.b.m,.int .i64 T.F.b.k,.int .i64 T.F.b.wd,.int .i64 T.F.b.n,.int .i64 T.F.b.sec,.int .u8 T.F.b.kd,.int .i64 T.F.b.save,.str T.F.q]
def TabI.clo (T:TabI) (u:Int):PV:=.func (.func zeq) [] [.ref T.cells 0,.ref [.int .i64 u] 0]
theorem clo_s (T:TabI) (u:Int) {i:Nat} (hi:i<T.rows.length):callW EE [tiBool] (T.clo u) [.int .i64 (i:Int)]=some (.bool (ltB u (T.at i).a)):=by
 unfold TabI.clo
 rw [callW_cap (E:=EE) (g:=zeq)]
 show z1bz (i:Int) (.ref T.cells 0) (.ref [.int .i64 u] 0)=_
 rw [z1by]
 have r1:rdP (EE.ti zgs) (.ref T.cells 0) 5=some (.sl 4 (T.rows.map Tr.v)):=rfl
 have r2:rdP (tiInt .i64) (.ref [.int .i64 u] 0) 0=some (.int .i64 u):=rfl
 rw [r1,r2]
 simp only [oB,PV.toL]
 rw [rd_tr (T.at_get hi)]
 rfl
end Dv

set_option maxRecDepth 20000
namespace Dv
open Go
theorem half_sum {i j:Int} (h0:0≤i) (h1:i≤j) (h2:j≤100000):IntKind.i64.wrap (shrI .u64 (IntKind.u64.wrap (IntKind.i64.wrap (i+j))) 1)=(i+j) / 2:=by
 rw [w64 (n:=i+j) (by omega) (by omega),wu64 (by omega) (by omega)]
 have:shrI .u64 (i+j) 1=(i+j) / 2:=by
  unfold shrI
  rw [show (2:Int) ^ (min (Int.toNat 1) (IntKind.u64.bits))=2 from rfl,Int.fdiv_eq_ediv_of_nonneg _ (by omega)]
 rw [this,w64 (by omega) (by omega)]
theorem search_s (T:TabI) (u:Int) (hl:T.rows.length≤8192) {K:Nat} (hc:cutAt (fun i=>(T.at i).a) T.rows.length u K):∀ (n i j:Nat),j-i≤n→i≤K→K≤j→j≤T.rows.length →
  z9h (T.clo u) (i:Int) (j:Int)=some (.int .i64 (K:Int)):=by
 obtain ⟨c1,c2,c3⟩:=hc
 intro n
 induction n with
 | zero =>
  intro i j hn hi hj hjl
  rw [zk0,c_ltF (by omega),show i=K by omega]
 | succ n ih =>
  intro i j hn hi hj hjl
  rw [zk0]
  by_cases h:i<j
  ·rw [c_ltT (by omega),half_sum (by omega) (by omega) (by omega),show ((i:Int)+(j:Int)) / 2=(((i+j) / 2:Nat):Int) by omega,clo_s T u (by omega)]
   simp only [oB,ze]
   by_cases g:u<(T.at ((i+j) / 2)).a
   ·rw [show ltB u (T.at ((i+j) / 2)).a=true from decide_eq_true g]
    simp only [Bool.not_true,cond_false]
    refine ih i ((i+j) / 2) (by omega) hi ?_ (by omega)
    rcases Nat.lt_or_ge ((i+j) / 2) K with h' | h'
    ·have:=c2 _ h'; simp only at this; omega
    ·exact h'
   ·rw [show ltB u (T.at ((i+j) / 2)).a=false from decide_eq_false g]
    simp only [Bool.not_false,cond_true]
    rw [w64 (by omega) (by omega),show (((i+j) / 2:Nat):Int)+1=(((i+j) / 2+1:Nat):Int) by omega]
    refine ih ((i+j) / 2+1) j (by omega) ?_ hj hjl
    rcases Nat.lt_or_ge ((i+j) / 2) K with h' | h'
    ·omega
    ·have:=c3 _ h' (by omega); simp only at this; omega
  ·rw [c_ltF (by omega),show i=K by omega]
noncomputable abbrev zAt (T:TabI) (u:Int):Option PV:=z18v T.nm T.t.a T.t.o T.t.d T.t.s (T.rows.map Tr.v) T.F.h T.F.f T.F.o T.F.a.m T.F.a.k T.F.a.wd T.F.a.n T.F.a.sec T.F.a.kd T.F.a.save T.F.p T.F.b.m T.F.b.k T.F.b.wd T.F.b.n T.F.b.sec T.F.b.kd T.F.b.save T.F.q u
noncomputable abbrev rzAt (T:TabI) (u:Int):Option PV:=z78 T.nm T.t.a T.t.o T.t.d T.t.s (T.rows.map Tr.v) T.F.h T.F.f T.F.o T.F.a.m T.F.a.k T.F.a.wd T.F.a.n T.F.a.sec T.F.a.kd T.F.a.save T.F.p T.F.b.m T.F.b.k T.F.b.wd T.F.b.n T.F.b.sec T.F.b.kd T.F.b.save T.F.q u
noncomputable abbrev zc4 (T:TabI) (u:Int):Option PV:=zqb T.nm T.t.a T.t.o T.t.d T.t.s (T.rows.map Tr.v) T.F.h T.F.f T.F.o T.F.a.m T.F.a.k T.F.a.wd T.F.a.n T.F.a.sec T.F.a.kd T.F.a.save T.F.p T.F.b.m T.F.b.k T.F.b.wd T.F.b.n T.F.b.sec T.F.b.kd T.F.b.save T.F.q u 0 0 false []
theorem rowsAt_s (T:TabI) (u:Int) (hl:T.rows.length≤8192) {K:Nat} (hc:cutAt (fun i=>(T.at i).a) T.rows.length u K):zc4 T u=some (pick T.at T.t K).v:=by
 unfold zc4
 rw [z18r,z16g]
 have hs:=search_s T u hl hc T.rows.length 0 T.rows.length (by omega) (by omega) hc.1 (Nat.le_refl _)
 unfold TabI.clo TabI.cells at hs
 have hlen:(((T.rows.map Tr.v).length:Nat):Int)=(T.rows.length:Int):=by simp
 rw [hlen]
 simp only [okOther,Bool.and_true,cond_true]
 rw [show ((0:Nat):Int)=0 from rfl] at hs
 rw [hs]
 simp only [oB,zl]
 cases K with
 | zero=>rw [c_eqT (by omega)]; rfl
 | succ k =>
  have hk:=hc.1
  rw [c_eqF (by omega),w64 (by omega) (by omega),show ((k+1:Nat):Int)-1=(k:Int) by omega,rd_tr (T.at_get (by omega))]
  rfl
theorem rrowsAt_s (T:TabI) (u:Int) (hl:T.rows.length≤8192) {K:Nat} (hc:cutAt (fun i=>(T.at i).a) T.rows.length u K) (z1 z2:Int) (z3:Bool) (z4:List UInt8):∀ (n i:Nat),i+n=K→∀ t:Tr,t=pick T.at T.t i →
  z6w u (i:Int) T.nm T.t.a T.t.o T.t.d T.t.s (T.rows.map Tr.v) T.F.h T.F.f T.F.o T.F.a.m T.F.a.k T.F.a.wd T.F.a.n T.F.a.sec T.F.a.kd T.F.a.save T.F.p T.F.b.m T.F.b.k T.F.b.wd T.F.b.n T.F.b.sec T.F.b.kd T.F.b.save T.F.q z1 z2 z3 z4 t.a t.o t.d t.s=some ((pick T.at T.t K).r 0):=by
 obtain ⟨c1,c2,c3⟩:=hc
 have hlen:(((T.rows.map Tr.v).length:Nat):Int)=(T.rows.length:Int):=by simp
 intro n
 induction n with
 | zero =>
  intro i hi t ht
  rw [zdd,hlen]
  have hk:i=K:=by omega
  by_cases h:i<T.rows.length
  ·rw [c_ltT (by omega),rd_tr (T.at_get h)]
   simp only [oB]
   have k0:((T.at i).v.nth 0).toI=(T.at i).a:=rfl
   rw [k0,c_leF (by have:=c3 i (by omega) h; simp only at this; omega),ht,hk]
   rfl
  ·rw [c_ltF (by omega),ht,hk]; rfl
 | succ n ih =>
  intro i hi t ht
  have h:i<T.rows.length:=by omega
  rw [zdd,hlen,c_ltT (by omega),rd_tr (T.at_get h)]
  simp only [oB]
  have k0:((T.at i).v.nth 0).toI=(T.at i).a:=rfl
  rw [k0,c_leT (by have:=c2 i (by omega); simp only at this; omega),w64 (by omega) (by omega),show (i:Int)+1=((i+1:Nat):Int) by omega]
  exact ih (i+1) (by omega) (T.at i) rfl
theorem asked_s {u:Int} (hu:In64 u):∃ y,z88 u=some (.int .i64 y)∧zyw u=some (.bool (leB (-4714) y&&leB y 294278))∧zac u=some (.bool (leB (-4714) y&&leB y 294278)):=by
 obtain ⟨y,y1,y2,_,_,_⟩:=z18w hu
 refine ⟨y,y1,?_,?_⟩
 ·rw [z18t,y1]
  simp only [oB,zl]
  cases leB (-4714) y <;> rfl
 ·rw [znf,y2]
  simp only [oB,zl]
  cases leB (-4714) y <;> rfl
theorem at_s (T:TabI) (hF:T.F.in64) (hf:In64 T.F.f) {u:Int} (hu:In64 u):∃ (t:Tr) (e:Int),zAt T u=some (t.r e)∧rzAt T u=some (t.r e)∧(-57600≤t.o∧t.o≤57600)∧(e=0∨t=tr0)∧(∀ P:List UInt8→Prop,P []→P T.t.s→(∀ r∈T.rows,P r.s)→P T.F.p→P T.F.q→P t.s):=by
 obtain ⟨b,b1,b2,b3⟩:=z18q T hF hf
 unfold ztn at b1
 unfold zot at b2
 have h0:-57600≤tr0.o∧tr0.o≤57600:=by unfold tr0; simp
 cases b with
 | false =>
  refine ⟨tr0,1,?_,?_,h0,.inr rfl,fun P h _ _ _ _=>h⟩
  ·unfold zAt; rw [zyx,zum,b1]; rfl
  ·unfold rzAt; rw [zad,b2]; rfl
 | true =>
 have ok:=b3 rfl
 obtain ⟨y,y1,a1,a2⟩:=asked_s hu
 have hmay:zl9 [.int .i64 u] (((([PV.int .i64 u]:List PV).length:Nat):Int)) 0=some (.int .i64 (bif leB (-4714) y&&leB y 294278 then 0 else 10)):=by
  rw [ztm,c_ltT (by simp)]
  have r1:rdI (tiInt .i64) [.int .i64 u] 0=some (.int .i64 u):=rfl
  rw [r1]
  simp only [oB,zl]
  rw [a1]
  simp only [oB,ze]
  cases (leB (-4714) y&&leB y 294278) with
  | false=>rfl
  | true =>
   simp only [Bool.not_true,cond_false,cond_true]
   rw [w64 (by omega) (by omega),ztm,c_ltF (by simp)]
 cases ha:(leB (-4714) y&&leB y 294278) with
 | false =>
  rw [ha] at hmay a2
  refine ⟨tr0,10,?_,?_,h0,.inr rfl,fun P h _ _ _ _=>h⟩
  ·unfold zAt; rw [zyx,zum,b1]
   simp only [oB,ze,Bool.not_true,cond_false]
   rw [hmay]; rfl
  ·unfold rzAt; rw [zad,b2,a2]; rfl
 | true =>
 rw [ha] at hmay a2
 have hy:-4714≤y∧y≤294278:=by
  simp only [Bool.and_eq_true] at ha
  exact ⟨of_decide_eq_true ha.1,of_decide_eq_true ha.2⟩
 obtain ⟨K,hK⟩:=cut_ex (f:=fun i=>(T.at i).a) (x:=u) T.rows.length (fun i hi=>z1hw T.rows _ ok.rows i hi)
 have off:-57600≤(pick T.at T.t K).o∧(pick T.at T.t K).o≤57600:=by
  cases K with
  | zero=>exact ok.t
  | succ k=>exact z1d2 T.rows _ ok.rows k _ (T.at_get (by have:=hK.1; omega))
 have r1:=rowsAt_s T u ok.len hK
 have r2:=rrowsAt_s T u ok.len hK 0 0 false [] K 0 (by omega) T.t rfl
 unfold zc4 at r1
 rw [show ((0:Nat):Int)=0 from rfl] at r2
 have goP:z18v T.nm T.t.a T.t.o T.t.d T.t.s (T.rows.map Tr.v) T.F.h T.F.f T.F.o T.F.a.m T.F.a.k T.F.a.wd T.F.a.n T.F.a.sec T.F.a.kd T.F.a.save T.F.p T.F.b.m T.F.b.k T.F.b.wd T.F.b.n T.F.b.sec T.F.b.kd T.F.b.save T.F.q u =
   (z1f4 T.nm T.t.a T.t.o T.t.d T.t.s (T.rows.map Tr.v) T.F.h T.F.f T.F.o T.F.a.m T.F.a.k T.F.a.wd T.F.a.n T.F.a.sec T.F.a.kd T.F.a.save T.F.p T.F.b.m T.F.b.k T.F.b.wd T.F.b.n T.F.b.sec T.F.b.kd T.F.b.save T.F.q u).bind fun v=>some (.tuple [.agg [.int .i64 (v.nth 0).toI,.int .i64 (v.nth 1).toI,.bool (v.nth 2).toB,.str (v.nth 3).toS],.int .i64 0]):=by
  rw [zyx,zum,b1]
  simp only [oB,ze,Bool.not_true,cond_false]
  rw [hmay]
  simp only [oB,cond_true,zl]
  rw [c_not,c_eqT rfl]
 have goR:z78 T.nm T.t.a T.t.o T.t.d T.t.s (T.rows.map Tr.v) T.F.h T.F.f T.F.o T.F.a.m T.F.a.k T.F.a.wd T.F.a.n T.F.a.sec T.F.a.kd T.F.a.save T.F.p T.F.b.m T.F.b.k T.F.b.wd T.F.b.n T.F.b.sec T.F.b.kd T.F.b.save T.F.q u =
   (bif T.F.h then (bif leB T.F.f u then zaf u T.nm T.t.a T.t.o T.t.d T.t.s (T.rows.map Tr.v) T.F.h T.F.f T.F.o T.F.a.m T.F.a.k T.F.a.wd T.F.a.n T.F.a.sec T.F.a.kd T.F.a.save T.F.p T.F.b.m T.F.b.k T.F.b.wd T.F.b.n T.F.b.sec T.F.b.kd T.F.b.save T.F.q 0 0 false [] else some ((pick T.at T.t K).r 0)) else some ((pick T.at T.t K).r 0)):=by
  rw [zad,b2,a2]
  simp only [oB,ze,Bool.not_true,cond_false]
  rw [znh,r2]
 unfold zAt rzAt
 rw [goP,goR,z1jz]
 by_cases hfoot:T.F.h=true∧T.F.f≤u
 ·obtain ⟨h1,h2⟩:=hfoot
  obtain ⟨t,e,f1,f2,f3,f4,_,f6⟩:=z1ja T.F hF hu
  have he:=f4 (ok.foot h1) y y1 hy.1 hy.2
  subst he
  unfold fAt at f1
  unfold rfAt at f2
  rw [z18s,zni,f1,f2,h1]
  simp only [cond_true]
  rw [c_leT h2,c_leT h2]
  exact ⟨t,0,rfl,rfl,f3,.inl rfl,fun P h1 _ _ h4 h5=>f6 P h1 h4 h5⟩
 ·refine ⟨pick T.at T.t K,0,?_,?_,off,.inl rfl,fun P _ h2 h3 _ _=>by cases K with | zero=>exact h2 | succ k=>exact h3 _ (List.mem_of_getElem? (T.at_get (by have:=hK.1; omega)))⟩
  ·cases h1:T.F.h with
   | false=>rw [h1] at r1; simp only [cond_false]; rw [r1]; rfl
   | true =>
    rw [h1] at r1
    simp only [cond_true]
    rw [c_leF (by intro h; exact hfoot ⟨h1,h⟩),r1]; rfl
  ·cases h1:T.F.h with
   | false=>rfl
   | true =>
    simp only [cond_true]
    rw [c_leF (by intro h; exact hfoot ⟨h1,h⟩)]
end Dv

namespace Dv
open Go
def dgN (n:Nat):UInt8:=UInt8.ofNat (48+n % 10)
def digC:Nat→Nat→Nat→List UInt8
 | 0,_,_=>[]
 | f+1,n,m=>if n=0∧m=0 then [] else digC f (n / 10) (m-1)++[dgN n]
def digN (n:Nat):List UInt8:=digC 20 n 1
theorem z1b9 (n:Nat):(PV.int .u8 (IntKind.u8.wrap (IntKind.u64.wrap (48+Int.tmod (n:Int) 10))))=byteV (dgN n):=by
 have h:Int.tmod (n:Int) 10=((n % 10:Nat):Int):=by rw [Int.tmod_eq_emod_of_nonneg (by omega)]; rfl
 rw [h,wu64 (by omega) (by omega),wu8 (by omega) (by omega)]
 unfold byteV dgN
 congr 1
 rw [UInt8.toNat_ofNat']
 omega
theorem zso:∀ f n m,(digC f n m).length≤f
 | 0,_,_=>Nat.le_refl _
 | f+1,n,m=>by
  unfold digC
  split
  ·simp
  ·have:=zso f (n / 10) (m-1)
   simp; omega
theorem z12z (k:Nat) (t:List UInt8) (c:UInt8):(List.replicate (k+1) (0:UInt8)++t).set k c=List.replicate k 0++(c::t):=by
 rw [List.replicate_succ',List.append_assoc,List.set_append_right _ _ (by simp)]
 simp
theorem z15a (least:Nat) (hl:least≤20):∀ (k n:Nat) (t:List UInt8),n<10 ^ k→k+t.length=20 →
  z2w (n:Int) (least:Int) (k:Int) ((List.replicate k (0:UInt8)++t).map byteV) 20=some (.str (digC k n (least-(20-k))++t))
 | 0,n,t,hn,ht=>by
  have h0:n=0:=by simpa using hn
  subst h0
  rw [z44,c_ltF (by omega),w64 (by omega) (by omega),c_ltF (by omega),z11e (by simp; omega),z11e rfl,decide_eq_true (by omega),cond_true]
  have:List.take (20-((0:Nat):Int).toNat) (List.drop ((0:Nat):Int).toNat ((List.replicate 0 (0:UInt8)++t).map byteV))=t.map byteV:=by
   simp
   apply List.take_of_length_le
   simp; omega
  rw [this,z75]
  rfl
 | k+1,n,t,hn,ht=>by
  have hlen:((List.replicate (k+1) (0:UInt8)++t).map byteV).length=20:=by simp; omega
  have hk:k<20:=by omega
  by_cases hc:n=0∧least-(20-(k+1))=0
  ·obtain ⟨h0,h1⟩:=hc
   subst h0
   rw [z44,c_ltF (by omega),w64 (by omega) (by omega),c_ltF (by omega),z11e hlen,z11e rfl,decide_eq_true (by omega),cond_true]
   have:List.take (20-((k+1:Nat):Int).toNat) (List.drop ((k+1:Nat):Int).toNat ((List.replicate (k+1) (0:UInt8)++t).map byteV))=t.map byteV:=by
    rw [Int.toNat_natCast,← List.map_drop,List.drop_left' (by simp)]
    apply List.take_of_length_le
    simp; omega
   rw [this,z75,h1]
   unfold digC
   rw [if_pos ⟨rfl,rfl⟩]
   rfl
  ·have h5:z2w (n:Int) (least:Int) ((k+1:Nat):Int) ((List.replicate (k+1) (0:UInt8)++t).map byteV) 20 =
     z3t (n:Int) (least:Int) ((k+1:Nat):Int) ((List.replicate (k+1) (0:UInt8)++t).map byteV) 20:=by
    rw [z44,w64 (by omega) (by omega)]
    by_cases h:0<(n:Int)
    ·rw [c_ltT h]
    ·rw [c_ltF h,c_ltT (by omega)]
   have e1:((k+1:Nat):Int)-1=(k:Int):=by omega
   rw [h5,zcf,e1,w64 (n:=(k:Int)) (by omega) (by omega),c_inT (by omega),Int.toNat_natCast,z1b9,z1fo (by simp; omega),z12z]
   simp only [oB]
   have e2:Int.tdiv (n:Int) 10=((n / 10:Nat):Int):=by rw [Int.tdiv_eq_ediv_of_nonneg (by omega)]; rfl
   have hp:10 ^ k≤10 ^ 19:=Nat.pow_le_pow_right (by omega) (by omega)
   have hpp:10 ^ (k+1)=10 ^ k*10:=Nat.pow_succ ..
   have hpv:(10:Nat) ^ 19=10000000000000000000:=by decide
   have hn10:n / 10<10 ^ k:=by omega
   rw [e2,wu64 (by omega) (by omega),z15a least hl k (n / 10) (dgN n::t) hn10 (by simp; omega)]
   have e3:least-(20-(k+1))-1=least-(20-k):=by omega
   conv=>rhs; rw [digC]
   rw [if_neg hc,e3]
   simp
theorem z1ji (n least:Nat) (hn:n<18446744073709551616) (hl:least≤20):z8l (n:Int) (least:Int)=some (.str (digC 20 n least)):=by
 rw [zpy]
 have:=z15a least hl 20 n [] (Nat.lt_trans hn (by decide)) rfl
 rw [Nat.sub_self,Nat.sub_zero,List.append_nil,List.append_nil] at this
 exact this
def revD:Nat→Nat→List UInt8
 | 0,u=>[dgN u]
 | f+1,u=>if u<10 then [dgN u] else dgN u::revD f (u / 10)
theorem z1i2:∀ f u,(revD f u).length≤f+1
 | 0,_=>by simp [revD]
 | f+1,u=>by
  unfold revD
  split
  ·simp
  ·have:=z1i2 f (u / 10)
   simp; omega
theorem z1b8:∀ f a,1≤a→digC f a 1=digC f a 0
 | 0,_,_=>rfl
 | f+1,a,h=>by
  unfold digC
  rw [if_neg (by omega),if_neg (by omega)]
theorem z1d5:∀ f u,(revD f u).reverse=if u<10 ^ (f+1) then digC (f+1) u 1 else (revD f u).reverse
 | 0,u=>by
  split
  ·unfold revD digC; rw [if_neg (by omega)]; rfl
  ·rfl
 | f+1,u=>by
  split
  ·rename_i h
   have hd:digC (f+1+1) u 1=digC (f+1) (u / 10) 0++[dgN u]:=by
    conv=>lhs; rw [digC]
    rw [if_neg (by omega)]
   rw [hd]
   unfold revD
   by_cases h10:u<10
   ·rw [if_pos h10]
    have:u / 10=0:=by omega
    rw [this]
    unfold digC
    rw [if_pos ⟨rfl,rfl⟩]
    rfl
   ·have h2:10 ^ (f+1+1)=10 ^ (f+1)*10:=Nat.pow_succ ..
    rw [if_neg h10,List.reverse_cons,z1d5 f (u / 10),if_pos (by omega),z1b8 _ _ (by omega)]
  ·rfl
theorem z1i1 (l:List UInt8) (hl:l.length≤1000000):∀ k,k≤l.length→z41 ((k:Int)-1) (l.map byteV) ((l.drop k).reverse.map byteV)=some (.str l.reverse)
 | 0,_=>by
  rw [z8i,c_leF (by omega),z75]
  rfl
 | k+1,hk=>by
  have e1:((k+1:Nat):Int)-1=(k:Int):=by omega
  have hg:l[k]?=some l[k]:=List.getElem?_eq_getElem (by omega)
  rw [e1,z8i,c_leT (by omega),c_inT (by simp; omega),Int.toNat_natCast,rdT_byte hg]
  simp only [oB]
  rw [zfz (by simp; omega)]
  simp only [oB]
  rw [w64 (by omega) (by omega)]
  have e2:(l.drop (k+1)).reverse.map byteV++[PV.int .u8 (byteV l[k]).toI]=(l.drop k).reverse.map byteV:=by
   rw [List.drop_eq_getElem_cons (show k<l.length by omega),List.reverse_cons,List.map_append]
   rfl
  rw [e2]
  exact z1i1 l hl k (by omega)
theorem rev_s (l:List UInt8) (hl:l.length≤1000000):z14 (l.map byteV)=some (.str l.reverse):=by
 rw [zhw,List.length_map,w64 (by omega) (by omega)]
 have:=z1i1 l hl l.length (Nat.le_refl _)
 rw [List.drop_length] at this
 exact this
theorem rdig_loop (x0:Int):∀ (f u:Nat) (b:List UInt8),u<10 ^ (f+1)→f≤19→b.length+f≤100→z2u x0 (u:Int) (b.map byteV) =
  if x0<0 then z14 ((b++revD f u++[45]).map byteV) else z14 ((b++revD f u).map byteV):=by
 have fin:∀ (u:Nat) (b:List UInt8),u<10→b.length≤200→z2u x0 (u:Int) (b.map byteV) =
   if x0<0 then z14 ((b++[dgN u]++[45]).map byteV) else z14 ((b++[dgN u]).map byteV):=by
  intro u b hu hb
  have e:(48:Int)+(u:Int)=48+Int.tmod (u:Int) 10:=by rw [Int.tmod_eq_emod_of_nonneg (by omega)]; omega
  rw [z93,c_leF (by omega),e,z1b9,zfz (by simp; omega)]
  simp only [oB]
  by_cases hx:x0<0
  ·rw [c_ltT hx,if_pos hx,zfz (by simp; omega)]
   simp only [oB,List.map_append]
   rfl
  ·rw [c_ltF hx,if_neg hx]
   simp only [List.map_append]
   rfl
 intro f
 induction f with
 | zero=>intro u b hu _ hb; exact fin u b (by simpa using hu) (by omega)
 | succ f ih =>
  intro u b hu hf hb
  unfold revD
  by_cases h:u<10
  ·rw [if_pos h]; exact fin u b h (by omega)
  ·have e2:Int.tdiv (u:Int) 10=((u / 10:Nat):Int):=by rw [Int.tdiv_eq_ediv_of_nonneg (by omega)]; rfl
   have hpp:10 ^ (f+1+1)=10 ^ (f+1)*10:=Nat.pow_succ ..
   have hp:10 ^ (f+1)≤10 ^ 19:=Nat.pow_le_pow_right (by omega) (by omega)
   have hpv:(10:Nat) ^ 19=10000000000000000000:=by decide
   rw [if_neg h,z93,c_leT (by omega),z1b9,zfz (by simp; omega)]
   simp only [oB]
   rw [e2,wu64 (by omega) (by omega)]
   have e3:b.map byteV++[byteV (dgN u)]=(b++[dgN u]).map byteV:=by simp
   rw [e3,ih (u / 10) (b++[dgN u]) (by omega) (by omega) (by simp; omega)]
   simp
def decI (a:Int):List UInt8:=if a<0 then 45::digN (-a).toNat else digN a.toNat
theorem z4w (n:Nat):(digN n).length≤20:=zso 20 n 1
theorem zj4 (a:Int):(decI a).length≤21:=by
 unfold decI
 split
 ·have:=z4w (-a).toNat; simp; omega
 ·have:=z4w a.toNat; omega
theorem z5c {a:Int} (h1:-9223372036854775808≤a) (h2:a≤9223372036854775807):zi a=some (.str (decI a)):=by
 have go:∀ u:Nat,u<18446744073709551616→z4f a (u:Int)=some (.str (if a<0 then 45::digN u else digN u)):=by
  intro u hu
  have hlt:u<10 ^ (19+1):=Nat.lt_trans hu (by decide)
  have hl:=z1i2 19 u
  rw [zia,show ([]:List PV)=([]:List UInt8).map byteV from rfl,rdig_loop a 19 u [] hlt (by omega) (by simp)]
  have hr:=z1d5 19 u
  rw [if_pos hlt] at hr
  by_cases ha:a<0
  ·rw [if_pos ha,if_pos ha,rev_s _ (by simp; omega)]
   simp only [List.nil_append,List.reverse_append,hr]
   rfl
  ·rw [if_neg ha,if_neg ha,rev_s _ (by simp; omega)]
   simp only [List.nil_append,hr]
   rfl
 rw [zmc]
 unfold decI
 by_cases ha:a<0
 ·have e:IntKind.u64.wrap (0-IntKind.u64.wrap a)=(((-a).toNat:Nat):Int):=by
   simp only [IntKind.wrap,IntKind.bits,IntKind.signed]
   simp
   omega
  rw [c_ltT ha,e,go _ (by omega),if_pos ha,if_pos ha]
 ·have e:IntKind.u64.wrap a=((a.toNat:Nat):Int):=by rw [wu64 (by omega) (by omega)]; omega
  rw [c_ltF ha,e,go _ (by omega),if_neg ha,if_neg ha]
def twoN (n:Nat):List UInt8:=digC 20 n 2
theorem digN_lt {n:Nat} (h:n<10):digN n=[dgN n]:=by
 unfold digN digC
 have:n / 10=0:=by omega
 rw [if_neg (by omega),this]
 unfold digC
 rw [if_pos ⟨rfl,rfl⟩]; rfl
theorem twoN_lt {n:Nat} (h:n<10):twoN n=[48,dgN n]:=by
 unfold twoN digC
 have:n / 10=0:=by omega
 rw [if_neg (by omega),this]
 have:digC 19 0 (2-1)=[48]:=by decide
 rw [this]; rfl
theorem twoN_ge {n:Nat} (h:10≤n):twoN n=digN n:=by
 unfold twoN digN digC
 rw [if_neg (by omega),if_neg (by omega)]
 have:1≤n / 10:=by omega
 rw [show 2-1=1 from rfl,show 1-1=0 from rfl,z1b8 19 _ this]
theorem z28 (n:Nat):(twoN n).length≤20:=zso 20 n 2
theorem zih {a:Int} (h0:0≤a) (h1:a≤9223372036854775807):z3d a=some (.str (twoN a.toNat)):=by
 have e:IntKind.u64.wrap a=((a.toNat:Nat):Int):=by rw [wu64 h0 (by omega)]; omega
 rw [z11a,c_leT h0,e]
 have:=z1ji a.toNat 2 (by omega) (by omega)
 rw [show ((2:Nat):Int)=2 from rfl] at this
 rw [this]; rfl
theorem zg3 {a:Int} (h0:0≤a) (h1:a≤9223372036854775807):zw a=some (.str (twoN a.toNat)):=by
 have hd:decI a=digN a.toNat:=if_neg (by omega)
 rw [zt9,c_leT h0]
 by_cases h:a<10
 ·rw [c_ltT h,zma,z5c (by omega) h1]
  simp only [oB,zg]
  rw [hd,digN_lt (by omega),z9 (by simp),twoN_lt (by omega)]; rfl
 ·rw [c_ltF h,zm9,c_ltF (by omega),z5c (by omega) h1]
  simp only [oB,zg]
  rw [hd,twoN_ge (by omega)]
theorem zbm {a:Int} (h0:0≤a) (h1:a≤9223372036854775807):z5v a=some (.str (digN a.toNat)):=by
 rw [z16o,zih h0 h1]
 by_cases h:a<10
 ·rw [c_ltT h,digN_lt (by omega),twoN_lt (by omega)]; rfl
 ·rw [c_ltF h,twoN_ge (by omega)]; rfl
end Dv

namespace Dv
open Go
theorem decR_low {s:List UInt8} {i:Nat} {c:UInt8} (h:s[i]?=some c) (hc:c.toNat<128):decR s i=(c.toNat,1):=by
 have hi:i<s.length:=(List.getElem?_eq_some_iff.1 h).1
 have hs:i<(⟨s.toArray⟩:ByteArray).size:=by simpa [ByteArray.size] using hi
 have hg:(⟨s.toArray⟩:ByteArray)[i]'hs=c:=(List.getElem?_eq_some_iff.1 h).2
 unfold decR
 rw [decode_ascii ⟨s.toArray⟩ i hs (by rw [hg]; exact hc),hg]
theorem zsm {α:Type} {s:List α} {i:Nat} (h:s.drop i=[]):s.length≤i:=List.drop_eq_nil_iff.1 h
theorem zkg {α:Type} {s r:List α} {c:α} {i:Nat} (h:s.drop i=c::r):i<s.length∧s[i]?=some c∧s.drop (i+1)=r:=by
 have hi:i<s.length:=by
  rcases Nat.lt_or_ge i s.length with h' | h'
  ·exact h'
  ·rw [List.drop_eq_nil_iff.2 h'] at h; cases h
 rw [List.drop_eq_getElem_cons hi] at h
 simp only [List.cons.injEq] at h
 exact ⟨hi,by rw [List.getElem?_eq_getElem hi,h.1],h.2⟩
def z6k:List UInt8→List UInt8
 | []=>[]
 | c::r=>if z6k r=[]∧c=48 then [] else c::z6k r
theorem zzc:∀ l,l.take (z6k l).length=z6k l
 | []=>rfl
 | c::r=>by
  unfold z6k
  split
  ·rfl
  ·simp [zzc r]
theorem strip_len (l:List UInt8):(z6k l).length≤l.length:=by
 have:=congrArg List.length (zzc l)
 simp at this; omega
def endF:Nat→Nat→List UInt8→Nat
 | e,_,[]=>e
 | e,i,c::r=>endF (if c=48 then e else i+1) (i+1) r
theorem endF_eq:∀ (r:List UInt8) (e i:Nat),endF e i r=if z6k r=[] then e else i+(z6k r).length
 | [],e,i=>rfl
 | c::r,e,i=>by
  unfold endF
  rw [endF_eq r]
  by_cases h:z6k r=[]
  ·rw [if_pos h]
   by_cases hc:c=48
   ·have hs:z6k (c::r)=[]:=if_pos ⟨h,hc⟩
    rw [if_pos hc,if_pos hs]
   ·have hs:z6k (c::r)=c::z6k r:=if_neg (fun x=>hc x.2)
    rw [if_neg hc,hs,if_neg (by simp),h]; simp
  ·have hs:z6k (c::r)=c::z6k r:=if_neg (fun x=>h x.1)
   rw [if_neg h,hs,if_neg (by simp)]; simp; omega
theorem zs3:∀ r,z6k (r++[48])=z6k r
 | []=>by decide
 | c::r=>by
  rw [List.cons_append,z6k,z6k,zs3 r]
theorem z13e {c:UInt8} (hc:c≠48):∀ r,z6k (r++[c])=r++[c]
 | []=>by simp [z6k,hc]
 | a::r=>by
  rw [List.cons_append,z6k,z13e hc r,if_neg (by simp)]
def digB0 (c:UInt8):Prop:=48≤c.toNat∧c.toNat≤57
theorem dgN_dig (n:Nat):digB0 (dgN n):=by
 unfold digB0 dgN
 rw [UInt8.toNat_ofNat']
 omega
theorem z1jm:∀ f n m,∀ c∈digC f n m,digB0 c
 | 0,_,_,c,h=>by cases h
 | f+1,n,m,c,h=>by
  unfold digC at h
  split at h
  ·cases h
  ·rw [List.mem_append] at h
   rcases h with h | h
   ·exact z1jm f _ _ c h
   ·simp at h; subst h; exact dgN_dig n
theorem z1eb:∀ f n m,n<10 ^ f→z6k (digC f n m)=[]→n=0
 | 0,n,m,hn,_=>by simpa using hn
 | f+1,n,m,hn,h=>by
  unfold digC at h
  split at h
  ·rename_i h0; exact h0.1
  ·by_cases hd:dgN n=48
   ·rw [hd,zs3] at h
    have hpp:10 ^ (f+1)=10 ^ f*10:=Nat.pow_succ ..
    have:=z1eb f (n / 10) (m-1) (by omega) h
    have hm:n % 10=0:=by
     have:=congrArg UInt8.toNat hd
     unfold dgN at this
     rw [UInt8.toNat_ofNat'] at this
     have h48:(48:UInt8).toNat=48:=rfl
     omega
    omega
   ·rw [z13e hd] at h
    simp at h
theorem z1jl:∀ k f u,u<10 ^ k→k<f→digC f (10 ^ k+u) 1=49::digC f u k
 | 0,0,_,_,h=>by omega
 | 0,f+1,u,hu,_=>by
  have:u=0:=by simpa using hu
  subst this
  have h1:digC f 0 0=[]:=by cases f <;> rfl
  unfold digC
  rw [if_neg (by omega),if_pos ⟨rfl,rfl⟩]
  have:(10 ^ 0+0) / 10=0:=by decide
  rw [this,show 1-1=0 from rfl,h1]
  rfl
 | k+1,0,_,_,h=>by omega
 | k+1,f+1,u,hu,hf=>by
  have hpp:10 ^ (k+1)=10 ^ k*10:=Nat.pow_succ ..
  have hp:1≤10 ^ k:=Nat.one_le_pow _ _ (by omega)
  have e1:(10 ^ (k+1)+u) / 10=10 ^ k+u / 10:=by omega
  have e2:dgN (10 ^ (k+1)+u)=dgN u:=by
   unfold dgN
   have:(10 ^ (k+1)+u) % 10=u % 10:=by omega
   rw [this]
  have l:digC (f+1) (10 ^ (k+1)+u) 1=digC f (10 ^ k+u / 10) 0++[dgN u]:=by
   conv=>lhs; rw [digC]
   rw [if_neg (by omega),e1,e2]
  have r:digC (f+1) u (k+1)=digC f (u / 10) k++[dgN u]:=by
   conv=>lhs; rw [digC]
   rw [if_neg (by omega),Nat.add_sub_cancel]
  rw [l,r,← z1b8 f _ (by omega),z1jl k f (u / 10) (by omega) (by omega)]
  rfl
def fracN (u:Nat):List UInt8:=if u=0∨999999<u then [] else 46::z6k (digC 20 u 6)
theorem zbr (u:Nat):(fracN u).length≤21:=by
 unfold fracN
 split
 ·simp
 ·have h1:=strip_len (digC 20 u 6)
  have h2:=zso 20 u 6
  simp; omega
theorem z14o (s:List UInt8) (hl:s.length≤100) (hd:∀ c∈s,digB0 c):∀ (r:List UInt8) (i e:Nat),s.drop i=r→i≤s.length→e≤i →
  z6j s (e:Int) s i=some (.str (46::s.take (endF e i r)))
 | [],i,e,hr,hi,he=>by
  have:=zsm hr
  rw [zgk,c_ltnF (by omega),takeS_n (by omega)]
  simp only [oB]
  rw [z9 (by first | omega | (simp; omega))]
  rfl
 | c::r,i,e,hr,hi,he=>by
  obtain ⟨h1,h2,h3⟩:=zkg hr
  have hc:digB0 c:=hd c (List.mem_of_getElem? h2)
  have hdc:=decR_low h2 (by unfold digB0 at hc; omega)
  rw [zgk,c_ltnT h1,hdc]
  simp only
  unfold endF
  by_cases h48:c=48
  ·have:(((c.toNat:Nat):Int))=48:=by rw [h48]; rfl
   rw [c_not,c_eqT this,if_pos h48,z14o s hl hd r (i+1) e h3 (by omega) (by omega)]
  ·have:¬ (((c.toNat:Nat):Int))=48:=by
    intro h
    apply h48
    have h':c.toNat=48:=by omega
    exact UInt8.toNat_inj.1 h'
   have e1:IntKind.i64.wrap (((i:Nat):Int)+1)=((i+1:Nat):Int):=by rw [w64 (by omega) (by omega)]; omega
   rw [c_not,c_eqF this,if_neg h48,e1,z14o s hl hd r (i+1) (i+1) h3 (by omega) (by omega)]
theorem frac_s {a:Int} (h0:0≤a) (h1:a≤9223372036854775807):zec a=some (.str (fracN a.toNat)):=by
 rw [zzv]
 unfold fracN
 by_cases ha:a≤0
 ·rw [c_leT ha,zgl,if_pos (by omega)]
 ·rw [c_leF ha]
  by_cases hb:999999<a
  ·rw [c_ltT hb,zgl,if_pos (by omega)]
  ·have e:IntKind.u64.wrap a=((a.toNat:Nat):Int):=by rw [wu64 h0 (by omega)]; omega
   have hds:=z1ji a.toNat 6 (by omega) (by omega)
   rw [show ((6:Nat):Int)=6 from rfl] at hds
   rw [c_ltF hb,ztl,e,hds,if_neg (by omega)]
   simp only [oB,zg]
   have hl:=zso 20 a.toNat 6
   have:=z14o (digC 20 a.toNat 6) (by omega) (z1jm 20 _ _) (digC 20 a.toNat 6) 0 0 rfl (by omega) (by omega)
   rw [show ((0:Nat):Int)=0 from rfl] at this
   rw [this,endF_eq]
   by_cases hz:z6k (digC 20 a.toNat 6)=[]
   ·rw [if_pos hz,hz]; rfl
   ·rw [if_neg hz,Nat.zero_add,zzc]
theorem z13v:∀ (n:Nat) (s:List UInt8),s.length=n→n≤100→z6k s≠[]→z3k s=some (.str (46::z6k s))
 | 0,s,hn,_,h=>by
  have:s=[]:=List.length_eq_zero_iff.1 hn
  subst this
  exact absurd rfl h
 | n+1,s,hn,hle,h=>by
  have hne:s≠[]:=by rintro rfl; simp at hn
  obtain ⟨r,c,rfl⟩:∃ r c,s=r++[c]:=⟨s.dropLast,s.getLast hne,(List.dropLast_concat_getLast hne).symm⟩
  have hlen:(r++[c]).length=r.length+1:=by simp
  have hrn:r.length=n:=by omega
  have e1:IntKind.i64.wrap ((((r++[c]).length:Nat):Int)-1)=(r.length:Int):=by rw [hlen,w64 (by omega) (by omega)]; omega
  have hg:(r++[c])[r.length]?=some c:=by simp
  rw [zgz,e1,atS_ok hg]
  simp only [oB]
  by_cases h48:c=48
  ·have:(((c.toNat:Nat):Int))=48:=by rw [h48]; rfl
   rw [c_eqT this,takeS_n (by simp)]
   simp only [oB]
   rw [List.take_left,h48,zs3]
   rw [h48,zs3] at h
   exact z13v n r hrn (by omega) h
  ·have:¬ (((c.toNat:Nat):Int))=48:=by
    intro h
    apply h48
    have h':c.toNat=48:=by omega
    exact UInt8.toNat_inj.1 h'
   rw [c_eqF this,z9 (by first | omega | (simp; omega)),z13e h48]
   rfl
theorem z19y {a:Int} (h0:0≤a) (h1:a≤9223372036854775807):z24 a=some (.str (fracN a.toNat)):=by
 rw [zjn]
 unfold fracN
 by_cases ha:a<1
 ·rw [c_ltT ha,z7r,if_pos (by omega)]
 ·rw [c_ltF ha]
  by_cases hb:999999<a
  ·rw [c_ltT hb,z7r,if_pos (by omega)]
  ·have hlt:a.toNat<10 ^ 6:=by omega
   have hd:decI (1000000+a)=49::digC 20 a.toNat 6:=by
    unfold decI
    rw [if_neg (by omega)]
    have:=z1jl 6 20 a.toNat hlt (by omega)
    unfold digN
    rw [← this]
    congr 1
    omega
   have hl:=zso 20 a.toNat 6
   rw [c_ltF hb,zh0,w64 (by omega) (by omega),z5c (by omega) (by omega),if_neg (by omega),hd]
   simp only [oB,zg]
   have:dropS (49::digC 20 a.toNat 6) 1=some (digC 20 a.toNat 6):=by rw [zlv (by omega) (by simp; omega)]; rfl
   rw [this]
   simp only [oB]
   refine z13v _ _ rfl (by omega) (fun h=>?_)
   have:=z1eb 20 a.toNat 6 (Nat.lt_trans hlt (by decide)) h
   omega
def textN (t:Nat):List UInt8:=twoN (t / 3600000000)++(58::(twoN (t / 60000000 % 60)++(58::(twoN (t / 1000000 % 60)++fracN (t % 1000000)))))
theorem zww (t:Nat):(textN t).length≤90:=by
 have h1:=z28 (t / 3600000000)
 have h2:=z28 (t / 60000000 % 60)
 have h3:=z28 (t / 1000000 % 60)
 have h4:=zbr (t % 1000000)
 unfold textN
 simp; omega
theorem tdivN (a b:Nat):Int.tdiv (a:Int) (b:Int)=((a / b:Nat):Int):=by rw [Int.tdiv_eq_ediv_of_nonneg (by omega)]; rfl
theorem tmodN (a b:Nat):Int.tmod (a:Int) (b:Int)=((a % b:Nat):Int):=by rw [Int.tmod_eq_emod_of_nonneg (by omega)]; rfl
theorem text_s (t:Nat) (h:t<18446744073709551616):zl0 (t:Int)=some (.str (textN t)):=by
 have h1:=z28 (t / 3600000000)
 have h2:=z28 (t / 60000000 % 60)
 have h3:=z28 (t / 1000000 % 60)
 have h4:=zbr (t % 1000000)
 have e1:IntKind.i64.wrap (IntKind.u64.wrap (Int.tdiv (t:Int) 3600000000))=((t / 3600000000:Nat):Int):=by
  have:=tdivN t 3600000000
  rw [show ((3600000000:Nat):Int)=3600000000 from rfl] at this
  rw [this,wu64 (by omega) (by omega),w64 (by omega) (by omega)]
 have e2:IntKind.i64.wrap (Int.tmod (IntKind.u64.wrap (Int.tdiv (t:Int) 60000000)) 60)=((t / 60000000 % 60:Nat):Int):=by
  have:=tdivN t 60000000
  rw [show ((60000000:Nat):Int)=60000000 from rfl] at this
  rw [this,wu64 (by omega) (by omega)]
  have:=tmodN (t / 60000000) 60
  rw [show ((60:Nat):Int)=60 from rfl] at this
  rw [this,w64 (by omega) (by omega)]
 have e3:IntKind.i64.wrap (Int.tmod (IntKind.u64.wrap (Int.tdiv (t:Int) 1000000)) 60)=((t / 1000000 % 60:Nat):Int):=by
  have:=tdivN t 1000000
  rw [show ((1000000:Nat):Int)=1000000 from rfl] at this
  rw [this,wu64 (by omega) (by omega)]
  have:=tmodN (t / 1000000) 60
  rw [show ((60:Nat):Int)=60 from rfl] at this
  rw [this,w64 (by omega) (by omega)]
 have e4:IntKind.i64.wrap (Int.tmod (t:Int) 1000000)=((t % 1000000:Nat):Int):=by
  have:=tmodN t 1000000
  rw [show ((1000000:Nat):Int)=1000000 from rfl] at this
  rw [this,w64 (by omega) (by omega)]
 rw [z1bb,z16z,e1,e2,e3,e4]
 simp only [oB,tn0,tn1,tn2,tn3,zl]
 rw [zih (by omega) (by omega),zih (by omega) (by omega),zih (by omega) (by omega),frac_s (by omega) (by omega)]
 simp only [oB,zg,Int.toNat_natCast]
 rw [z9 (by first | omega | (simp; omega))]
 simp only [oB]
 rw [z9 (by first | omega | (simp; omega))]
 simp only [oB]
 rw [z9 (by first | omega | (simp; omega))]
 simp only [oB]
 rw [z9 (by first | omega | (simp; omega))]
 simp only [oB]
 rw [z9 (by first | omega | (simp; omega))]
 simp only [oB]
 unfold textN
 simp
def longI (a:Int):List UInt8:=if a<0 then 45::textN (-a).toNat else textN a.toNat
theorem z14f (a:Int):(longI a).length≤91:=by
 unfold longI
 split
 ·have:=zww (-a).toNat; simp; omega
 ·have:=zww a.toNat; omega
theorem wneg64 {a:Int} (h1:-9223372036854775808≤a) (ha:a<0):IntKind.u64.wrap (0-IntKind.u64.wrap a)=(((-a).toNat:Nat):Int):=by
 simp only [IntKind.wrap,IntKind.bits,IntKind.signed]
 simp
 omega
theorem long_s {a:Int} (h1:-9223372036854775808≤a) (h2:a≤9223372036854775807):zdy a=some (.str (longI a)):=by
 rw [z1bd]
 unfold longI
 by_cases ha:a<0
 ·have hl:=zww (-a).toNat
  rw [c_ltT ha,if_pos ha,wneg64 h1 ha,text_s _ (by omega)]
  simp only [oB,zg]
  rw [z9 (by first | omega | (simp; omega))]; rfl
 ·have e:IntKind.u64.wrap a=((a.toNat:Nat):Int):=by rw [wu64 (by omega) (by omega)]; omega
  rw [c_ltF ha,if_neg ha,e,text_s _ (by omega)]; rfl
theorem z1hz (t:Nat) (h:t<18446744073709551616) (x:List UInt8) (hx:x.length≤1):z5p (t:Int) x=some (.str (x++textN t)):=by
 have h1:=z28 (t / 3600000000)
 have h2:=z28 (t / 60000000 % 60)
 have h3:=z28 (t / 1000000 % 60)
 have h4:=zbr (t % 1000000)
 have e0:IntKind.i64.wrap (IntKind.u64.wrap (Int.tdiv (t:Int) 1000000))=((t / 1000000:Nat):Int):=by
  have:=tdivN t 1000000
  rw [show ((1000000:Nat):Int)=1000000 from rfl] at this
  rw [this,wu64 (by omega) (by omega),w64 (by omega) (by omega)]
 have e1:IntKind.i64.wrap (Int.tdiv ((t / 1000000:Nat):Int) 3600)=((t / 3600000000:Nat):Int):=by
  have:=tdivN (t / 1000000) 3600
  rw [show ((3600:Nat):Int)=3600 from rfl] at this
  rw [this,w64 (by omega) (by omega),Nat.div_div_eq_div_mul]
 have e2:Int.tmod (IntKind.i64.wrap (Int.tdiv ((t / 1000000:Nat):Int) 60)) 60=((t / 60000000 % 60:Nat):Int):=by
  have:=tdivN (t / 1000000) 60
  rw [show ((60:Nat):Int)=60 from rfl] at this
  rw [this,w64 (by omega) (by omega),Nat.div_div_eq_div_mul]
  exact tmodN _ 60
 have e3:Int.tmod ((t / 1000000:Nat):Int) 60=((t / 1000000 % 60:Nat):Int):=tmodN _ 60
 have e4:IntKind.i64.wrap (Int.tmod (t:Int) 1000000)=((t % 1000000:Nat):Int):=by
  have:=tmodN t 1000000
  rw [show ((1000000:Nat):Int)=1000000 from rfl] at this
  rw [this,w64 (by omega) (by omega)]
 rw [zkt,e0,e1,e2,e3,e4,zg3 (by omega) (by omega),zg3 (by omega) (by omega),zg3 (by omega) (by omega),z19y (by omega) (by omega)]
 simp only [oB,zg,Int.toNat_natCast]
 rw [z9 (by first | omega | (simp; omega))]
 simp only [oB]
 rw [z9 (by first | omega | (simp; omega))]
 simp only [oB]
 rw [z9 (by first | omega | (simp; omega))]
 simp only [oB]
 rw [z9 (by first | omega | (simp; omega))]
 simp only [oB]
 rw [z9 (by first | omega | (simp; omega))]
 simp only [oB]
 rw [z9 (by first | omega | (simp; omega))]
 simp only [oB]
 unfold textN
 simp
theorem rlong_s {a:Int} (h1:-9223372036854775808≤a) (h2:a≤9223372036854775807):z5q a=some (.str (longI a)):=by
 rw [zpo]
 unfold longI
 by_cases ha:a<0
 ·rw [c_ltT ha,if_pos ha,wneg64 h1 ha,z1hz _ (by omega) _ (by simp)]; rfl
 ·have e:IntKind.u64.wrap a=((a.toNat:Nat):Int):=by rw [wu64 (by omega) (by omega)]; omega
  rw [c_ltF ha,if_neg ha,e,z1hz _ (by omega) _ (by simp)]; rfl
end Dv

namespace Dv
open Go
def totL:List (List UInt8)→Nat
 | []=>0
 | s::l=>s.length+totL l
theorem z1e1 (l:List (List UInt8)) (hl:l.length≤1000):∀ (r:List (List UInt8)) (i:Nat) (acc:List UInt8),l.drop i=r→i≤l.length→acc.length+totL r≤1000000 →
  zek (l.map PV.str) (l.length:Int) (i:Int) (acc.map byteV)=some (.str (acc++r.flatten))
 | [],i,acc,hr,hi,ht=>by
  have:=zsm hr
  rw [zbj,c_ltF (by omega),z75]
  simp
 | s::r,i,acc,hr,hi,ht=>by
  obtain ⟨h1,h2,h3⟩:=zkg hr
  have e1:IntKind.i64.wrap ((i:Int)+1)=((i+1:Nat):Int):=by rw [w64 (by omega) (by omega)]; omega
  simp only [totL] at ht
  rw [zbj,c_ltT (by omega),rdI_n,zzj h2]
  simp only [oB,zg]
  rw [decide_eq_true (by omega),cond_true,Int.toNat_natCast,List.take_length,zfz (by simp; omega)]
  simp only [oB]
  rw [e1,← List.map_append,z1e1 l hl r (i+1) (acc++s) h3 (by omega) (by simp; omega)]
  simp
theorem ziw (l:List (List UInt8)) (hl:l.length≤1000) (ht:totL l≤1000000):zt (l.map PV.str)=some (.str l.flatten):=by
 rw [z10h,List.length_map]
 have:=z1e1 l hl l 0 [] rfl (by omega) (by simpa using ht)
 exact this
def joinB (sep:List UInt8):List (List UInt8)→List UInt8
 | []=>[]
 | [a]=>a
 | a::b::r=>a++(sep++joinB sep (b::r))
def tailB (sep:List UInt8):List (List UInt8)→List UInt8
 | []=>[]
 | a::r=>sep++(a++tailB sep r)
theorem z17x (sep a:List UInt8):∀ r,joinB sep (a::r)=a++tailB sep r
 | []=>by simp [joinB,tailB]
 | b::r=>by
  rw [joinB,tailB,z17x sep b r]
theorem z1ci (sep:List UInt8):∀ l,(tailB sep l).length=totL l+sep.length*l.length
 | []=>by simp [tailB,totL]
 | a::r=>by
  simp only [tailB,totL,List.length_append,z1ci sep r,List.length_cons,Nat.mul_add,Nat.mul_one]
  omega
theorem z1j1 (sep:List UInt8) (hsep:1≤sep.length∧sep.length≤100) (l:List (List UInt8)) (hl:l.length≤1000):∀ (r:List (List UInt8)) (i:Nat) (acc:List UInt8),l.drop i=r→i≤l.length →
  acc.length+(tailB sep r).length≤10000000→acc++tailB sep r≠[] →
  z9y sep (l.map PV.str) (l.length:Int) (i:Int) (acc.map byteV)=some (.str (acc++tailB sep r))
 | [],i,acc,hr,hi,ht,hne=>by
  have:=zsm hr
  have hacc:acc≠[]:=by simpa [tailB] using hne
  have hn:isNilL (acc.map byteV)=false:=by cases acc with | nil=>exact absurd rfl hacc | cons=>rfl
  rw [zhc,c_ltF (by omega),hn]
  simp only [tailB,List.length_nil,Nat.add_zero,List.append_nil] at ht ⊢
  simp only [Bool.not_false,Bool.and_self,cond_true,cond_false]
  rw [decide_eq_true ⟨trivial,by rw [List.length_map]; omega⟩,cond_true,z75]
  rfl
 | s::r,i,acc,hr,hi,ht,hne=>by
  obtain ⟨h1,h2,h3⟩:=zkg hr
  have e1:IntKind.i64.wrap ((i:Int)+1)=((i+1:Nat):Int):=by rw [w64 (by omega) (by omega)]; omega
  simp only [tailB,List.length_append] at ht
  rw [zhc,c_ltT (by omega),rdI_n,zzj h2]
  simp only [oB,zg]
  rw [zfz (by simp; omega)]
  simp only [oB]
  rw [zfz (by simp; omega)]
  simp only [oB]
  rw [e1,← List.map_append,← List.map_append,z1j1 sep hsep l hl r (i+1) (acc++sep++s) h3 (by omega) (by simp; omega) (by
   intro h
   have:=congrArg List.length h
   simp only [List.length_append,List.length_nil] at this
   omega)]
  simp [tailB]
theorem z1j2 (sep:List UInt8) (l:List (List UInt8)) (hl:l.length≤1000) (x0:List PV):∀ (r:List (List UInt8)) (i n:Nat),l.drop i=r→i≤l.length→n+totL r≤10000000 →
  z9z x0 sep (n:Int) (l.map PV.str) (l.length:Int) (i:Int)=if n+totL r=0 then zil x0 sep else zfn x0 sep []
 | [],i,n,hr,hi,ht=>by
  have:=zsm hr
  simp only [totL,Nat.add_zero] at ht
  have h0:n+totL []=n:=rfl
  have e0:IntKind.i64.wrap (0-0)=0:=by decide
  have e1:IntKind.i64.wrap (2*0)=0:=by decide
  rw [zhd,c_ltF (by omega),c_ltF (by omega),e0,e1,w64 (n:=0+(n:Int)) (by omega) (by omega)]
  by_cases hn:n=0
  ·rw [c_ltF (by omega),if_pos (h0.trans hn)]
  ·rw [c_ltT (by omega),if_neg (by rw [h0]; exact hn),decide_eq_true (by omega),cond_true]
 | s::r,i,n,hr,hi,ht=>by
  obtain ⟨h1,h2,h3⟩:=zkg hr
  have e1:IntKind.i64.wrap ((i:Int)+1)=((i+1:Nat):Int):=by rw [w64 (by omega) (by omega)]; omega
  simp only [totL] at ht
  have h0:n+totL (s::r)=n+s.length+totL r:=by simp only [totL]; omega
  have e2:IntKind.i64.wrap ((n:Int)+((s.length:Nat):Int))=((n+s.length:Nat):Int):=by rw [w64 (by omega) (by omega)]; omega
  rw [zhd,c_ltT (by omega),rdI_n,zzj h2]
  simp only [oB,zg]
  rw [w64 (by omega) (by omega),c_ltF (by omega),zv2,e1,e2,z1j2 sep l hl x0 r (i+1) (n+s.length) h3 (by omega) (by omega),h0]
theorem join_c21 (sep:List UInt8) (hsep:1≤sep.length∧sep.length≤100) (a b:List UInt8) (r:List (List UInt8)) (hl:r.length≤900) (ht:a.length+totL (b::r)≤1000000) :
  zfm ((a::b::r).map PV.str) sep (a.map byteV)=some (.str (joinB sep (a::b::r))):=by
 have e:dropS ((a::b::r).map PV.str) 1=some ((b::r).map PV.str):=by rw [zlv (by omega) (by simp; omega)]; rfl
 rw [zv0,e]
 simp only [oB]
 rw [List.length_map,z17x]
 have htl:=z1ci sep (b::r)
 have hm:sep.length*(b::r).length≤100*901:=Nat.mul_le_mul hsep.2 (by simp; omega)
 have:=z1j1 sep hsep (b::r) (by simp; omega) (b::r) 0 a rfl (by omega) (by omega) (by
  intro h
  have:=congrArg List.length h
  simp only [List.length_append,htl,List.length_cons,List.length_nil,Nat.mul_add] at this
  omega)
 exact this
theorem sjoin_s (sep:List UInt8) (hsep:1≤sep.length∧sep.length≤100) (l:List (List UInt8)) (hl:l.length≤900) (ht:totL l≤1000000):zof (l.map PV.str) sep=some (.str (joinB sep l)):=by
 match l,hl,ht with
 | [],_,_=>rw [zhb]; rfl
 | [a],_,_ =>
  rw [zhb]
  have e1:((([a].map PV.str).length:Nat):Int)=1:=rfl
  rw [e1,c_eqF (by omega),c_eqT rfl]
  rfl
 | a::b::r,hl,ht =>
  simp only [List.length_cons] at hl
  have hlen:(((a::b::r).map PV.str).length:Int)=((r.length+2:Nat):Int):=by simp only [List.length_map,List.length_cons]
  have e2:IntKind.i64.wrap (((r.length+2:Nat):Int)-1)=((r.length+1:Nat):Int):=by rw [w64 (by omega) (by omega)]; omega
  have e3:1000000≤IntKind.i64.wrap (Int.tdiv 9223372036854775807 ((r.length+1:Nat):Int)):=by
   have:=tdivN 9223372036854775807 (r.length+1)
   rw [show ((9223372036854775807:Nat):Int)=9223372036854775807 from rfl] at this
   have h1:9223372036854775807 / (r.length+1)≤9223372036854775807:=Nat.div_le_self _ _
   have h2:1000000≤9223372036854775807 / (r.length+1):=by
    rw [Nat.le_div_iff_mul_le (by omega)]
    omega
   rw [this,w64 (by omega) (by omega)]
   omega
  have hm:sep.length*(r.length+1)≤100*901:=Nat.mul_le_mul hsep.2 (by omega)
  have hmi:((sep.length:Nat):Int)*((r.length+1:Nat):Int)=((sep.length*(r.length+1):Nat):Int):=by push_cast; rfl
  rw [zhb,hlen,c_eqF (by omega),c_eqF (by omega),c_ltT (by omega),e2,c_eqF (by omega),c_leF (by omega),zv4,hlen,e2,hmi,w64 (n:=((sep.length*(r.length+1):Nat):Int)) (by omega) (by omega),
   Int.zero_add,w64 (by omega) (by omega),zv3,hlen]
  have hll:((r.length+2:Nat):Int)=(((a::b::r).length:Nat):Int):=by simp only [List.length_cons]
  rw [hll]
  have h12:=z1j2 sep (a::b::r) (by simp; omega) ((a::b::r).map PV.str) (a::b::r) 0 (sep.length*(r.length+1)) rfl (by omega) (by omega)
  rw [show ((0:Nat):Int)=0 from rfl] at h12
  have hpos:1*1≤sep.length*(r.length+1):=Nat.mul_le_mul hsep.1 (by omega)
  rw [h12,if_neg (by omega),zv1]
  have hr0:rdI tiStr ((a::b::r).map PV.str) 0=some (.str a):=rfl
  rw [hr0]
  simp only [totL] at ht
  simp only [oB,zg]
  rw [zfz (by simp; omega)]
  simp only [oB,List.nil_append]
  exact join_c21 sep hsep a b r (by omega) (by simp only [totL]; omega)
def fullL (l:List (List UInt8)):List (List UInt8):=l.filter fun s=>!eqS s []
theorem z1hg:∀ a b,totL (a++b)=totL a+totL b
 | [],b=>by simp [totL]
 | s::a,b=>by simp only [List.cons_append,totL,z1hg a b]; omega
theorem zq7 (sep:List UInt8) (hsep:1≤sep.length∧sep.length≤100) (l:List (List UInt8)) (hl:l.length≤400):∀ (r:List (List UInt8)) (i:Nat) (acc:List (List UInt8)),l.drop i=r→i≤l.length →
  totL acc+totL r≤1000000→acc.length+r.length≤400→z80 sep (l.map PV.str) (l.length:Int) (i:Int) (acc.map PV.str)=some (.str (joinB sep (acc++fullL r)))
 | [],i,acc,hr,hi,ht,hn=>by
  have:=zsm hr
  simp only [totL,List.length_nil] at ht hn
  rw [zio,c_ltF (by omega),sjoin_s sep hsep acc (by omega) (by omega)]
  simp [fullL,PV.toS]
 | s::r,i,acc,hr,hi,ht,hn=>by
  obtain ⟨h1,h2,h3⟩:=zkg hr
  have e1:IntKind.i64.wrap ((i:Int)+1)=((i+1:Nat):Int):=by rw [w64 (by omega) (by omega)]; omega
  simp only [totL,List.length_cons] at ht hn
  rw [zio,c_ltT (by omega),rdI_n,zzj h2]
  simp only [oB,zg]
  by_cases hs:s=[]
  ·rw [c_not,zyk hs,e1,zq7 sep hsep l hl r (i+1) acc h3 (by omega) (by omega) (by omega)]
   have:fullL (s::r)=fullL r:=by unfold fullL; rw [List.filter_cons_of_neg]; simp [eqS,hs]
   rw [this]
  ·rw [c_not,zul hs,zfz (by simp; omega)]
   simp only [oB]
   have e2:acc.map PV.str++[PV.str s]=(acc++[s]).map PV.str:=by simp
   rw [e1,e2,zq7 sep hsep l hl r (i+1) (acc++[s]) h3 (by omega) (by rw [z1hg]; simp only [totL]; omega) (by simp; omega)]
   have:fullL (s::r)=s::fullL r:=by unfold fullL; rw [List.filter_cons_of_pos]; simp [eqS,hs]
   rw [this]
   simp
theorem zq6 (sep:List UInt8) (hsep:1≤sep.length∧sep.length≤100) (l:List (List UInt8)) (hl:l.length≤400) (ht:totL l≤1000000):z1s sep (l.map PV.str)=some (.str (joinB sep (fullL l))):=by
 rw [z13m,List.length_map]
 have:=zq7 sep hsep l hl l 0 [] rfl (by omega) (by simpa [totL] using ht) (by simpa using hl)
 exact this
end Dv

namespace Dv
open Go
abbrev InS (n:Int):Prop:=-9223372036854775807≤n∧n≤9223372036854775807
def spanR (i m d u:Int):Bool :=
 if i=0 then decide (-2147483647≤m∧m≤2147483647∧-2147483647≤d∧d≤2147483647∧-9223372036854775807≤u∧u≤9223372036854775807) else decide ((i=-1∨i=1)∧m=0∧d=0∧u=0)
def styleR (a b c:Int):Bool:=decide (0≤a∧a≤1∧0≤b∧b≤2∧0≤c∧c≤2)
theorem zuz (a b c:Int):zdn a b c=some (.bool (styleR a b c)):=by
 rw [z19p]
 unfold styleR leB
 by_cases h1:0≤a <;> by_cases h2:a≤1 <;> by_cases h3:0≤b <;> by_cases h4:b≤2 <;> by_cases h5:0≤c <;> by_cases h6:c≤2 <;> simp [h1,h2,h3,h4,h5,h6]
theorem zs9 (a b c:Int):z2b a b c=some (.bool (styleR a b c)):=by
 rw [znc]
 unfold styleR leB
 by_cases h1:0≤a <;> by_cases h2:a≤1 <;> by_cases h3:0≤b <;> by_cases h4:b≤2 <;> by_cases h5:0≤c <;> by_cases h6:c≤2 <;> simp [h1,h2,h3,h4,h5,h6]
theorem neg_ok {u:Int} (h1:-9223372036854775808≤u) (h2:u≤9223372036854775807):∃ n,z1a9 u=some (.tuple [.int .i64 n,.int .i64 (if u=-9223372036854775808 then 10 else 0)]):=by
 rw [z1ky,z1kx]
 by_cases h:u=-9223372036854775808
 ·subst h
  refine ⟨0,?_⟩
  kernel_rfl
 ·have e:IntKind.i64.wrap (0-u)=-u:=by rw [w64 (by omega) (by omega)]; omega
  refine ⟨-u,?_⟩
  rw [e]
  have hb:(ltB (-u) 0 == ltB 0 u)=true:=by
   unfold ltB
   by_cases hu:0<u
   ·rw [decide_eq_true hu,decide_eq_true (by omega)]; rfl
   ·rw [decide_eq_false hu,decide_eq_false (by omega)]; rfl
  rw [hb,if_neg h]
  rfl
theorem z1h6 (n:Int):zlg n=some (.bool (decide (-2147483647≤n∧n≤2147483647))):=by
 rw [z16f]
 unfold leB
 by_cases h1:-2147483647≤n <;> by_cases h2:n≤2147483647 <;> simp [h1,h2]
theorem z13q {n m:Int} (hm:0≤m∧m≤9223372036854775807):z49 n m=some (.bool (decide (-m≤n∧n≤m))):=by
 have e:IntKind.i64.wrap (0-m)=-m:=by rw [w64 (by omega) (by omega)]; omega
 rw [zm1,e]
 unfold leB
 by_cases h1:-m≤n <;> by_cases h2:n≤m <;> simp [h1,h2]
theorem right_s {i m d u:Int} (h1:-9223372036854775808≤u) (h2:u≤9223372036854775807):zs4 i m d u=some (.bool (spanR i m d u)):=by
 rw [z19i]
 unfold spanR
 by_cases hi:i=0
 ·obtain ⟨n,hn⟩:=neg_ok h1 h2
  rw [c_not,c_eqT hi,if_pos hi,hn,z1h6,z1h6]
  simp only [oB,ze,tn1,zl]
  by_cases hm:-2147483647≤m∧m≤2147483647
  ·rw [decide_eq_true hm,cond_true]
   by_cases hd:-2147483647≤d∧d≤2147483647
   ·rw [decide_eq_true hd,cond_true]
    unfold eqB
    by_cases hu:u=-9223372036854775808
    ·simp [hu]
    ·have:-9223372036854775807≤u:=by omega
     simp [hu,hm,hd,this,h2]
   ·rw [decide_eq_false hd,cond_false,decide_eq_false (by omega)]
  ·rw [decide_eq_false hm,cond_false,decide_eq_false (by omega)]
 ·rw [c_not,c_eqF hi,if_neg hi]
  unfold eqB leB
  by_cases a1:m=0 <;> by_cases a2:d=0 <;> by_cases a3:u=0 <;> simp [a1,a2,a3]
  by_cases b1:-1≤i <;> by_cases b2:i≤1 <;> simp [b1,b2] <;> omega
theorem z1hv {i m d u:Int}:z6v i m d u=some (.bool (spanR i m d u)):=by
 rw [znd]
 unfold spanR
 by_cases hi:i=0
 ·rw [c_not,c_eqT hi,if_pos hi,z13q (by omega),z13q (by omega),z13q (by omega)]
  simp only [oB,ze]
  by_cases hm:-2147483647≤m∧m≤2147483647
  ·rw [decide_eq_true hm,cond_true]
   by_cases hd:-2147483647≤d∧d≤2147483647
   ·rw [decide_eq_true hd,cond_true]
    congr 2
    simp [hm,hd]
   ·rw [decide_eq_false hd,cond_false,decide_eq_false (by omega)]
  ·rw [decide_eq_false hm,cond_false,decide_eq_false (by omega)]
 ·rw [c_not,c_eqF hi,if_neg hi]
  unfold eqB
  by_cases b1:i=-1 <;> by_cases b2:i=1 <;> by_cases a1:m=0 <;> by_cases a2:d=0 <;> by_cases a3:u=0 <;> simp [b1,b2,a1,a2,a3]
theorem z1cp {m d u:Int} (h:spanR 0 m d u=true):-2147483647≤m∧m≤2147483647∧-2147483647≤d∧d≤2147483647∧-9223372036854775807≤u∧u≤9223372036854775807:=by
 unfold spanR at h
 rw [if_pos rfl] at h
 exact of_decide_eq_true h
theorem inf_s {i:Int} (h:i≠0):z5b i=z4h i:=by
 rw [zfp,zt5]
 by_cases hi:i<0
 ·rw [c_ltT hi,c_ltT hi]
 ·rw [c_ltF hi,c_ltF hi,c_ltT (by omega)]
theorem z1gh {i:Int} (h:i≠0):∃ s,z5b i=some (.str s):=by
 rw [zfp]
 by_cases hi:i<0
 ·rw [c_ltT hi]; exact ⟨_,rfl⟩
 ·rw [c_ltF hi]; exact ⟨_,rfl⟩
theorem z12n {a:Int} (h:InS a):z1r a=some (.str (decI a)):=by
 rw [z16l]
 unfold decI
 by_cases ha:a<0
 ·have e:IntKind.i64.wrap (0-a)=-a:=by rw [w64 (by omega) (by omega)]; omega
  have hl:=z4w (-a).toNat
  rw [c_ltT ha,if_pos ha,e,zbm (by omega) (by omega)]
  simp only [oB,zg]
  have:=ziw [[45],digN (-a).toNat] (by simp) (by simp [totL]; omega)
  simp only [List.map_cons,List.map_nil] at this
  rw [this]
  simp
  rfl
 ·rw [c_ltF ha,if_neg ha,zbm (by omega) (by omega)]; rfl
def sgnB (a:Int):List UInt8:=if a<0 then [45] else [43]
def absI (a:Int):Int:=if a<0 then -a else a
theorem z12j {a:Int} (h:InS a):zdm a=some (.tuple [.str (sgnB a),.int .i64 (absI a)]):=by
 rw [z16k]
 unfold sgnB absI
 by_cases ha:a<0
 ·have e:IntKind.i64.wrap (0-a)=-a:=by rw [w64 (by omega) (by omega)]; omega
  rw [c_ltT ha,if_pos ha,if_pos ha,e]
 ·rw [c_ltF ha,if_neg ha,if_neg ha]
theorem z1ho {a:Int} (h:InS a):z3z a=some (.tuple [.int .i64 (absI a),.str (sgnB a)]):=by
 rw [zpg]
 unfold sgnB absI
 by_cases ha:a<0
 ·have e:IntKind.i64.wrap (0-a)=-a:=by rw [w64 (by omega) (by omega)]; omega
  rw [c_ltT ha,if_pos ha,if_pos ha,e]
 ·rw [c_ltF ha,if_neg ha,if_neg ha]
theorem zh1 {a:Int} (h:InS a):0≤absI a∧absI a≤9223372036854775807:=by unfold absI; split <;> omega
theorem zs7 (a:Int):(sgnB a).length=1:=by unfold sgnB; split <;> rfl
end Dv

namespace Dv
open Go
def unitB (n:Int) (name:List UInt8) (was:Int):List UInt8 :=
 if n=0 then [] else (if was<0∧0<n then [43] else [])++(decI n++(32::(name++(if n=1 then [] else [115]))))
def nextW (n was:Int):Int:=if n=0 then was else n
def timeB (u was:Int):List UInt8:=if 0<u∧was<0 then 43::longI u else if u≠0∨was=0 then longI u else []
theorem zh9 (n:Int) (name:List UInt8) (was:Int) (h:name.length≤10):(unitB n name was).length≤40:=by
 have:=zj4 n
 unfold unitB
 split
 ·simp
 ·split <;> split <;> simp <;> omega
theorem timeB_len (u was:Int):(timeB u was).length≤92:=by
 have:=z14f u
 unfold timeB
 split
 ·simp; omega
 ·split
  ·omega
  ·simp
def addW (t s:List UInt8):List UInt8:=if s=[] then t else if t=[] then s else t++(32::s)
theorem join_addW (a b c d:List UInt8):joinB [32] (fullL [a,b,c,d])=addW (addW (addW a b) c) d:=by
 unfold addW fullL eqS
 by_cases h1:a=[] <;> by_cases h2:b=[] <;> by_cases h3:c=[] <;> by_cases h4:d=[] <;> simp [h1,h2,h3,h4,joinB]
theorem z136 (p n x m:List UInt8) (hp:p.length≤10) (hn:n.length≤100) (hx:x.length≤10) (hm:m.length≤10) :
  zt [.str p,.str n,.str [32],.str x,.str m]=some (.str (p++(n++(32::(x++m))))):=by
 have:=ziw [p,n,[32],x,m] (by simp) (by simp [totL]; omega)
 simp only [List.map_cons,List.map_nil] at this
 rw [this]
 simp
theorem z12v (a b c d:List UInt8) (ha:a.length≤100) (hb:b.length≤100) (hc:c.length≤100) (hd:d.length≤100) :
  z1s [32] [.str a,.str b,.str c,.str d]=some (.str (addW (addW (addW a b) c) d)):=by
 have:=zq6 [32] (by simp) [a,b,c,d] (by simp) (by simp [totL]; omega)
 simp only [List.map_cons,List.map_nil] at this
 rw [this,join_addW]
def yearN:List UInt8:=[121,101,97,114]
def monN:List UInt8:=[109,111,110]
def dayN:List UInt8:=[100,97,121]
theorem pg_c5 (a b c:List UInt8) (ha:a.length≤100) (hb:b.length≤100) (hc:c.length≤100) (i m d:Int) {u:Int} (hu:InS u) (was:Int) :
  z1w a b c i m d u was=some (.str (addW (addW (addW a b) c) (timeB u was))):=by
 have hl:=z14f u
 have c8:¬ (0<u∧was<0)→za1 a b c [] i m d u was=some (.str (addW (addW (addW a b) c) (timeB u was))):=by
  intro hn
  rw [zva,long_s (by omega) (by omega)]
  unfold timeB
  rw [if_neg hn]
  by_cases h0:u=0
  ·rw [c_not,c_eqT h0]
   by_cases hw:was=0
   ·rw [c_eqT hw,if_pos (.inr hw)]
    simp only [oB,zg]
    rw [z12v a b c (longI u) ha hb hc (by omega)]
    rfl
   ·rw [c_eqF hw,if_neg (fun h=>h.elim (fun h=>h h0) hw),z12v a b c [] ha hb hc (by simp)]
    rfl
  ·rw [c_not,c_eqF h0,if_pos (.inl h0)]
   simp only [oB,zg]
   rw [z12v a b c (longI u) ha hb hc (by omega)]
   rfl
 rw [zvc]
 by_cases h1:0<u
 ·rw [c_ltT h1]
  by_cases h2:was<0
  ·rw [c_ltT h2,zvb,long_s (by omega) (by omega)]
   simp only [oB,zg]
   have hj:=ziw [[43],longI u] (by simp) (by simp [totL]; omega)
   simp only [List.map_cons,List.map_nil] at hj
   have ht:timeB u was=43::longI u:=if_pos ⟨h1,h2⟩
   rw [hj,ht]
   simp only [oB,zg]
   rw [z12v a b c _ ha hb hc (by simp; omega)]
   simp only [oB,zg]
   simp
  ·rw [c_ltF h2]; exact c8 (fun h=>h2 h.2)
 ·rw [c_ltF h1]; exact c8 (fun h=>h1 h.1)
theorem pg_c4 (a b:List UInt8) (ha:a.length≤100) (hb:b.length≤100) (i m:Int) {d u:Int} (hd:InS d) (hu:InS u) (was:Int) :
  z1x a b i m d u was=some (.str (addW (addW (addW a b) (unitB d dayN was)) (timeB u (nextW d was)))):=by
 have hn:=zj4 d
 have hl:=zh9 d dayN was (by decide)
 rw [zvd]
 by_cases h0:d=0
 ·rw [c_eqT h0,pg_c5 a b [] ha hb (by simp) i m d hu was]
  unfold unitB nextW
  rw [if_pos h0,if_pos h0]
 ·rw [c_eqF h0,z12n hd]
  have hw:nextW d was=d:=if_neg h0
  rw [hw]
  have fin:∀ p q:List UInt8,unitB d dayN was=p++(decI d++(32::(dayN++q)))→p.length≤10→q.length≤10 →
    ((some (PV.str (decI d))).bind fun v=>(zt [.str p,.str v.toS,.str [32],.str [100,97,121],.str q]).bind fun w=>z1w a b w.toS i m d u d) =
     some (.str (addW (addW (addW a b) (unitB d dayN was)) (timeB u d))):=by
   intro p q h hp hq
   simp only [oB,zg]
   have:=z136 p (decI d) dayN q hp (by omega) (by decide) hq
   unfold dayN at this
   rw [this]
   simp only [oB,zg]
   rw [h] at hl ⊢
   exact pg_c5 a b _ ha hb (by unfold dayN at hl; omega) i m d hu d
  have hu':unitB d dayN was=(if was<0∧0<d then [43] else [])++(decI d++(32::(dayN++(if d=1 then [] else [115])))):=if_neg h0
  by_cases h1:was<0
  ·rw [c_ltT h1]
   by_cases h2:0<d
   ·rw [c_ltT h2]
    rw [if_pos ⟨h1,h2⟩] at hu'
    by_cases h3:d=1
    ·rw [c_eqT h3]; rw [if_pos h3] at hu'; exact fin _ _ hu' (by simp) (by simp)
    ·rw [c_eqF h3]; rw [if_neg h3] at hu'; exact fin _ _ hu' (by simp) (by simp)
   ·rw [c_ltF h2]
    rw [if_neg (fun h=>h2 h.2)] at hu'
    by_cases h3:d=1
    ·rw [c_eqT h3]; rw [if_pos h3] at hu'; exact fin _ _ hu' (by simp) (by simp)
    ·rw [c_eqF h3]; rw [if_neg h3] at hu'; exact fin _ _ hu' (by simp) (by simp)
  ·rw [c_ltF h1]
   rw [if_neg (fun h=>h1 h.1)] at hu'
   by_cases h3:d=1
   ·rw [c_eqT h3]; rw [if_pos h3] at hu'; exact fin _ _ hu' (by simp) (by simp)
   ·rw [c_eqF h3]; rw [if_neg h3] at hu'; exact fin _ _ hu' (by simp) (by simp)
theorem z1hi (m:Int):InS (m.tmod 12):=by
 have:=Int.lt_tmod_of_pos m (show (0:Int)<12 by omega)
 have:=Int.tmod_lt_of_pos m (show (0:Int)<12 by omega)
 exact ⟨by omega,by omega⟩
theorem pg_c3 (a:List UInt8) (ha:a.length≤50) (i m:Int) {d u:Int} (hd:InS d) (hu:InS u) (was:Int) :
  z55 a i m d u was=some (.str (addW (addW (addW a (unitB (m.tmod 12) monN was)) (unitB d dayN (nextW (m.tmod 12) was))) (timeB u (nextW d (nextW (m.tmod 12) was))))):=by
 have hr:=z1hi m
 have hn:=zj4 (m.tmod 12)
 have hl:=zh9 (m.tmod 12) monN was (by decide)
 rw [zve]
 by_cases h0:m.tmod 12=0
 ·rw [c_eqT h0,pg_c4 a [] (by omega) (by simp) i m hd hu was]
  unfold unitB nextW
  rw [if_pos h0,if_pos h0]
 ·rw [c_eqF h0,z12n hr]
  have hw:nextW (m.tmod 12) was=m.tmod 12:=if_neg h0
  rw [hw]
  have fin:∀ p q:List UInt8,unitB (m.tmod 12) monN was=p++(decI (m.tmod 12)++(32::(monN++q)))→p.length≤10→q.length≤10 →
    ((some (PV.str (decI (m.tmod 12)))).bind fun v=>(zt [.str p,.str v.toS,.str [32],.str [109,111,110],.str q]).bind fun w=>z1x a w.toS i m d u (m.tmod 12)) =
     some (.str (addW (addW (addW a (unitB (m.tmod 12) monN was)) (unitB d dayN (m.tmod 12))) (timeB u (nextW d (m.tmod 12))))):=by
   intro p q h hp hq
   simp only [oB,zg]
   have:=z136 p (decI (m.tmod 12)) monN q hp (by omega) (by decide) hq
   unfold monN at this
   rw [this]
   simp only [oB,zg]
   rw [h] at hl ⊢
   exact pg_c4 a _ (by omega) (by unfold monN at hl; omega) i m hd hu (m.tmod 12)
  have hu':unitB (m.tmod 12) monN was=(if was<0∧0<m.tmod 12 then [43] else [])++(decI (m.tmod 12)++(32::(monN++(if m.tmod 12=1 then [] else [115])))):=if_neg h0
  by_cases h1:was<0
  ·rw [c_ltT h1]
   by_cases h2:0<m.tmod 12
   ·rw [c_ltT h2]
    rw [if_pos ⟨h1,h2⟩] at hu'
    by_cases h3:m.tmod 12=1
    ·rw [c_eqT h3]; rw [if_pos h3] at hu'; exact fin _ _ hu' (by simp) (by simp)
    ·rw [c_eqF h3]; rw [if_neg h3] at hu'; exact fin _ _ hu' (by simp) (by simp)
   ·rw [c_ltF h2]
    rw [if_neg (fun h=>h2 h.2)] at hu'
    by_cases h3:m.tmod 12=1
    ·rw [c_eqT h3]; rw [if_pos h3] at hu'; exact fin _ _ hu' (by simp) (by simp)
    ·rw [c_eqF h3]; rw [if_neg h3] at hu'; exact fin _ _ hu' (by simp) (by simp)
  ·rw [c_ltF h1]
   rw [if_neg (fun h=>h1 h.1)] at hu'
   by_cases h3:m.tmod 12=1
   ·rw [c_eqT h3]; rw [if_pos h3] at hu'; exact fin _ _ hu' (by simp) (by simp)
   ·rw [c_eqF h3]; rw [if_neg h3] at hu'; exact fin _ _ hu' (by simp) (by simp)
theorem z1hk {m:Int} (h:-2147483647≤m∧m≤2147483647):-2147483647≤m.tdiv 12∧m.tdiv 12≤2147483647:=by
 rcases Int.lt_or_le m 0 with h0 | h0
 ·have:m.tdiv 12=-((-m).tdiv 12):=by rw [Int.neg_tdiv]; omega
  rw [this,Int.tdiv_eq_ediv_of_nonneg (show 0≤-m by omega)]
  omega
 ·rw [Int.tdiv_eq_ediv_of_nonneg h0]; omega
def pgB (m d u:Int):List UInt8 :=
 addW (addW (addW (unitB (m.tdiv 12) yearN 0) (unitB (m.tmod 12) monN (m.tdiv 12))) (unitB d dayN (nextW (m.tmod 12) (m.tdiv 12)))) (timeB u (nextW d (nextW (m.tmod 12) (m.tdiv 12))))
theorem z1kv (i:Int) {m d u:Int} (hm:-2147483647≤m∧m≤2147483647) (hd:InS d) (hu:InS u):zli i m d u=some (.str (pgB m d u)):=by
 have hy:=z1hk hm
 have hn:=zj4 (m.tdiv 12)
 have hl:=zh9 (m.tdiv 12) yearN 0 (by decide)
 rw [z11t,w64 (by omega) (by omega)]
 unfold pgB
 by_cases h0:m.tdiv 12=0
 ·rw [c_eqT h0,pg_c3 [] (by simp) i m hd hu 0,h0]
  unfold unitB
  rw [if_pos rfl]
 ·rw [c_eqF h0,z12n (by exact ⟨by omega,by omega⟩)]
  have fin:∀ q:List UInt8,unitB (m.tdiv 12) yearN 0=[]++(decI (m.tdiv 12)++(32::(yearN++q)))→q.length≤10 →
    ((some (PV.str (decI (m.tdiv 12)))).bind fun v=>(zt [.str [],.str v.toS,.str [32],.str [121,101,97,114],.str q]).bind fun w=>z55 w.toS i m d u (m.tdiv 12)) =
     some (.str (addW (addW (addW (unitB (m.tdiv 12) yearN 0) (unitB (m.tmod 12) monN (m.tdiv 12))) (unitB d dayN (nextW (m.tmod 12) (m.tdiv 12)))) (timeB u (nextW d (nextW (m.tmod 12) (m.tdiv 12)))))):=by
   intro q h hq
   simp only [oB,zg]
   have:=z136 [] (decI (m.tdiv 12)) yearN q (by simp) (by omega) (by decide) hq
   unfold yearN at this
   rw [this]
   simp only [oB,zg]
   rw [h] at hl ⊢
   exact pg_c3 _ (by unfold yearN at hl; omega) i m hd hu (m.tdiv 12)
  have hu':unitB (m.tdiv 12) yearN 0=(if (0:Int)<0∧0<m.tdiv 12 then [43] else [])++(decI (m.tdiv 12)++(32::(yearN++(if m.tdiv 12=1 then [] else [115])))):=if_neg h0
  rw [if_neg (by omega)] at hu'
  by_cases h3:m.tdiv 12=1
  ·rw [c_eqT h3]; rw [if_pos h3] at hu'; exact fin _ hu' (by simp)
  ·rw [c_eqF h3]; rw [if_neg h3] at hu'; exact fin _ hu' (by simp)
theorem runit_s {n:Int} (hn:InS n) (h0:n≠0) (name:List UInt8) (hname:name.length≤10) (was:Int):zbz n name was=some (.str (unitB n name was)):=by
 have hl:=zj4 n
 rw [zpf,z5c (by omega) (by omega)]
 simp only [oB,zg]
 rw [z9 (by simp; omega)]
 simp only [oB]
 rw [z9 (by simp; omega)]
 simp only [oB]
 have c4:∀ q:List UInt8,q.length≤10→(if n=1 then [] else [115])=q→z5k n was (decI n++[32]++name++q)=some (.str (unitB n name was)):=by
  intro q hq hqq
  have hu:unitB n name was=(if was<0∧0<n then [43] else [])++(decI n++(32::(name++q))):=by rw [← hqq]; exact if_neg h0
  rw [zkk,hu]
  by_cases h1:was<0
  ·rw [c_ltT h1]
   by_cases h2:0<n
   ·rw [c_ltT h2,if_pos ⟨h1,h2⟩,z9 (by simp; omega)]; simp
   ·rw [c_ltF h2,if_neg (fun h=>h2 h.2)]; simp
  ·rw [c_ltF h1,if_neg (fun h=>h1 h.1)]; simp
 by_cases h3:n=1
 ·rw [c_not,c_eqT h3]
  have:=c4 [] (by simp) (if_pos h3)
  rw [List.append_nil] at this
  exact this
 ·rw [c_not,c_eqF h3,z9 (by simp; omega)]
  simp only [oB]
  exact c4 [115] (by simp) (if_neg h3)
theorem znz {n:Int} (name:List UInt8) (was:Int):unitB n name was=[]↔n=0:=by
 unfold unitB
 constructor
 ·intro h
  by_cases h0:n=0
  ·exact h0
  ·rw [if_neg h0] at h
   have:=congrArg List.length h
   simp at this
 ·intro h; rw [if_pos h]
theorem addW_nilr (t:List UInt8):addW t []=t:=by unfold addW; rw [if_pos rfl]
theorem z1jy {a b:List UInt8}:addW a b=[]↔a=[]∧b=[]:=by
 unfold addW
 by_cases h1:b=[] <;> by_cases h2:a=[] <;> simp [h1,h2]
theorem z1bl (a b:List UInt8):(addW a b).length≤a.length+b.length+1:=by
 unfold addW
 split
 ·omega
 ·split
  ·omega
  ·simp; omega
theorem z13d {u was:Int}:timeB u was=[]↔u=0∧was≠0:=by
 have hl:longI u≠[]:=by
  have:∀ t,textN t≠[]:=by
   intro t h
   have:=congrArg List.length h
   simp [textN] at this
  unfold longI
  split
  ·simp
  ·exact this _
 unfold timeB
 split
 ·constructor
  ·intro h; simp at h
  ·intro h; omega
 ·split
  ·rename_i h
   constructor
   ·intro h'; exact absurd h' hl
   ·intro h'; omega
  ·rename_i h
   constructor
   ·intro _; omega
   ·intro _; rfl
theorem rpg_c15 (x:List UInt8) (hx:x.length≤500) (was a b c:Int) {u:Int} (hu:InS u) (h:timeB u was≠[]):z33 x was a b c u=some (.str (addW x (timeB u was))):=by
 have hl:=z14f u
 have c17:∀ y:List UInt8,y.length≤600→z32 y was a b c u=some (.str (y++timeB u was)):=by
  intro y hy
  have hnn:¬ (u=0∧was≠0):=fun h'=>h (z13d.2 h')
  rw [zft,rlong_s (by omega) (by omega)]
  unfold timeB
  by_cases h1:was<0
  ·rw [c_ltT h1]
   by_cases h2:0<u
   ·rw [c_ltT h2,if_pos ⟨h2,h1⟩,z9 (by simp; omega)]
    simp only [oB,zg]
    rw [z9 (by simp; omega)]
    simp
   ·rw [c_ltF h2,if_neg (fun h=>h2 h.1),if_pos (by omega)]
    simp only [oB,zg]
    rw [z9 (by omega)]
    rfl
  ·rw [c_ltF h1,if_neg (fun h=>h1 h.2),if_pos (by omega)]
   simp only [oB,zg]
   rw [z9 (by omega)]
   rfl
 rw [zfu]
 unfold addW
 rw [if_neg h]
 by_cases hx0:x=[]
 ·rw [c_not,zyk hx0,c17 x (by omega),if_pos hx0,hx0]; rfl
 ·rw [c_not,zul hx0,z9 (by simp; omega),if_neg hx0]
  simp only [oB]
  rw [c17 _ (by simp; omega)]
  simp
theorem rpg_c6 (x:List UInt8) (hx:x.length≤500) (was:Int) (k:Nat) (hk:k<3) (a b c:Int) {u:Int} (ns:List Int) (hns:ns.length=3) (names:List (List UInt8)) (hnames:names.length=3) (hnl:∀ s∈names,s.length≤10)
  (hin:∀ n∈ns,InS n) (n:Int) (name:List UInt8) (h1:ns[k]?=some n) (h2:names[k]?=some name) (y z:Nat) :
  z1j x was (k:Int) a b c u (ns.map (PV.int .i64)) y (names.map PV.str) z =
   z1j (addW x (unitB n name was)) (nextW n was) ((k+1:Nat):Int) a b c u (ns.map (PV.int .i64)) y (names.map PV.str) z:=by
 have hn:InS n:=hin n (List.mem_of_getElem? h1)
 have hnm:name.length≤10:=hnl name (List.mem_of_getElem? h2)
 have hul:=zh9 n name was hnm
 have e1:IntKind.i64.wrap ((k:Int)+1)=((k+1:Nat):Int):=by rw [w64 (by omega) (by omega)]; omega
 have r1:rdT (tiInt .i64) (ns.map (PV.int .i64)) k 0=some (.int .i64 n):=by unfold rdT; rw [List.getElem?_map,h1]; rfl
 rw [z7n,c_ltT (by omega),c_inT (by simp; omega),Int.toNat_natCast,r1]
 simp only [oB,zl]
 by_cases h0:n=0
 ·rw [c_eqT h0,z7m,e1]
  have hu:unitB n name was=[]:=(znz name was).2 h0
  rw [hu]
  unfold addW nextW
  rw [if_pos rfl,if_pos h0]
 ·have c11:∀ t:List UInt8,t.length≤600→z34 t was (k:Int) a b c u (ns.map (PV.int .i64)) y (names.map PV.str) z =
    z1j (t++unitB n name was) n ((k+1:Nat):Int) a b c u (ns.map (PV.int .i64)) y (names.map PV.str) z:=by
   intro t ht
   rw [zfw,c_inT (by simp; omega),Int.toNat_natCast,r1]
   simp only [oB,zl]
   rw [c_inT (by simp; omega),zzj h2]
   simp only [oB,zg]
   rw [runit_s hn h0 name hnm was]
   simp only [oB,zg]
   rw [z9 (by omega)]
   simp only [oB]
   rw [c_inT (by simp; omega),z7m,e1]
  have hu:unitB n name was≠[]:=fun h=>h0 ((znz name was).1 h)
  have hw:nextW n was=n:=if_neg h0
  rw [c_eqF h0,hw]
  unfold addW
  rw [if_neg hu]
  by_cases hx0:x=[]
  ·rw [c_not,zyk hx0,c11 x (by omega),if_pos hx0,hx0]; rfl
  ·rw [c_not,zul hx0,z9 (by simp; omega),if_neg hx0]
   simp only [oB]
   rw [c11 _ (by simp; omega)]
   simp
theorem z1fz (i:Int) {m d u:Int} (hm:-2147483647≤m∧m≤2147483647) (hd:InS d) (hu:InS u):z7d i m d u=some (.str (pgB m d u)):=by
 have hy:=z1hk hm
 have hr:=z1hi m
 have l1:=zh9 (m.tdiv 12) yearN 0 (by decide)
 have l2:=zh9 (m.tmod 12) monN (m.tdiv 12) (by decide)
 have l3:=zh9 d dayN (nextW (m.tmod 12) (m.tdiv 12)) (by decide)
 have a1:=z1bl [] (unitB (m.tdiv 12) yearN 0)
 have a2:=z1bl (unitB (m.tdiv 12) yearN 0) (unitB (m.tmod 12) monN (m.tdiv 12))
 have a3:=z1bl (addW (unitB (m.tdiv 12) yearN 0) (unitB (m.tmod 12) monN (m.tdiv 12))) (unitB d dayN (nextW (m.tmod 12) (m.tdiv 12)))
 have n0:addW [] (unitB (m.tdiv 12) yearN 0)=unitB (m.tdiv 12) yearN 0:=by
  unfold addW
  split
  ·rename_i h; exact h.symm
  ·rw [if_pos rfl]
 have w0:nextW (m.tdiv 12) 0=m.tdiv 12:=by unfold nextW; split <;> omega
 rw [zjf,w64 (by omega) (by omega)]
 have hin:∀ n∈[m.tdiv 12,m.tmod 12,d],InS n:=by
  intro n hn
  simp at hn
  rcases hn with rfl | rfl | rfl
  ·exact ⟨by omega,by omega⟩
  ·exact hr
  ·exact hd
 have hnl:∀ s∈[yearN,monN,dayN],s.length≤10:=by decide
 have s1:=rpg_c6 [] (by simp) 0 0 (by omega) i m d (u:=u) [m.tdiv 12,m.tmod 12,d] rfl [yearN,monN,dayN] rfl hnl hin _ _ rfl rfl 3 3
 have s2:=rpg_c6 (unitB (m.tdiv 12) yearN 0) (by omega) (m.tdiv 12) 1 (by omega) i m d (u:=u) [m.tdiv 12,m.tmod 12,d] rfl [yearN,monN,dayN] rfl hnl hin _ _ rfl rfl 3 3
 have s3:=rpg_c6 (addW (unitB (m.tdiv 12) yearN 0) (unitB (m.tmod 12) monN (m.tdiv 12))) (by omega) (nextW (m.tmod 12) (m.tdiv 12)) 2 (by omega) i m d (u:=u) [m.tdiv 12,m.tmod 12,d] rfl [yearN,monN,dayN] rfl hnl hin _ _ rfl rfl 3 3
 rw [n0,w0] at s1
 simp only [List.map_cons,List.map_nil] at s1 s2 s3
 refine (s1.trans (s2.trans s3)).trans ?_
 rw [z7n,c_ltF (by omega)]
 have ht:=timeB_len u (nextW d (nextW (m.tmod 12) (m.tdiv 12)))
 have hz:addW (addW (unitB (m.tdiv 12) yearN 0) (unitB (m.tmod 12) monN (m.tdiv 12))) (unitB d dayN (nextW (m.tmod 12) (m.tdiv 12)))=[]↔nextW d (nextW (m.tmod 12) (m.tdiv 12))=0:=by
  rw [z1jy,z1jy,znz,znz,znz]
  unfold nextW
  by_cases h1:d=0 <;> by_cases h2:m.tmod 12=0 <;> simp [h1,h2]
 unfold pgB
 by_cases hn:timeB u (nextW d (nextW (m.tmod 12) (m.tdiv 12)))=[]
 ·obtain ⟨hu0,hw⟩:=z13d.1 hn
  have hne:¬ addW (addW (unitB (m.tdiv 12) yearN 0) (unitB (m.tmod 12) monN (m.tdiv 12))) (unitB d dayN (nextW (m.tmod 12) (m.tdiv 12)))=[]:=fun h=>hw (hz.1 h)
  rw [c_eqT hu0,c_not,zul hne,zfv,hn,addW_nilr]
 ·have c15:=rpg_c15 _ (show (addW (addW (unitB (m.tdiv 12) yearN 0) (unitB (m.tmod 12) monN (m.tdiv 12))) (unitB d dayN (nextW (m.tmod 12) (m.tdiv 12)))).length≤500 by omega) _ i m d hu hn
  by_cases hu0:u=0
  ·have hw:nextW d (nextW (m.tmod 12) (m.tdiv 12))=0:=by
    by_cases h:nextW d (nextW (m.tmod 12) (m.tdiv 12))=0
    ·exact h
    ·exact absurd (z13d.2 ⟨hu0,h⟩) hn
   rw [c_eqT hu0,c_not,zyk (hz.2 hw)]
   exact c15
  ·rw [c_eqF hu0]
   exact c15
end Dv

namespace Dv
open Go
theorem nat_or (u:Int):∃ n:Nat,(u=(n:Int)∧0≤u)∨(u=-(n:Int)∧u<0):=by
 rcases Int.lt_or_le u 0 with h | h
 ·exact ⟨(-u).toNat,.inr ⟨by omega,h⟩⟩
 ·exact ⟨u.toNat,.inl ⟨by omega,h⟩⟩
theorem zwx (n k:Nat):Int.tdiv (-(n:Int)) (k:Int)=-((n / k:Nat):Int):=by rw [Int.neg_tdiv,tdivN]
theorem z1hh (n k:Nat):Int.tmod (-(n:Int)) (k:Int)=-((n % k:Nat):Int):=by rw [Int.neg_tmod,tmodN]
theorem extIB:zfs z90 EE.ext=some z89:=by kernel_rfl
theorem z1cy (s:List UInt8) (c:UInt8):z7x s (c.toNat:Int)=some (.int .i64 (Lib.indexByte s c)):=by
 rw [zjy,z1ek EE _ _ _ extIB]
 have e:z89 [.str s,.int .u8 (c.toNat:Int)]=some (.int .i64 (Lib.indexByte s c)):=by
  unfold z89
  simp
 rw [e]; rfl
theorem cut_two (r:List UInt8):zv5 (48::48::58::r) [58]=some (.tuple [.str [48,48],.str r,.bool true]):=by
 have hi:Lib.indexByte (48::48::58::r) 58=2:=by simp [Lib.indexByte]
 have e1:(((List.length [(58:UInt8)]:Nat)):Int)=1:=rfl
 have e2:IntKind.i64.wrap (2+1)=3:=by decide
 have hc:=z1cy (48::48::58::r) 58
 rw [show (((58:UInt8).toNat:Nat):Int)=58 from rfl] at hc
 have hidx:zdk (48::48::58::r) [58]=some (.int .i64 2):=by
  rw [zt0,e1,c_eqF (by omega),zul (by simp),zlf,c_eqT rfl,atS_z (c:=58) rfl]
  simp only [oB]
  rw [show (((58:UInt8).toNat:Nat):Int)=58 from rfl,hc,hi]
  rfl
 have ht:takeS (48::48::58::r) 2=some [48,48]:=by rw [z12i (by omega) (by simp; omega)]; rfl
 have hd:dropS (48::48::58::r) 3=some r:=by rw [zlv (by omega) (by simp; omega)]; rfl
 rw [z16c,zwy,hidx]
 simp only [oB,zl]
 rw [c_leT (by omega),ht,e1,e2]
 simp only [oB]
 rw [hd]
 rfl
theorem z1ff:z2r [45] [43]=some (.str [45]):=by
 have ht:takeS [(45:UInt8)] 1=some [45]:=rfl
 have e1:(((List.length [(43:UInt8)]:Nat)):Int)=1:=rfl
 have e2:(((List.length [(45:UInt8)]:Nat)):Int)=1:=rfl
 rw [z7z,z5u,z1o,e1,e2,c_leT (by omega),ht]
 rfl
theorem z1kb:z2r [43] [43]=some (.str []):=by
 have ht:takeS [(43:UInt8)] 1=some [43]:=rfl
 have e1:(((List.length [(43:UInt8)]:Nat)):Int)=1:=rfl
 have hd:dropS [(43:UInt8)] 1=some []:=rfl
 rw [z7z,z5u,z1o,e1,c_leT (by omega),ht]
 simp only [oB,ze]
 have:eqS [(43:UInt8)] [43]=true:=rfl
 rw [this,cond_true,hd]
 rfl
def clockN (n:Nat):List UInt8:=digN (n / 3600000000)++(58::(twoN (n / 60000000 % 60)++(58::(twoN (n / 1000000 % 60)++fracN (n % 1000000)))))
def z1c0 (m d u:Int):List UInt8 :=
 sgnB m++(digN ((absI m).toNat / 12)++(45::(digN ((absI m).toNat % 12)++(32::(sgnB d++(digN (absI d).toNat++(32::(sgnB u++clockN (absI u).toNat))))))))
theorem zj8 {a:Int} (h:InS a):absI a=(((absI a).toNat:Nat):Int):=by have:=zh1 h; omega
theorem long_zero {t:Nat} (ht:t<3600000000):zdy (t:Int)=some (.str (48::48::58::(twoN (t / 60000000 % 60)++(58::(twoN (t / 1000000 % 60)++fracN (t % 1000000)))))):=by
 rw [long_s (by omega) (by omega)]
 unfold longI
 rw [if_neg (by omega),Int.toNat_natCast]
 unfold textN
 have:t / 3600000000=0:=by omega
 rw [this]
 rfl
theorem sql_s (i:Int) {m d u:Int} (hm:InS m) (hd:InS d) (hu:InS u):z19l i m d u=some (.str (z1c0 m d u)):=by
 have rm:=zh1 hm
 have rd:=zh1 hd
 have ru:=zh1 hu
 have em:=zj8 hm
 have ed:=zj8 hd
 have eu:=zj8 hu
 have k1:=zs7 m
 have k2:=zs7 d
 have k3:=zs7 u
 have g1:=z4w ((absI m).toNat / 12)
 have g2:=z4w ((absI m).toNat % 12)
 have g3:=z4w (absI d).toNat
 have g4:=z4w ((absI u).toNat / 3600000000)
 have g5:=z28 ((absI u).toNat / 60000000 % 60)
 have g6:=z28 ((absI u).toNat / 1000000 % 60)
 have g7:=zbr ((absI u).toNat % 1000000)
 rw [z1fr,z12j hm,z12j hd,z12j hu]
 simp only [oB,tn0,tn1,zl,zg]
 unfold z1c0 clockN
 rw [em,ed,eu]
 generalize (absI m).toNat=a at *
 generalize (absI d).toNat=b at *
 generalize (absI u).toNat=n at *
 have q1:Int.tmod (n:Int) 3600000000=((n % 3600000000:Nat):Int):=tmodN n 3600000000
 have q2:IntKind.i64.wrap (Int.tdiv (a:Int) 12)=((a / 12:Nat):Int):=by
  have:=tdivN a 12
  rw [show ((12:Nat):Int)=12 from rfl] at this
  rw [this,w64 (by omega) (by omega)]
 have q3:Int.tmod (a:Int) 12=((a % 12:Nat):Int):=tmodN a 12
 have q4:IntKind.i64.wrap (Int.tdiv (n:Int) 3600000000)=((n / 3600000000:Nat):Int):=by
  have:=tdivN n 3600000000
  rw [show ((3600000000:Nat):Int)=3600000000 from rfl] at this
  rw [this,w64 (by omega) (by omega)]
 have p1:n % 3600000000 / 60000000 % 60=n / 60000000 % 60:=by omega
 have p2:n % 3600000000 / 1000000 % 60=n / 1000000 % 60:=by omega
 have p3:n % 3600000000 % 1000000=n % 1000000:=by omega
 rw [q1,q2,q3,q4,long_zero (by omega),p1,p2,p3]
 simp only [oB,zg]
 rw [cut_two,zbm (by omega) (by omega),zbm (by omega) (by omega),zbm (by omega) (by omega),zbm (by omega) (by omega)]
 simp only [oB,zg,tn1,Int.toNat_natCast]
 have j1:=ziw [sgnB m,digN (a / 12),[45],digN (a % 12)] (by simp) (by simp [totL]; omega)
 have j2:=ziw [sgnB d,digN b] (by simp) (by simp [totL]; omega)
 have j3:=ziw [sgnB u,digN (n / 3600000000),[58],twoN (n / 60000000 % 60)++(58::(twoN (n / 1000000 % 60)++fracN (n % 1000000)))] (by simp) (by simp [totL]; omega)
 simp only [List.map_cons,List.map_nil] at j1 j2 j3
 rw [j1,j2,j3]
 simp only [oB,zg]
 have ne:∀ (x:Int) (r:List UInt8),eqS (sgnB x++r) []=false:=by
  intro x r
  unfold sgnB
  split <;> rfl
 have bt:=zq6 [32] (by simp) [[sgnB m,digN (a / 12),[45],digN (a % 12)].flatten,[sgnB d,digN b].flatten,[sgnB u,digN (n / 3600000000),[58],twoN (n / 60000000 % 60)++(58::(twoN (n / 1000000 % 60)++fracN (n % 1000000)))].flatten] (by simp) (by simp [totL]; omega)
 simp only [List.map_cons,List.map_nil] at bt
 rw [bt]
 have hf:fullL [[sgnB m,digN (a / 12),[45],digN (a % 12)].flatten,[sgnB d,digN b].flatten,[sgnB u,digN (n / 3600000000),[58],twoN (n / 60000000 % 60)++(58::(twoN (n / 1000000 % 60)++fracN (n % 1000000)))].flatten] =
   [[sgnB m,digN (a / 12),[45],digN (a % 12)].flatten,[sgnB d,digN b].flatten,[sgnB u,digN (n / 3600000000),[58],twoN (n / 60000000 % 60)++(58::(twoN (n / 1000000 % 60)++fracN (n % 1000000)))].flatten]:=by
  unfold fullL
  rw [List.filter_eq_self]
  intro x hx
  simp only [List.mem_cons,List.not_mem_nil,or_false] at hx
  rcases hx with rfl | rfl | rfl <;> rw [List.flatten_cons,ne] <;> rfl
 rw [hf]
 simp [joinB,PV.toS]
theorem rsql_s (i:Int) {m d u:Int} (hm:InS m) (hd:InS d) (hu:InS u):zdq i m d u=some (.str (z1c0 m d u)):=by
 have rm:=zh1 hm
 have rd:=zh1 hd
 have ru:=zh1 hu
 have em:=zj8 hm
 have ed:=zj8 hd
 have eu:=zj8 hu
 have k1:=zs7 m
 have k2:=zs7 d
 have k3:=zs7 u
 have g1:=z4w ((absI m).toNat / 12)
 have g2:=z4w ((absI m).toNat % 12)
 have g3:=z4w (absI d).toNat
 have g4:=z4w ((absI u).toNat / 3600000000)
 have g5:=z28 ((absI u).toNat / 60000000 % 60)
 have g6:=z28 ((absI u).toNat / 1000000 % 60)
 have g7:=zbr ((absI u).toNat % 1000000)
 rw [zt3,z1ho hm,z1ho hd,z1ho hu]
 simp only [oB,tn0,tn1,zl,zg]
 unfold z1c0 clockN
 rw [em,ed,eu]
 generalize (absI m).toNat=a at *
 generalize (absI d).toNat=b at *
 generalize (absI u).toNat=n at *
 have q2:IntKind.i64.wrap (Int.tdiv (a:Int) 12)=((a / 12:Nat):Int):=by
  have:=tdivN a 12
  rw [show ((12:Nat):Int)=12 from rfl] at this
  rw [this,w64 (by omega) (by omega)]
 have q3:Int.tmod (a:Int) 12=((a % 12:Nat):Int):=tmodN a 12
 have q5:IntKind.i64.wrap (Int.tdiv (n:Int) 1000000)=((n / 1000000:Nat):Int):=by
  have:=tdivN n 1000000
  rw [show ((1000000:Nat):Int)=1000000 from rfl] at this
  rw [this,w64 (by omega) (by omega)]
 have q6:IntKind.i64.wrap (Int.tdiv ((n / 1000000:Nat):Int) 3600)=((n / 3600000000:Nat):Int):=by
  have:=tdivN (n / 1000000) 3600
  rw [show ((3600:Nat):Int)=3600 from rfl] at this
  rw [this,w64 (by omega) (by omega),Nat.div_div_eq_div_mul]
 have q7:Int.tmod (IntKind.i64.wrap (Int.tdiv ((n / 1000000:Nat):Int) 60)) 60=((n / 60000000 % 60:Nat):Int):=by
  have:=tdivN (n / 1000000) 60
  rw [show ((60:Nat):Int)=60 from rfl] at this
  rw [this,w64 (by omega) (by omega),Nat.div_div_eq_div_mul]
  exact tmodN _ 60
 have q8:Int.tmod ((n / 1000000:Nat):Int) 60=((n / 1000000 % 60:Nat):Int):=tmodN _ 60
 have q9:Int.tmod (n:Int) 1000000=((n % 1000000:Nat):Int):=tmodN _ 1000000
 have dn:∀ k:Nat,decI (k:Int)=digN k:=fun k=>by unfold decI; rw [if_neg (by omega),Int.toNat_natCast]
 rw [q2,q3,q5,q6,q7,q8,q9,z5c (by omega) (by omega),z5c (by omega) (by omega),z5c (by omega) (by omega),z5c (by omega) (by omega),zg3 (by omega) (by omega),zg3 (by omega) (by omega),z19y (by omega) (by omega)]
 simp only [oB,zg,Int.toNat_natCast,dn]
 rw [z9 (by first | omega | (simp; omega))]
 simp only [oB]
 rw [z9 (by first | omega | (simp; omega))]
 simp only [oB]
 rw [z9 (by first | omega | (simp; omega))]
 simp only [oB]
 rw [z9 (by first | omega | (simp; omega))]
 simp only [oB]
 rw [z9 (by first | omega | (simp; omega))]
 simp only [oB]
 rw [z9 (by first | omega | (simp; omega))]
 simp only [oB]
 rw [z9 (by first | omega | (simp; omega))]
 simp only [oB]
 rw [z9 (by first | omega | (simp; omega))]
 simp only [oB]
 rw [z9 (by first | omega | (simp; omega))]
 simp only [oB]
 rw [z9 (by first | omega | (simp; omega))]
 simp only [oB]
 rw [z9 (by first | omega | (simp; omega))]
 simp only [oB]
 rw [z9 (by first | omega | (simp; omega))]
 simp only [oB]
 rw [z9 (by first | omega | (simp; omega))]
 simp only [oB]
 rw [z9 (by first | omega | (simp; omega))]
 simp only [oB]
 simp
end Dv

namespace Dv
open Go
def partB (n:Int) (c:UInt8):List UInt8:=if n=0 then [] else decI n++[c]
def secB (u:Int):List UInt8:=if u=0 then [] else (if u<0 then [45] else [])++(digN ((absI u).toNat / 1000000)++(fracN ((absI u).toNat % 1000000)++[83]))
def hourI (u:Int):Int:=u.tdiv 3600000000
def minI' (u:Int):Int:=(u.tmod 3600000000).tdiv 60000000
def isoH (m d:Int):List UInt8:=80::(partB (m.tdiv 12) 89++(partB (m.tmod 12) 77++partB d 68))
def isoT (m d u:Int):List UInt8:=if u=0 then isoH m d else isoH m d++(84::(partB (hourI u) 72++(partB (minI' u) 77++secB (u.tmod 60000000))))
def isoB (m d u:Int):List UInt8:=if isoT m d u=[80] then [80,84,48,83] else isoT m d u
theorem z9l (n:Int) (c:UInt8):(partB n c).length≤22:=by
 have:=zj4 n
 unfold partB
 split
 ·simp
 ·simp; omega
theorem z1hq (u:Int):(secB u).length≤43:=by
 have h1:=z4w ((absI u).toNat / 1000000)
 have h2:=zbr ((absI u).toNat % 1000000)
 unfold secB
 split
 ·simp
 ·split <;> simp <;> omega
theorem zxk {n:Int} (hn:InS n) (c:UInt8):za3 n [c]=some (.str (partB n c)):=by
 have hl:=zj4 n
 rw [z16n]
 unfold partB
 by_cases h:n=0
 ·rw [c_eqT h,if_pos h]
 ·rw [c_eqF h,if_neg h,z12n hn]
  simp only [oB,zg]
  have:=ziw [decI n,[c]] (by simp) (by simp [totL]; omega)
  simp only [List.map_cons,List.map_nil] at this
  rw [this]
  simp [PV.toS]
theorem z13w {n:Int} (hn:InS n) (c:UInt8):z2t n [c]=some (.str (partB n c)):=by
 have hl:=zj4 n
 rw [zph]
 unfold partB
 by_cases h:n=0
 ·rw [c_eqT h,if_pos h]
 ·rw [c_eqF h,if_neg h,z5c (by omega) (by omega)]
  simp only [oB,zg]
  rw [z9 (by simp; omega)]
  rfl
theorem tmod_rngN {u:Int} {k:Nat} (hk:0<k):-(k:Int)<u.tmod k∧u.tmod k<k:=by
 exact ⟨Int.lt_tmod_of_pos u (by omega),Int.tmod_lt_of_pos u (by omega)⟩
theorem seconds_s {u:Int} (hu:InS u):zom u=some (.str (secB u)):=by
 have ru:=zh1 hu
 have eu:=zj8 hu
 have h1:=z4w ((absI u).toNat / 1000000)
 have h2:=zbr ((absI u).toNat % 1000000)
 rw [z13l]
 unfold secB
 by_cases h:u=0
 ·rw [c_eqT h,if_pos h]
 ·have ht:z2r (sgnB u) [43]=some (.str (if u<0 then [45] else [])):=by
   unfold sgnB
   by_cases hs:u<0
   ·rw [if_pos hs,if_pos hs,z1ff]
   ·rw [if_neg hs,if_neg hs,z1kb]
  rw [c_eqF h,if_neg h,z12j hu]
  simp only [oB,tn0,tn1,zg,zl]
  rw [ht,eu]
  generalize (absI u).toNat=n at *
  have q1:IntKind.i64.wrap (Int.tdiv (n:Int) 1000000)=((n / 1000000:Nat):Int):=by
   have:=tdivN n 1000000
   rw [show ((1000000:Nat):Int)=1000000 from rfl] at this
   rw [this,w64 (by omega) (by omega)]
  have q2:Int.tmod (n:Int) 1000000=((n % 1000000:Nat):Int):=tmodN _ 1000000
  rw [q1,q2,zbm (by omega) (by omega),frac_s (by omega) (by omega)]
  simp only [oB,zg,Int.toNat_natCast]
  have hp:(if u<0 then [(45:UInt8)] else []).length≤1:=by split <;> simp
  generalize (if u<0 then [(45:UInt8)] else [])=p at hp ⊢
  have:=ziw [p,digN (n / 1000000),fracN (n % 1000000),[83]] (by simp) (by simp [totL]; omega)
  simp only [List.map_cons,List.map_nil] at this
  rw [this]
  simp [PV.toS]
theorem z1e3 {u:Int} (hu:InS u):IntKind.i64.wrap (u.tdiv 3600000000)=hourI u∧IntKind.i64.wrap (Int.tdiv (u.tmod 3600000000) 60000000)=minI' u∧InS (hourI u)∧InS (minI' u)∧InS (u.tmod 60000000) ∧
  IntKind.i64.wrap (Int.tdiv (IntKind.i64.wrap (Int.tdiv u 1000000)) 3600)=hourI u∧Int.tmod (IntKind.i64.wrap (Int.tdiv (IntKind.i64.wrap (Int.tdiv u 1000000)) 60)) 60=minI' u:=by
 have hs:InS (u.tmod 60000000):=by
  have:=tmod_rngN (u:=u) (k:=60000000) (by omega)
  rw [show ((60000000:Nat):Int)=60000000 from rfl] at this
  exact ⟨by omega,by omega⟩
 unfold hourI minI'
 obtain ⟨n,⟨hn,h0⟩ | ⟨hn,h0⟩⟩:=nat_or u
 ·subst hn
  have a1:Int.tdiv (n:Int) 3600000000=((n / 3600000000:Nat):Int):=tdivN n 3600000000
  have a2:Int.tmod (n:Int) 3600000000=((n % 3600000000:Nat):Int):=tmodN n 3600000000
  have a3:Int.tdiv ((n % 3600000000:Nat):Int) 60000000=((n % 3600000000 / 60000000:Nat):Int):=tdivN _ 60000000
  have a4:Int.tdiv (n:Int) 1000000=((n / 1000000:Nat):Int):=tdivN n 1000000
  have a5:Int.tdiv ((n / 1000000:Nat):Int) 3600=((n / 1000000 / 3600:Nat):Int):=tdivN _ 3600
  have a6:Int.tdiv ((n / 1000000:Nat):Int) 60=((n / 1000000 / 60:Nat):Int):=tdivN _ 60
  have a7:Int.tmod ((n / 1000000 / 60:Nat):Int) 60=((n / 1000000 / 60 % 60:Nat):Int):=tmodN _ 60
  rw [a1,a2,a3,a4,w64 (n:=((n / 1000000:Nat):Int)) (by omega) (by omega),a5,a6,w64 (n:=((n / 1000000 / 60:Nat):Int)) (by omega) (by omega),a7,w64 (by omega) (by omega),w64 (by omega) (by omega),w64 (by omega) (by omega)]
  exact ⟨rfl,rfl,⟨by omega,by omega⟩,⟨by omega,by omega⟩,hs,by omega,by omega⟩
 ·subst hn
  have a1:Int.tdiv (-(n:Int)) 3600000000=-((n / 3600000000:Nat):Int):=zwx n 3600000000
  have a2:Int.tmod (-(n:Int)) 3600000000=-((n % 3600000000:Nat):Int):=z1hh n 3600000000
  have a3:Int.tdiv (-((n % 3600000000:Nat):Int)) 60000000=-((n % 3600000000 / 60000000:Nat):Int):=zwx _ 60000000
  have a4:Int.tdiv (-(n:Int)) 1000000=-((n / 1000000:Nat):Int):=zwx n 1000000
  have a5:Int.tdiv (-((n / 1000000:Nat):Int)) 3600=-((n / 1000000 / 3600:Nat):Int):=zwx _ 3600
  have a6:Int.tdiv (-((n / 1000000:Nat):Int)) 60=-((n / 1000000 / 60:Nat):Int):=zwx _ 60
  have a7:Int.tmod (-((n / 1000000 / 60:Nat):Int)) 60=-((n / 1000000 / 60 % 60:Nat):Int):=z1hh _ 60
  rw [a1,a2,a3,a4,w64 (n:=-((n / 1000000:Nat):Int)) (by omega) (by omega),a5,a6,w64 (n:=-((n / 1000000 / 60:Nat):Int)) (by omega) (by omega),a7,w64 (by omega) (by omega),w64 (by omega) (by omega),w64 (by omega) (by omega)]
  exact ⟨rfl,rfl,⟨by omega,by omega⟩,⟨by omega,by omega⟩,hs,by omega,by omega⟩
theorem iso_s (i:Int) {m d u:Int} (hm:-2147483647≤m∧m≤2147483647) (hd:InS d) (hu:InS u):z19m i m d u=some (.str (isoB m d u)):=by
 have hy:=z1hk hm
 have hr:=z1hi m
 obtain ⟨p1,p2,p3,p4,p5,_,_⟩:=z1e3 hu
 have l1:=z9l (m.tdiv 12) 89
 have l2:=z9l (m.tmod 12) 77
 have l3:=z9l d 68
 have l4:=z9l (hourI u) 72
 have l5:=z9l (minI' u) 77
 have l6:=z1hq (u.tmod 60000000)
 rw [z1fs,w64 (n:=m.tdiv 12) (by omega) (by omega),zxk (n:=m.tdiv 12) (by exact ⟨by omega,by omega⟩),zxk hr,zxk hd,p1,p2,zxk p3,zxk p4,seconds_s p5]
 simp only [oB,zg]
 have j1:=ziw [[80],partB (m.tdiv 12) 89,partB (m.tmod 12) 77,partB d 68] (by simp) (by simp [totL]; omega)
 simp only [List.map_cons,List.map_nil] at j1
 have e1:[[80],partB (m.tdiv 12) 89,partB (m.tmod 12) 77,partB d 68].flatten=isoH m d:=by simp [isoH]
 have hlen:(isoH m d).length≤70:=by unfold isoH; simp; omega
 rw [j1,e1]
 simp only [oB,zg]
 unfold isoB isoT
 by_cases h:u=0
 ·rw [c_not,c_eqT h,if_pos h]
  by_cases hq:isoH m d=[80]
  ·rw [zyk hq,if_pos hq]
  ·rw [zul hq,if_neg hq]
 ·have j2:=ziw [isoH m d,[84],partB (hourI u) 72,partB (minI' u) 77,secB (u.tmod 60000000)] (by simp) (by simp [totL]; omega)
  simp only [List.map_cons,List.map_nil] at j2
  have e2:[isoH m d,[84],partB (hourI u) 72,partB (minI' u) 77,secB (u.tmod 60000000)].flatten=isoH m d++(84::(partB (hourI u) 72++(partB (minI' u) 77++secB (u.tmod 60000000)))):=by simp
  rw [c_not,c_eqF h,if_neg h,j2,e2]
  simp only [oB,zg]
  by_cases hq:isoH m d++(84::(partB (hourI u) 72++(partB (minI' u) 77++secB (u.tmod 60000000))))=[80]
  ·rw [zyk hq,if_pos hq]
  ·rw [zul hq,if_neg hq]
theorem riso_s (i:Int) {m d u:Int} (hm:-2147483647≤m∧m≤2147483647) (hd:InS d) (hu:InS u):zdr i m d u=some (.str (isoB m d u)):=by
 have hy:=z1hk hm
 have hr:=z1hi m
 obtain ⟨_,_,p3,p4,p5,p6,p7⟩:=z1e3 hu
 have l1:=z9l (m.tdiv 12) 89
 have l2:=z9l (m.tmod 12) 77
 have l3:=z9l d 68
 have l4:=z9l (hourI u) 72
 have l5:=z9l (minI' u) 77
 have l6:=z1hq (u.tmod 60000000)
 have hlen:(isoH m d).length≤70:=by unfold isoH; simp; omega
 have fin:∀ x:List UInt8,(bif eqS x [80] then some (PV.str [80,84,48,83]) else some (PV.str x))=some (.str (if x=[80] then [80,84,48,83] else x)):=by
  intro x
  by_cases hq:x=[80]
  ·rw [zyk hq,if_pos hq]
  ·rw [zul hq,if_neg hq]
 rw [zt4,w64 (n:=m.tdiv 12) (by omega) (by omega),z13w (n:=m.tdiv 12) (by exact ⟨by omega,by omega⟩),z13w hr,z13w hd,p6,p7,z13w p3,z13w p4,z1ho p5]
 simp only [oB,zg]
 rw [z9 (by first | omega | (simp; omega))]
 simp only [oB]
 rw [z9 (by first | omega | (simp; omega))]
 simp only [oB]
 rw [z9 (by first | omega | (simp; omega))]
 simp only [oB]
 have e1:[80]++partB (m.tdiv 12) 89++partB (m.tmod 12) 77++partB d 68=isoH m d:=by simp [isoH]
 rw [e1]
 unfold isoB isoT
 by_cases h:u=0
 ·rw [c_not,c_eqT h,if_pos h]
  exact fin _
 ·rw [c_not,c_eqF h,if_neg h,z9 (by first | omega | (simp; omega))]
  simp only [oB]
  rw [z9 (by first | omega | (simp; omega))]
  simp only [oB]
  rw [z9 (by first | omega | (simp; omega))]
  simp only [oB,tn0,tn1,zl,zg]
  have e2:isoH m d++(84::(partB (hourI u) 72++(partB (minI' u) 77++secB (u.tmod 60000000))))=isoH m d++[84]++partB (hourI u) 72++partB (minI' u) 77++secB (u.tmod 60000000):=by simp
  rw [e2]
  have hxl:(isoH m d++[84]++partB (hourI u) 72++partB (minI' u) 77).length≤200:=by simp; omega
  generalize isoH m d++[84]++partB (hourI u) 72++partB (minI' u) 77=x at hxl ⊢
  generalize u.tmod 60000000=s at p5 l6 ⊢
  have rs:=zh1 p5
  have es:=zj8 p5
  have hz:absI s=0↔s=0:=by unfold absI; split <;> omega
  have g1:=z4w ((absI s).toNat / 1000000)
  have g2:=zbr ((absI s).toNat % 1000000)
  by_cases h0:s=0
  ·have:secB s=[]:=if_pos h0
   rw [c_not,c_eqT (hz.2 h0),this,List.append_nil]
   exact fin x
  ·have c8:∀ p:List UInt8,p.length≤300→z67 p (absI s)=some (.str (if p++(digN ((absI s).toNat / 1000000)++(fracN ((absI s).toNat % 1000000)++[83]))=[80] then [80,84,48,83] else p++(digN ((absI s).toNat / 1000000)++(fracN ((absI s).toNat % 1000000)++[83])))):=by
    intro p hp
    rw [zlz]
    conv=>lhs; rw [es]
    generalize (absI s).toNat=n at *
    have q1:IntKind.i64.wrap (Int.tdiv (n:Int) 1000000)=((n / 1000000:Nat):Int):=by
     have:=tdivN n 1000000
     rw [show ((1000000:Nat):Int)=1000000 from rfl] at this
     rw [this,w64 (by omega) (by omega)]
    have q2:Int.tmod (n:Int) 1000000=((n % 1000000:Nat):Int):=tmodN _ 1000000
    have dn:∀ k:Nat,decI (k:Int)=digN k:=fun k=>by unfold decI; rw [if_neg (by omega),Int.toNat_natCast]
    rw [q1,q2,z5c (by omega) (by omega),z19y (by omega) (by omega)]
    simp only [oB,zg,Int.toNat_natCast,dn]
    rw [z9 (by first | omega | (simp; omega))]
    simp only [oB]
    rw [z9 (by first | omega | (simp; omega))]
    simp only [oB]
    rw [z9 (by first | omega | (simp; omega))]
    simp only [oB]
    have e3:p++digN (n / 1000000)++fracN (n % 1000000)++[83]=p++(digN (n / 1000000)++(fracN (n % 1000000)++[83])):=by simp
    rw [e3]
    exact fin _
   rw [c_not,c_eqF (fun h=>h0 (hz.1 h))]
   unfold secB sgnB
   rw [if_neg h0]
   by_cases hs:s<0
   ·rw [if_pos hs,if_pos hs,zyk rfl,z9 (by first | omega | (simp; omega))]
    simp only [oB]
    rw [c8 _ (by simp; omega)]
    simp
   ·rw [if_neg hs,if_neg hs,zul (by simp),c8 _ (by omega)]
    simp
end Dv

namespace Dv
open Go
theorem k_parts:zme 8826=some (.tuple [.int .i64 2024,.int .i64 3,.int .i64 1]):=by rw [zuk,zed]; kernel_rfl
theorem k_first:zmh=some (.int .i64 (-2453698)):=by
 rw [zjr,zq0,c_leT (by decide),zi2,zed]; kernel_rfl
theorem k_last:zsq=some (.int .i64 106754173):=by
 rw [zmg,zq0,c_leF (by decide),zi2,zed]; kernel_rfl
theorem k_can:zyh 8826=some (.bool true):=by
 rw [z11b,k_first,k_last]; kernel_rfl
theorem k_date:z8y 8826=some (.tuple [.int .i64 2024,.int .i64 3,.int .i64 1,.int .i64 0]):=by
 rw [z8x,k_can,k_parts]; kernel_rfl
theorem k_inside:z3h 8826=some (.bool true):=by
 rw [zyc,k_date]; kernel_rfl
theorem k_right:zki 0 8826=some (.bool true):=by
 rw [zpe,k_inside]; kernel_rfl
theorem k_dparts:zyd 0 8826=some (.tuple [.int .i64 2024,.int .i64 3,.int .i64 1,.int .i64 0]):=by
 rw [z118,k_right,k_date]; kernel_rfl
theorem k_show:zos 0 8826 1 1 0=some (.tuple [.str [48,49,47,48,51,47,50,48,50,52],.int .i64 0]):=by
 have d1:digN 2024=[50,48,50,52]:=by kernel_rfl
 have t1:twoN 3=[48,51]:=by kernel_rfl
 have t2:twoN 1=[48,49]:=by kernel_rfl
 have r0:z9g [48] 0=some (.str []):=by rw [z8m,c_eqT rfl]
 have j1:=ziw [[],[50,48,50,52]] (by simp) (by simp [totL])
 have j2:=ziw [[48,49,47,48,51,47,50,48,50,52],[]] (by simp) (by simp [totL])
 have b1:=zq6 [47] (by simp) [[48,49],[48,51],[50,48,50,52]] (by simp) (by simp [totL])
 simp only [List.map_cons,List.map_nil] at j1 j2 b1
 have hd:zoo 0 8826 1 1 0=some (.tuple [.str [48,49,47,48,51,47,50,48,50,52],.str []]):=by
  rw [z10i,k_dparts]
  simp only [oB,tn0,tn1,tn2,zl]
  rw [c_ltF (by decide),zon,zbm (by decide) (by decide)]
  simp only [oB,zg]
  have e:(2024:Int).toNat=2024:=rfl
  rw [e,d1]
  have m0:maxI 0 (IntKind.i64.wrap (4-((([50,48,50,52]:List UInt8).length:Nat):Int)))=0:=by kernel_rfl
  rw [m0,r0]
  simp only [oB,zg]
  rw [j1,zih (by decide) (by decide),zih (by decide) (by decide)]
  simp only [oB,zg]
  have e3:(3:Int).toNat=3:=rfl
  have e1:(1:Int).toNat=1:=rfl
  rw [e3,e1,t1,t2,c_eqF (by decide),c_eqF (by decide),c_eqT rfl]
  have f1:([[],[50,48,50,52]]:List (List UInt8)).flatten=[50,48,50,52]:=rfl
  rw [f1,b1]
  rfl
 rw [z10k,k_right]
 simp only [oB,ze]
 rw [c_not,z15m,zuz]
 have hs:styleR 1 1 0=true:=rfl
 rw [hs]
 simp only [oB,ze]
 rw [c_not,z15m,zop,c_not,c_eqT rfl,hd]
 simp only [oB,tn0,tn1,zg]
 rw [j2]
 rfl
def spanV (i m d u a b c:Int):PV :=
 if spanR i m d u=true∧styleR a b c=true then
  if i≠0 then .tuple [.str (if i<0 then [45,105,110,102,105,110,105,116,121] else [105,110,102,105,110,105,116,121]),.int .i64 0]
  else .tuple [.str (if c=1 then z1c0 m d u else if c=2 then isoB m d u else pgB m d u),.int .i64 0]
 else .tuple [.str [],.int .i64 1]
theorem infS {i:Int} (h:i≠0):z5b i=some (.str (if i<0 then [45,105,110,102,105,110,105,116,121] else [105,110,102,105,110,105,116,121])):=by
 rw [zfp]
 by_cases hi:i<0
 ·rw [c_ltT hi,if_pos hi]
 ·rw [c_ltF hi,if_neg hi]
theorem z1co {i m d u:Int} (h1:-9223372036854775808≤u) (h2:u≤9223372036854775807) (a b c:Int):zhf i m d u a b c=some (spanV i m d u a b c):=by
 rw [z1cr,right_s h1 h2]
 unfold spanV
 simp only [oB,ze]
 cases hr:spanR i m d u with
 | false=>rw [c_not,z15n,if_neg (by simp)]
 | true =>
 rw [c_not,z15m,zuz]
 simp only [oB,ze]
 cases hs:styleR a b c with
 | false=>rw [c_not,z15n,if_neg (by simp)]
 | true =>
 rw [c_not,z15m,z13n,if_pos (by simp)]
 by_cases hi:i=0
 ·subst hi
  obtain ⟨m1,m2,d1,d2,u1,u2⟩:=z1cp hr
  rw [c_not,c_eqT rfl,if_neg (by simp)]
  by_cases c1:c=1
  ·rw [c_eqT c1,if_pos c1,sql_s 0 ⟨by omega,by omega⟩ ⟨by omega,by omega⟩ ⟨u1,u2⟩]; rfl
  ·rw [c_eqF c1,if_neg c1]
   by_cases c2:c=2
   ·rw [c_eqT c2,if_pos c2,iso_s 0 ⟨m1,m2⟩ ⟨by omega,by omega⟩ ⟨u1,u2⟩]; rfl
   ·rw [c_eqF c2,if_neg c2,z1kv 0 ⟨m1,m2⟩ ⟨by omega,by omega⟩ ⟨u1,u2⟩]; rfl
 ·rw [c_not,c_eqF hi,if_pos hi,infS hi]; rfl
theorem rspan_s {i m d u:Int} (a b c:Int):zc0 i m d u a b c=some (spanV i m d u a b c):=by
 rw [zpj,z1hv]
 unfold spanV
 simp only [oB,ze]
 cases hr:spanR i m d u with
 | false=>rw [c_not,z15n,zb0,if_neg (by simp)]
 | true =>
 rw [c_not,z15m,zs9]
 simp only [oB,ze]
 cases hs:styleR a b c with
 | false=>rw [c_not,z15n,zb0,if_neg (by simp)]
 | true =>
 rw [c_not,z15m,zkm,if_pos (by simp)]
 by_cases hi:i=0
 ·subst hi
  obtain ⟨m1,m2,d1,d2,u1,u2⟩:=z1cp hr
  rw [c_not,c_eqT rfl,if_neg (by simp)]
  by_cases c1:c=1
  ·rw [c_eqT c1,if_pos c1,rsql_s 0 ⟨by omega,by omega⟩ ⟨by omega,by omega⟩ ⟨u1,u2⟩]; rfl
  ·rw [c_eqF c1,if_neg c1]
   by_cases c2:c=2
   ·rw [c_eqT c2,if_pos c2,riso_s 0 ⟨m1,m2⟩ ⟨by omega,by omega⟩ ⟨u1,u2⟩]; rfl
   ·rw [c_eqF c2,if_neg c2,z1fz 0 ⟨m1,m2⟩ ⟨by omega,by omega⟩ ⟨u1,u2⟩]; rfl
 ·rw [c_not,c_eqF hi,if_pos hi,← inf_s hi,infS hi]; rfl
theorem known19_s:zak=some (.bool true):=by
 rw [znu,z1co (by decide) (by decide),z1co (by decide) (by decide),z1co (by decide) (by decide),z1co (by decide) (by decide),k_show]
 kernel_rfl
end Dv

namespace Dv
open Go
def padN (s:List UInt8):List UInt8:=List.replicate (4-s.length) 48++s
theorem z1a6 (s:List UInt8):4≤(padN s).length∧(padN s).length≤s.length+4:=by
 unfold padN; rw [List.length_append,List.length_replicate]; omega
def dateN (y m d:Int) (a b:Int):List UInt8 :=
 if a=0 then padN (digN y.toNat)++([45]++(twoN m.toNat++([45]++twoN d.toNat)))
 else if b=2 then twoN m.toNat++([47]++(twoN d.toNat++([47]++padN (digN y.toNat))))
 else if b=1 then twoN d.toNat++([47]++(twoN m.toNat++([47]++padN (digN y.toNat))))
 else padN (digN y.toNat)++([47]++(twoN m.toNat++([47]++twoN d.toNat)))
theorem zyf (y m d a b:Int):1≤(dateN y m d a b).length∧(dateN y m d a b).length≤80:=by
 have p1:=z1a6 (digN y.toNat)
 have l2:=z4w y.toNat
 have t2:=z28 m.toNat
 have t4:=z28 d.toNat
 unfold dateN
 split
 ·simp; omega
 ·split
  ·simp; omega
  ·split <;> (simp; omega)
end Dv
