/- The seat's proofs. -/
import Derived.Test.YtdniadhpgohccaaGreatDoorWQ1
import Derived.Test.YtdniadhpgohccaaGreatDoorWL3
import Derived.Test.YtdniadhpgohccaaGreatDoorWQ2
import Derived.Laws.Bits64
import Derived.Laws.RangeAny
import Derived.Lib.TrimUEq
import Derived.Lib.IndexLaws
import Derived.Test.YtdniadhpgohccaaGreatDoorWL1
set_option linter.unusedVariables false
set_option linter.unusedSimpArgs false
namespace Dv
open Go
theorem chkNames:z13w EE.P.funcs.toList=true:=by kernel_rfl
theorem chkTypes:z16a EE.P 0 EE.tt=true:=by kernel_rfl
theorem chkEqs:eqsChk EE=true:=by kernel_rfl
theorem chkMt:allB (mtChk EE.P) EE.mt=true:=by kernel_rfl
theorem chkOrders:EE.P.follows .mixedOrders=true:=by kernel_rfl
theorem sameOk:∀ g,memN g EE.same=true→ExtAt EE g Extern.AbiNoEscape.same:=by
 intro g h
 have he:EE.same=[206]:=rfl
 rw [he] at h
 simp only [memN,Bool.or_eq_true,Bool.or_false,beq_iff_eq,Bool.false_eq_true] at h
 subst h
 exact ⟨⟨(EE.P.funcs[206]?).getD default,by kernel_rfl,by kernel_rfl,by kernel_rfl,by kernel_rfl,by kernel_rfl⟩⟩
theorem mnzOk:∀ g e,findN g EE.mnz=some e→∃ ps t,EE.P.underlying t=some (.slice e)∧ExtAt EE g (Extern.BytealgMakeNoZero.makeNoZero ps #[t]):=by
 intro g e h
 have he:EE.mnz=[(207,5)]:=rfl
 rw [he] at h
 simp only [findN] at h
 cases h1:(g == 207) with
 | true =>
  rw [h1] at h
  simp only [cond_true,oJ] at h
  have:=eq_of_beq h1
  subst this; subst h
  exact ⟨((EE.P.funcs[207]?).getD default).params,((EE.P.funcs[207]?).getD default).resultTypes.getD 0 0,by kernel_rfl,⟨⟨(EE.P.funcs[207]?).getD default,by kernel_rfl,by kernel_rfl,by kernel_rfl,by kernel_rfl,by kernel_rfl⟩⟩⟩
 | false =>
 rw [h1] at h
 simp only [cond_false] at h
 cases h
theorem envOk:EnvOk EE:=envChk_ok (by unfold envChk; rw [chkNames,chkTypes,chkEqs,chkMt,chkOrders]; rfl) sameOk mnzOk
theorem extOk:ExtOk EE:=by
 intro g m h args r hr
 right
 have he:EE.ext=[(209,zwc),(210,z5m),(214,zjk)]:=rfl
 rw [he] at h
 simp only [ze5] at h
 cases h1:(g == 209) with
 | true =>
  rw [h1] at h
  simp only [cond_true,oJ] at h
  have:=eq_of_beq h1
  subst this; subst h
  exact ext_add64 ⟨⟨(EE.P.funcs[209]?).getD default,by kernel_rfl,by kernel_rfl,by kernel_rfl,by kernel_rfl,by kernel_rfl⟩⟩ args r hr
 | false =>
 rw [h1] at h
 simp only [cond_false] at h
 cases h1:(g == 210) with
 | true =>
  rw [h1] at h
  simp only [cond_true,oJ] at h
  have:=eq_of_beq h1
  subst this; subst h
  exact z14l ⟨⟨(EE.P.funcs[210]?).getD default,by kernel_rfl,by kernel_rfl,by kernel_rfl,by kernel_rfl,by kernel_rfl⟩⟩ args r hr
 | false =>
 rw [h1] at h
 simp only [cond_false] at h
 cases h1:(g == 214) with
 | true =>
  rw [h1] at h
  simp only [cond_true,oJ] at h
  have:=eq_of_beq h1
  subst this; subst h
  exact ext_count ⟨⟨(EE.P.funcs[214]?).getD default,by kernel_rfl,by kernel_rfl,by kernel_rfl,by kernel_rfl,by kernel_rfl⟩⟩ args r hr
 | false =>
 rw [h1] at h
 simp only [cond_false] at h
 cases h
end Dv

namespace Dv
open Go
abbrev In64 (n:Int):Prop:=-9223372036854775808≤n∧n≤9223372036854775807
def rightI (y m d:Int):Bool:=decide (-4718≤y∧y≤294282∧1≤m∧m≤12∧1≤d∧d≤lenI y m)
def daysV (y m d:Int):PV:=bif rightI y m d then .tuple [.int .i64 (dayI y m d),.int .i64 0] else .tuple [.int .i64 0,.int .i64 10]
end Dv

namespace Dv
open Go
def wdOk (wd:Int):Bool:=leB 0 wd&&leB wd 6
def dayOk (n:Int):Bool:=leB 1 n&&leB n 31
def rightV (k wd n:Int):Bool :=
 bif eqB k 0 then dayOk n&&eqB wd 0 else bif eqB k 1 then wdOk wd&&eqB n 0 else bif eqB k 2 then wdOk wd&&dayOk n else bif eqB k 3 then wdOk wd&&dayOk n else false
def onI (n wd:Int):Int:=n+(wd-wkI n) % 7
def backI (n wd:Int):Int:=n-(wkI n-wd) % 7
def dayK (y m k wd n:Int):Int :=
 if k=0 then dayI y m 1+n-1 else if k=1 then backI (dayI y m 1+lenI y m-1) wd else if k=2 then onI (dayI y m 1+n-1) wd else backI (dayI y m 1+n-1) wd
def canBL (y m k wd n:Int):Bool:=rightV k wd n&&(leB 1 m&&leB m 12)
def yearB (y:Int):Bool:=ltB (-4718) y&&ltB y 294282
def dayV (y m k wd n:Int):PV :=
 bif !canBL y m k wd n then .tuple [.int .i64 0,.int .i64 1] else bif !yearB y then .tuple [.int .i64 0,.int .i64 10] else .tuple [.int .i64 (dayK y m k wd n),.int .i64 0]
def dvR (n:Int):PV:=.tuple [.int .i64 n,.int .i64 0]
end Dv

namespace Dv
open Go
abbrev Small (s:List UInt8):Prop:=s.length≤70368744177664
theorem z15v (s:List UInt8) (hs:Small s):∀ (j i:Nat),i+j=s.length→z9o (s.length:Int) (i:Int) ((lowS (s.take i)++s.drop i).map byteV)=some (.str (lowS s))
 | 0,i,h=>by
  have:i=s.length:=by omega
  subst this
  rw [zjp,c_ltF (by omega)]
  simp only [List.take_length,List.drop_length,List.append_nil,zfj,oB]
 | j+1,i,h=>by
  have hi:i<s.length:=by omega
  have hlen:(lowS (s.take i)).length=i:=by simp; omega
  have hget:(lowS (s.take i)++s.drop i)[i]?=some s[i]:=by
   rw [List.getElem?_append_right (by omega),hlen,Nat.sub_self,List.getElem?_drop,Nat.add_zero,List.getElem?_eq_getElem hi]
  have hl2:((lowS (s.take i)++s.drop i).map byteV).length=s.length:=by simp; omega
  have ih:=z15v s hs j (i+1) (by omega)
  have hset:(lowS (s.take i)++s.drop i).set i (lowB s[i])=lowS (s.take (i+1))++s.drop (i+1):=by
   rw [List.drop_eq_getElem_cons hi,List.take_succ_eq_append_getElem hi]
   rw [List.set_append,if_neg (by omega),hlen,Nat.sub_self,List.set_cons_zero]
   show _=(s.take i++[s[i]]).map lowB++_
   rw [List.map_append,List.append_assoc]; rfl
  have hsame:¬ (65≤s[i].toNat∧s[i].toNat≤90)→lowS (s.take i)++s.drop i=lowS (s.take (i+1))++s.drop (i+1):=by
   intro hn
   have:lowB s[i]=s[i]:=by unfold lowB; rw [if_neg hn]
   rw [← hset,this]
   apply List.ext_getElem?
   intro k
   by_cases hk:i=k
   ·subst hk; rw [List.getElem?_set_self (by simp; omega),hget]
   ·rw [List.getElem?_set_ne hk]
  have hcast:((i+1:Nat):Int)=(i:Int)+1:=by omega
  rw [zjp,c_ltT (by omega),c_inT (by rw [hl2]; omega),Int.toNat_natCast,rdT_byte hget]
  simp only [oB,getD_byte]
  rw [hl2]
  by_cases h1:65≤s[i].toNat
  ·rw [c_leT (by omega)]
   by_cases h2:s[i].toNat≤90
   ·rw [c_leT (by omega),c_inT (by omega)]
    have ho:=or32 ⟨s[i].toNat,UInt8.toNat_lt _⟩ h1 h2
    simp only at ho
    rw [ho]
    have hb:(PV.int .u8 ((s[i].toNat+32:Nat):Int))=byteV (lowB s[i]):=by
     unfold lowB byteV
     rw [if_pos ⟨h1,h2⟩,add32 _ ⟨h1,h2⟩]; rfl
    rw [hb,stC_map (by simp; omega)]
    simp only [oB]
    rw [hset,w64 (by omega) (by omega),← hcast]
    exact ih
   ·rw [c_leF (by omega),w64 (by omega) (by omega),← hcast,hsame (by omega)]
    exact ih
  ·rw [c_leF (by omega),w64 (by omega) (by omega),← hcast,hsame (by omega)]
   exact ih
theorem zwp (s:List UInt8) (hs:Small s):zeu s=some (.str (lowS s)):=by
 rw [z12e,List.length_map]
 have:=z15v s hs s.length 0 (by omega)
 simpa [lowS] using this
theorem wsame_s (a b:List UInt8) (ha:Small a) (hb:Small b):zwo a b=some (.bool (sameB a b)):=by
 rw [z15t,zwp a ha,zwp b hb]; rfl
def begB (s t:List UInt8):Bool:=leN s.length t.length&&sameB s (t.take s.length)
def findI (s:List UInt8):Nat→List (List UInt8)→Int
 | _,[]=>-1
 | i,t::r=>bif begB s t then (i:Int) else findI s (i+1) r
def shortI (s:List UInt8) (l:List (List UInt8)):Int:=if s.length<3 then -1 else findI s 0 l
def dayNames:List (List UInt8):=[[83,117,110,100,97,121],[77,111,110,100,97,121],[84,117,101,115,100,97,121],[87,101,100,110,101,115,100,97,121],[84,104,117,114,115,100,97,121],[70,114,105,100,97,121],[83,97,116,117,114,100,97,121]]
end Dv

namespace Dv
open Go
theorem shr32 {a:Int}:shrI .u64 a 32=a / 4294967296:=by
 unfold shrI
 have:(min (32:Int).toNat IntKind.u64.bits)=32:=rfl
 rw [this]
 have h2:((2:Int) ^ 32)=4294967296:=by decide
 rw [h2,Int.fdiv_eq_ediv_of_nonneg _ (by omega)]
theorem and32 {a:Int} (h0:0≤a) (h1:a<18446744073709551616):andI .u64 a 4294967295=a % 4294967296:=by
 unfold andI
 obtain ⟨n,rfl⟩:=Int.eq_ofNat_of_zero_le h0
 have hb:IntKind.u64.bits=64:=rfl
 have e:(BitVec.ofInt IntKind.u64.bits (n:Int) &&& BitVec.ofInt IntKind.u64.bits 4294967295).toNat=n % 4294967296:=by
  rw [hb,BitVec.toNat_and]
  have e1:(BitVec.ofInt 64 (n:Int)).toNat=n:=by
   rw [BitVec.toNat_ofInt]; omega
  have e2:(BitVec.ofInt 64 4294967295).toNat=2 ^ 32-1:=by decide
  rw [e1,e2,Nat.and_two_pow_sub_one_eq_mod]
 rw [e,IntKind.wrap_u64]
 omega
theorem mul64_s {a b:Int} (ha:0≤a∧a<18446744073709551616) (hb:0≤b∧b<18446744073709551616) :
  zno a b=some (.tuple [.int .u64 (a*b / 18446744073709551616),.int .u64 (a*b % 18446744073709551616)]):=by
 rw [z14t]
 simp only [shr32,and32 ha.1 ha.2,and32 hb.1 hb.2]
 have hab:a*b=18446744073709551616*((a / 4294967296)*(b / 4294967296))+4294967296*((a / 4294967296)*(b % 4294967296)+(a % 4294967296)*(b / 4294967296))+(a % 4294967296)*(b % 4294967296):=by
  have gen:∀ x1 x0 y1 y0:Int,(4294967296*x1+x0)*(4294967296*y1+y0)=18446744073709551616*(x1*y1)+4294967296*(x1*y0+x0*y1)+x0*y0:=by
   intro x1 x0 y1 y0
   have e1:(4294967296*x1)*(4294967296*y1)=18446744073709551616*(x1*y1):=by
    rw [Int.mul_assoc,Int.mul_left_comm x1,← Int.mul_assoc]; rfl
   have e2:(4294967296*x1)*y0=4294967296*(x1*y0):=Int.mul_assoc _ _ _
   have e3:x0*(4294967296*y1)=4294967296*(x0*y1):=Int.mul_left_comm _ _ _
   rw [Int.add_mul,Int.mul_add,Int.mul_add,e1,e2,e3]
   omega
  have h:=gen (a / 4294967296) (a % 4294967296) (b / 4294967296) (b % 4294967296)
  have ea:4294967296*(a / 4294967296)+a % 4294967296=a:=by omega
  have eb:4294967296*(b / 4294967296)+b % 4294967296=b:=by omega
  rw [ea,eb] at h
  exact h
 have x1:0≤a / 4294967296∧a / 4294967296≤4294967295:=by omega
 have x0:0≤a % 4294967296∧a % 4294967296≤4294967295:=by omega
 have y1:0≤b / 4294967296∧b / 4294967296≤4294967295:=by omega
 have y0:0≤b % 4294967296∧b % 4294967296≤4294967295:=by omega
 rw [hab]
 generalize a / 4294967296=u1 at *
 generalize a % 4294967296=u0 at *
 generalize b / 4294967296=v1 at *
 generalize b % 4294967296=v2 at *
 have bd:∀ x y:Int,0≤x∧x≤4294967295→0≤y∧y≤4294967295→0≤x*y∧x*y≤18446744065119617025:=by
  intro x y hx hy
  refine ⟨Int.mul_nonneg hx.1 hy.1,?_⟩
  have:=Int.mul_le_mul hx.2 hy.2 hy.1 (by omega)
  omega
 have bp:=bd u0 v2 x0 y0
 have bq:=bd u1 v2 x1 y0
 have br:=bd u0 v1 x0 y1
 have bs:=bd u1 v1 x1 y1
 clear hab
 generalize u0*v2=p at *
 generalize u1*v2=q at *
 generalize u0*v1=r at *
 generalize u1*v1=s at *
 have wu:∀ n:Int,0≤n→n≤18446744073709551615→IntKind.u64.wrap n=n:=fun n h1 h2=>wu64 h1 h2
 have hp0:0≤p / 4294967296∧p / 4294967296≤4294967294:=by omega
 have ht:0≤q+p / 4294967296∧q+p / 4294967296≤18446744069414584319:=by omega
 rw [wu p (by omega) (by omega),wu q (by omega) (by omega),wu r (by omega) (by omega),wu s (by omega) (by omega),wu _ ht.1 (by omega),and32 ht.1 (by omega)]
 have hpq:∃ t,t=q+p / 4294967296:=⟨_,rfl⟩
 obtain ⟨t,hpq⟩:=hpq
 rw [← hpq] at ht ⊢
 have hw1:0≤t % 4294967296+r∧t % 4294967296+r≤18446744069414584320:=by omega
 have hs2:0≤s+t / 4294967296∧s+t / 4294967296≤18446744069414584320:=by omega
 rw [wu _ hw1.1 (by omega),wu _ hs2.1 (by omega)]
 have hw2:0≤(t % 4294967296+r) / 4294967296∧(t % 4294967296+r) / 4294967296≤4294967295:=by omega
 have key:(18446744073709551616*s+4294967296*(q+r)+p) / 18446744073709551616=s+t / 4294967296+(t % 4294967296+r) / 4294967296:=by
  have e1:4294967296*(q+r)+p=4294967296*(t+r)+p % 4294967296:=by omega
  have e2:t+r=4294967296*(t / 4294967296)+(t % 4294967296+r):=by omega
  omega
 rw [key,IntKind.wrap_u64,IntKind.wrap_u64]
 congr 3
 rw [Int.emod_eq_of_lt (by omega) (by omega)]
theorem size_sL {a:Int} (h:In64 a):zvx a=some (.int .u64 (if a<0 then -a else a)):=by
 rw [z1aa]
 unfold In64 at h
 by_cases h0:a<0
 ·rw [c_ltT h0,if_pos h0,IntKind.wrap_u64,IntKind.wrap_u64]
  congr 2; omega
 ·rw [c_ltF h0,if_neg h0,IntKind.wrap_u64]
  congr 2; omega
def limV (n:Int):PV:=if In64 n then .tuple [.int .i64 n,.int .i64 0] else .tuple [.int .i64 0,.int .i64 10]
theorem rd1 (x y:Int):rdT (tiInt .u64) [.int .u64 x,.int .u64 y] 1 0=some (.int .u64 y):=rfl
theorem signed_sL (neg:Bool) {m:Int} (h0:0≤m) (h1:m<340282366920938463463374607431768211456) :
  zsm neg (m / 18446744073709551616) (m % 18446744073709551616)=some (limV (if neg then -m else m)):=by
 rw [z13p,zvb,rd1,c_not]
 have hq:0≤m / 18446744073709551616:=by omega
 by_cases hz:m / 18446744073709551616=0
 ·rw [c_eqT hz]
  have hm:m % 18446744073709551616=m:=by omega
  rw [hm]
  simp only [oB,PV.toI]
  cases neg with
  | true =>
   simp only [cond_true,if_true]
   by_cases hl:m≤9223372036854775808
   ·rw [c_leT hl,IntKind.wrap_u64,IntKind.wrap_i64]
    unfold limV
    rw [if_pos (by unfold In64; omega)]
    congr 3
    congr 1
    omega
   ·rw [c_leF hl]
    unfold limV
    rw [if_neg (by unfold In64; omega)]
  | false =>
   simp only [cond_false,Bool.false_eq_true,if_false]
   by_cases hl:9223372036854775807<m
   ·rw [c_ltT hl]
    unfold limV
    rw [if_neg (by unfold In64; omega)]
   ·rw [c_ltF hl,w64 (by omega) (by omega)]
    unfold limV
    rw [if_pos (by unfold In64; omega)]
 ·rw [c_eqF hz]
  unfold limV
  rw [if_neg (by unfold In64; cases neg <;> simp <;> omega)]
theorem mul_s {a b:Int} (ha:In64 a) (hb:In64 b):zd a b=some (limV (a*b)):=by
 rw [z1dq,z10a,size_sL ha,size_sL hb]
 simp only [oB,zv]
 unfold In64 at ha hb
 have h1:0≤(if a<0 then -a else a)∧(if a<0 then -a else a)≤9223372036854775808:=by split <;> omega
 have h2:0≤(if b<0 then -b else b)∧(if b<0 then -b else b)≤9223372036854775808:=by split <;> omega
 rw [mul64_s (by omega) (by omega)]
 simp only [oB,tn0,tn1,ag0,ag1,zv]
 have hm0:0≤(if a<0 then -a else a)*(if b<0 then -b else b):=Int.mul_nonneg h1.1 h2.1
 have hm1:(if a<0 then -a else a)*(if b<0 then -b else b)≤9223372036854775808*9223372036854775808:=Int.mul_le_mul h1.2 h2.2 h2.1 (by omega)
 rw [signed_sL _ hm0 (by omega)]
 have e:(if (!(ltB a 0 == ltB b 0))=true then -((if a<0 then -a else a)*(if b<0 then -b else b)) else (if a<0 then -a else a)*(if b<0 then -b else b))=a*b:=by
  by_cases x:a<0 <;> by_cases y:b<0 <;> simp [ltB,x,y,Int.neg_mul,Int.mul_neg]
 rw [e]
 simp only [oB]
 unfold limV
 by_cases h:In64 (a*b)
 ·rw [if_pos h]; rfl
 ·rw [if_neg h]; rfl
theorem add_s {a b:Int} (ha:In64 a) (hb:In64 b):ze a b=some (limV (a+b)):=by
 rw [z1dr,c_not]
 unfold In64 at ha hb
 unfold limV
 by_cases h:In64 (a+b)
 ·rw [if_pos h]
  unfold In64 at h
  rw [w64 h.1 h.2]
  have:(ltB a (a+b) == ltB 0 b)=true:=by
   unfold ltB
   by_cases hb0:0<b
   ·rw [decide_eq_true hb0,decide_eq_true (by omega)]; rfl
   ·rw [decide_eq_false hb0,decide_eq_false (by omega)]; rfl
  rw [this]; rfl
 ·rw [if_neg h]
  unfold In64 at h
  have:(ltB a (IntKind.i64.wrap (a+b)) == ltB 0 b)=false:=by
   unfold ltB
   rw [IntKind.wrap_i64]
   by_cases hb0:0<b
   ·rw [decide_eq_true hb0,decide_eq_false (by omega)]; rfl
   ·rw [decide_eq_false hb0,decide_eq_true (by omega)]; rfl
  rw [this]; rfl
end Dv

namespace Dv
open Go
theorem zhb {s:List UInt8} {i:Nat} {c:UInt8} (h:s[i]?=some c) (hc:c.toNat<128):decR s i=(c.toNat,1):=by
 have hi:i<s.length:=(List.getElem?_eq_some_iff.1 h).1
 have hs:i<(⟨s.toArray⟩:ByteArray).size:=by simpa [ByteArray.size] using hi
 have hg:(⟨s.toArray⟩:ByteArray)[i]'hs=c:=by
  have:=(List.getElem?_eq_some_iff.1 h).2
  exact this
 unfold decR
 rw [decode_ascii ⟨s.toArray⟩ i hs (by rw [hg]; exact hc),hg]
theorem z183 {s:List UInt8} {i:Nat} {c:UInt8} (h:s[i]?=some c) (hc:128≤c.toNat):128≤(decR s i).1∧1≤(decR s i).2:=by
 have hi:i<s.length:=(List.getElem?_eq_some_iff.1 h).1
 have hs:i<(⟨s.toArray⟩:ByteArray).size:=by simpa [ByteArray.size] using hi
 have hg:(⟨s.toArray⟩:ByteArray)[i]'hs=c:=(List.getElem?_eq_some_iff.1 h).2
 unfold decR
 exact decode_high ⟨s.toArray⟩ i hs (by rw [hg]; exact hc)
theorem z1dy {c:Int} (h:48≤c∧c≤57):zii c=some (.int .i64 1):=by
 rw [zt2,c_leT h.1,c_leT h.2,zwn]
theorem z1dx {c:Int} (h:¬ (48≤c∧c≤57)):∃ k,zii c=some (.int .i64 k)∧k≠1:=by
 have e:zii c=zhf c:=by
  rw [zt2]
  by_cases h1:48≤c
  ·rw [c_leT h1,c_leF (by omega)]
  ·rw [c_leF h1]
 rw [e,zwm,zwk,zwl,zun]
 cases eqB c 95 <;> cases ltB 127 c <;> cases leB 97 (orI .i32 c 32) <;> cases leB (orI .i32 c 32) 122 <;> cases eqB c 32 <;> cases eqB c 9 <;> cases eqB c 10 <;> cases eqB c 13 <;> cases ltB c 32 <;> cases eqB c 127 <;>
  exact ⟨_,rfl,by decide⟩
def digB (c:UInt8):Bool:=decide (48≤c.toNat∧c.toNat≤57)
def badV:PV:=.tuple [.int .i64 0,.int .i64 13]
def numG:List UInt8→Int→Bool→PV
 | [],n,o=>bif o then .tuple [.int .i64 0,.int .i64 10] else .tuple [.int .i64 n,.int .i64 0]
 | c::r,n,o=>bif digB c then (bif o then numG r 0 true else bif leB (10*n+((c.toNat:Int)-48)) 9223372036854775807 then numG r (10*n+((c.toNat:Int)-48)) false else numG r 0 true) else badV
def numV (s:List UInt8):PV:=bif eqS s [] then badV else numG s 0 false
theorem zyp {α:Type} {s:List α} {i:Nat} (h:s.drop i=[]):s.length≤i:=by
 rcases Nat.lt_or_ge i s.length with h' | h'
 ·rw [List.drop_eq_getElem_cons h'] at h; cases h
 ·exact h'
theorem zgu {α:Type} {s r:List α} {c:α} {i:Nat} (h:s.drop i=c::r):i<s.length∧s[i]?=some c∧s.drop (i+1)=r:=by
 refine ⟨?_,?_,?_⟩
 ·rcases Nat.lt_or_ge i s.length with h' | h'
  ·exact h'
  ·rw [List.drop_of_length_le h'] at h; cases h
 ·rw [← List.head?_drop,h]; rfl
 ·rw [← List.drop_drop,h]; rfl
theorem zbl (c:UInt8):digB c=true↔48≤c.toNat∧c.toNat≤57:=by simp [digB]
theorem wnum_bad {s x0:List UInt8} {i:Nat} {c:UInt8} (h:s[i]?=some c) (hd:digB c=false) (x e:Int):z76 x0 x e s i=some badV:=by
 have hi:i<s.length:=(List.getElem?_eq_some_iff.1 h).1
 have hk:∃ k,zii ((decR s i).1:Int)=some (.int .i64 k)∧k≠1:=by
  apply z1dx
  have hn:¬ (48≤c.toNat∧c.toNat≤57):=by rw [← zbl,hd]; simp
  by_cases hc:c.toNat<128
  ·rw [zhb h hc]; simp only; omega
  ·have:=z183 h (by omega); omega
 obtain ⟨k,hk,hne⟩:=hk
 rw [z9n,z18e hi,hk]
 simp only [oB,zv]
 rw [c_not,c_eqF hne]; rfl
theorem digit_val {c:UInt8} (hd:digB c=true):IntKind.i64.wrap (IntKind.i32.wrap ((c.toNat:Int)-48))=(c.toNat:Int)-48:=by
 have:=(zbl c).1 hd
 rw [w32 (by omega) (by omega),w64 (by omega) (by omega)]
theorem limV_in {n:Int} (h:In64 n):limV n=.tuple [.int .i64 n,.int .i64 0]:=if_pos h
theorem z1c6 {n:Int} (h:¬ In64 n):limV n=.tuple [.int .i64 0,.int .i64 10]:=if_neg h
theorem z15u (s:List UInt8) (hs:Small s) (hne:s≠[]):∀ (r:List UInt8) (i:Nat) (n:Int) (o:Bool),s.drop i=r→0≤n→n≤9223372036854775807 →
  z76 s (bif o then 0 else n) (bif o then 10 else 0) s i=some (numG r n o)
 | [],i,n,o,h,h0,h1=>by
  have hi:=zyp h
  rw [z9n,z126 (by omega),zoi hne]
  cases o <;> rfl
 | c::r,i,n,o,h,h0,h1=>by
  obtain ⟨hi,hg,hr⟩:=zgu h
  cases hd:digB c with
  | false=>rw [wnum_bad hg hd]; simp only [numG,hd,cond_false]
  | true =>
   have hc:=(zbl c).1 hd
   have hcl:c.toNat<128:=by omega
   have ih:=z15u s hs hne r (i+1)
   rw [z9n,z18e hi,zhb hg hcl,z1dy (by omega)]
   simp only [oB,zv]
   rw [c_not,c_eqT rfl]
   have hover:z76 s 0 10 s (i+1)=some (numG r 0 true):=ih 0 true hr (by omega) (by omega)
   cases o with
   | true =>
    simp only [cond_true,numG,hd]
    rw [c_eqF (by omega),zet,c_eqF (by omega)]
    exact hover
   | false =>
    simp only [cond_false,cond_true,numG,hd]
    rw [c_eqT rfl,mul_s (by unfold In64; omega) (by unfold In64; omega)]
    simp only [oB]
    by_cases hm:n*10≤9223372036854775807
    ·rw [limV_in (by unfold In64; omega)]
     simp only [tn0,tn1,zv]
     rw [zet,c_eqT rfl,digit_val hd,add_s (by unfold In64; omega) (by unfold In64; omega)]
     simp only [oB]
     by_cases ha:10*n+((c.toNat:Int)-48)≤9223372036854775807
     ·rw [limV_in (by unfold In64; omega),c_leT ha]
      simp only [tn0,tn1,zv]
      rw [show n*10+((c.toNat:Int)-48)=10*n+((c.toNat:Int)-48) by omega]
      exact ih _ false hr (by omega) ha
     ·rw [z1c6 (by unfold In64; omega),c_leF ha]
      simp only [tn0,tn1,zv]
      exact hover
    ·rw [z1c6 (by unfold In64; omega),c_leF (by omega)]
     simp only [tn0,tn1,zv]
     rw [zet,c_eqF (by omega)]
     exact hover
theorem zps (s:List UInt8) (hs:Small s):zu s=some (numV s):=by
 rw [zzq]
 unfold numV
 by_cases h:s=[]
 ·subst h
  rw [z9n,z126 (by simp),zz1 rfl,zz1 rfl]; rfl
 ·rw [zoi h]
  exact z15u s hs h s 0 0 false rfl (by omega) (by omega)
end Dv

namespace Dv
open Go
theorem subS_n {α:Type} {s:List α} {a b:Nat} (h1:a≤b) (h2:b≤s.length):subS s (a:Int) (b:Int)=some ((s.drop a).take (b-a)):=by
 unfold subS
 rw [decide_eq_true (by omega)]
 simp
def blB (c:UInt8):Bool:=decide (c.toNat=32∨c.toNat=9∨c.toNat=10∨c.toNat=13)
def z47:List UInt8→List UInt8→List (List UInt8)
 | cur,[]=>if cur=[] then [] else [cur]
 | cur,c::r=>if blB c then (if cur=[] then z47 [] r else cur::z47 [] r) else z47 (cur++[c]) r
def z29 (s:List UInt8):List (List UInt8):=z47 [] s
theorem za3 {cur r:List UInt8} {c:UInt8} (h:blB c=true):z47 cur (c::r)=if cur=[] then z47 [] r else cur::z47 [] r:=by rw [z47,if_pos h]
theorem zkb {cur r:List UInt8} {c:UInt8} (h:blB c=false):z47 cur (c::r)=z47 (cur++[c]) r:=by rw [z47,if_neg (by rw [h]; simp)]
theorem zyu {s:List UInt8} {a i:Nat} (h2:i≤s.length):(s.drop a).take (i-a)=[]↔i≤a:=by
 rw [List.take_eq_nil_iff,List.drop_eq_nil_iff]; omega
theorem blank_s (c:Int):zl1 c=some (.bool (decide (c=32∨c=9∨c=10∨c=13))):=by
 rw [zxi]
 by_cases e1:c=32
 ·rw [c_eqT e1]; simp [e1]
 rw [c_eqF e1]
 by_cases e2:c=9
 ·rw [c_eqT e2]; simp [e2]
 rw [c_eqF e2]
 by_cases e3:c=10
 ·rw [c_eqT e3]; simp [e3]
 rw [c_eqF e3]
 unfold eqB; simp [e1,e2,e3]
abbrev blF:PV:=.func (.func z9k) [] []
theorem z128 (c:Int):callW EE [zq3] blF [.int .i32 c]=some (.bool (decide (c=32∨c=9∨c=10∨c=13))):=by
 have e:funTI EE z9k=[zq3]:=by kernel_rfl
 have h:=blank_s c
 unfold zl1 callF at h
 rw [e] at h
 exact h
theorem z1as (n b0 b1 b2 b3:Nat) (hn:1≤n):((Lib.decodeN n b0 b1 b2 b3).2=1)∨((Lib.decodeN n b0 b1 b2 b3).2=2∧2≤n∧128≤b1)∨((Lib.decodeN n b0 b1 b2 b3).2=3∧3≤n∧128≤b1∧128≤b2) ∨
  ((Lib.decodeN n b0 b1 b2 b3).2=4∧4≤n∧128≤b1∧128≤b2∧128≤b3):=by
 unfold Lib.decodeN
 split
 ·exact .inl rfl
 split
 ·rename_i h; split
  ·exact .inr (.inl ⟨rfl,by omega,by omega⟩)
  ·exact .inl rfl
 split
 ·rename_i h; split
  ·exact .inr (.inr (.inl ⟨rfl,by omega,by omega,by omega⟩))
  ·exact .inl rfl
 split
 ·rename_i h; split
  ·exact .inr (.inr (.inr ⟨rfl,by omega,by omega,by omega,by omega⟩))
  ·exact .inl rfl
 ·exact .inl rfl
theorem z1ed {s:List UInt8} {i:Nat} {c:UInt8} (h:s[i]?=some c) (hc:128≤c.toNat) :
  1≤(decR s i).2∧i+(decR s i).2≤s.length∧∀ d∈(s.drop i).take (decR s i).2,128≤d.toNat:=by
 have hi:i<s.length:=(List.getElem?_eq_some_iff.1 h).1
 have e:decR s i=Lib.decodeN (s.length-i) (s.getD i 0).toNat (s.getD (i+1) 0).toNat (s.getD (i+2) 0).toNat (s.getD (i+3) 0).toNat:=by
  unfold decR; exact Lib.decode_N ⟨s.toArray⟩ i
 have ha:=z1as (s.length-i) (s.getD i 0).toNat (s.getD (i+1) 0).toNat (s.getD (i+2) 0).toNat (s.getD (i+3) 0).toNat (by omega)
 rw [← e] at ha
 have h0:(s.getD i 0).toNat=c.toNat:=by rw [List.getD_eq_getElem?_getD,h]; rfl
 have key:∀ n,(decR s i).2=n→1≤n→n≤s.length-i→(∀ j,j<n→128≤(s.getD (i+j) 0).toNat)→1≤(decR s i).2∧i+(decR s i).2≤s.length∧∀ d∈(s.drop i).take (decR s i).2,128≤d.toNat:=by
  intro n hn h1 h2 h3
  rw [hn]
  refine ⟨h1,by omega,fun d hd=>?_⟩
  obtain ⟨j,hj⟩:=List.getElem?_of_mem hd
  have hjn:j<n:=by
   have:=(List.getElem?_eq_some_iff.1 hj).1
   simp at this; omega
  rw [List.getElem?_take_of_lt hjn,List.getElem?_drop] at hj
  have:=h3 j hjn
  rwa [List.getD_eq_getElem?_getD,hj] at this
 rcases ha with ha | ⟨ha,hb,h1⟩ | ⟨ha,hb,h1,h2⟩ | ⟨ha,hb,h1,h2,h3⟩
 ·refine key 1 ha (by omega) (by omega) (fun j hj=>?_)
  match j,hj with
  | 0,_=>rw [Nat.add_zero,h0]; exact hc
 ·refine key 2 ha (by omega) (by omega) (fun j hj=>?_)
  match j,hj with
  | 0,_=>rw [Nat.add_zero,h0]; exact hc
  | 1,_=>exact h1
 ·refine key 3 ha (by omega) (by omega) (fun j hj=>?_)
  match j,hj with
  | 0,_=>rw [Nat.add_zero,h0]; exact hc
  | 1,_=>exact h1
  | 2,_=>exact h2
 ·refine key 4 ha (by omega) (by omega) (fun j hj=>?_)
  match j,hj with
  | 0,_=>rw [Nat.add_zero,h0]; exact hc
  | 1,_=>exact h1
  | 2,_=>exact h2
  | 3,_=>exact h3
theorem blB_high {c:UInt8} (h:128≤c.toNat):blB c=false:=by
 unfold blB; rw [decide_eq_false]; omega
theorem zbm:∀ (l:List UInt8) (cur r:List UInt8),(∀ d∈l,blB d=false)→z47 cur (l++r)=z47 (cur++l) r
 | [],cur,r,_=>by simp
 | d::l,cur,r,h=>by
  show z47 cur (d::(l++r))=_
  rw [zkb (h d (by simp)),zbm l _ r (fun x hx=>h x (by simp [hx]))]
  simp
theorem step_rune {s r:List UInt8} {c:UInt8} {i:Nat} (h:s.drop i=c::r):(blB c=true∧decR s i=(c.toNat,1)) ∨
  (∃ n,(decR s i).2=n∧1≤n∧i+n≤s.length∧¬ ((decR s i).1=32∨(decR s i).1=9∨(decR s i).1=10∨(decR s i).1=13)∧(∀ d∈(s.drop i).take n,blB d=false)):=by
 obtain ⟨h1,h2,h3⟩:=zgu h
 by_cases hb:blB c=true
 ·left
  refine ⟨hb,zhb h2 ?_⟩
  unfold blB at hb
  have:=of_decide_eq_true hb
  omega
 ·right
  by_cases hc:c.toNat<128
  ·refine ⟨1,by rw [zhb h2 hc],Nat.le_refl _,by omega,?_,fun d hd=>?_⟩
   ·rw [zhb h2 hc]
    intro h'
    exact hb (decide_eq_true h')
   ·rw [h] at hd
    simp at hd
    subst hd
    cases hx:blB d
    ·rfl
    ·exact absurd hx hb
  ·obtain ⟨a1,a2,a3⟩:=z1ed h2 (by omega)
   obtain ⟨b1,_⟩:=z183 h2 (by omega)
   exact ⟨_,rfl,a1,a2,by omega,fun d hd=>blB_high (a3 d hd)⟩
def spV (p:Nat×Nat):PV:=.agg [.int .i64 p.1,.int .i64 p.2]
def spW (s:List UInt8) (p:Nat×Nat):List UInt8:=(s.drop p.1).take (p.2-p.1)
theorem spTI {l:List (Nat×Nat)} {k:Nat} {p:Nat×Nat} (h:l[k]?=some p):rdT (EE.ti z1c) (l.map spV) k 0=some (spV p):=by
 have e:EE.ti z1c=⟨(EE.ti z1c).d,2,16,(EE.ti z1c).zero,[.int .i64,.int .i64]⟩:=by kernel_rfl
 have ha:(EE.ti z1c).isAgg=true:=by kernel_rfl
 unfold rdT
 rw [List.getElem?_map,h]
 simp only [Option.map_some]
 have e1:(EE.ti z1c).size=2:=by rw [e]
 have e2:(EE.ti z1c).leaves=[.int .i64,.int .i64]:=by rw [e]
 rw [e1,e2,ha]
 rfl
theorem zse (s:List UInt8) (l:List (Nat×Nat)) (hl:l.length≤1000000000000) (hp:∀ p∈l,p.1≤p.2∧p.2≤s.length) (F:List UInt8→Int→Int→List PV→Nat→List PV→Option PV)
  (hF:∀ x1 x2 x3 x4 x5,F s x1 x2 x3 x4 x5=(bif (Dv.ltB x2 x1) then (bif (Dv.inB (0:Int) x2 (((List.length x5):Nat):Int)) then ((Dv.rdT (EE.ti z1c) x5 (Int.toNat x2) 0).bind fun v1=>((Dv.subS s (Dv.PV.toI (Dv.PV.nth v1 0)) (Dv.PV.toI (Dv.PV.nth v1 1))).bind fun v2=>(bif (Dv.inB (0:Int) x2 (((List.length x3):Nat):Int)) then ((Dv.stC x3 (Int.toNat x2) 0 [(Dv.PV.str v2)]).bind fun v3=>(F s x1 (Go.IntKind.wrap Go.IntKind.i64 (x2+(1:Int))) v3 x4 x5)) else none))) else none) else (some (Dv.PV.sl 1 x3)))) (cp:Nat) :
  ∀ (j k:Nat),k+j=l.length→F s (l.length:Int) (k:Int) ((l.take k).map (fun p=>PV.str (spW s p))++List.replicate j (.str [])) cp (l.map spV)=some (.sl 1 (l.map fun p=>PV.str (spW s p)))
 | 0,k,hk=>by
  rw [hF,c_ltF (by omega)]
  simp [show k=l.length by omega]
 | j+1,k,hk=>by
  have hlt:k<l.length:=by omega
  have hg:l[k]?=some l[k]:=List.getElem?_eq_getElem hlt
  have ih:=zse s l hl hp F hF cp j (k+1) (by omega)
  obtain ⟨p1,p2⟩:=hp l[k] (List.getElem_mem hlt)
  rw [hF,c_ltT (by omega),c_inT (by simp; omega)]
  rw [Int.toNat_natCast,spTI hg]
  simp only [oB]
  have e1:(PV.nth (spV l[k]) 0).toI=(l[k].1:Int):=rfl
  have e2:(PV.nth (spV l[k]) 1).toI=(l[k].2:Int):=rfl
  rw [e1,e2,subS_n p1 p2]
  simp only [oB]
  have hlen:((l.take k).map (fun p=>PV.str (spW s p))++List.replicate (j+1) (PV.str [])).length=l.length:=by simp; omega
  rw [c_inT (by rw [hlen]; omega)]
  have hst:stC ((l.take k).map (fun p=>PV.str (spW s p))++List.replicate (j+1) (PV.str [])) k 0 [.str ((s.drop l[k].1).take (l[k].2-l[k].1))]=some ((l.take (k+1)).map (fun p=>PV.str (spW s p))++List.replicate j (.str [])):=by
   have hk1:((l.take k).map (fun p=>PV.str (spW s p))).length=k:=by simp; omega
   unfold stC
   have:((l.take k).map (fun p=>PV.str (spW s p))++List.replicate (j+1) (PV.str []))[k]?=some (.str []):=by
    rw [List.getElem?_append_right (by omega),hk1,Nat.sub_self]; simp
   rw [this]
   simp only [oJ]
   rw [List.set_append_right _ _ (by omega),hk1,Nat.sub_self,List.replicate_succ,List.set_cons_zero]
   have ht:l.take (k+1)=l.take k++[l[k]]:=by rw [List.take_add_one,hg]; rfl
   rw [ht,List.map_append]
   simp [spW]
  rw [hst]
  simp only [oB]
  rw [w64 (by omega) (by omega),show ((k:Int)+1)=((k+1:Nat):Int) by omega]
  exact ih
termination_by j=>j
end Dv

namespace Dv
open Go
theorem extIBL:ze5 z6a EE.ext=some z5m:=by kernel_rfl
theorem extCB:ze5 zes EE.ext=some zjk:=by kernel_rfl
theorem z13d (s:List UInt8) (c:UInt8):z6g s (c.toNat:Int)=some (.int .i64 (Lib.indexByte s c)):=by
 rw [zc1,zyz EE _ _ _ extIBL]
 have e:z5m [.str s,.int .u8 (c.toNat:Int)]=some (.int .i64 (Lib.indexByte s c)):=by
  unfold z5m
  simp
 rw [e]; rfl
theorem z17i (s:List UInt8) (c:UInt8):Lib.indexByte s c<s.length:=by
 induction s with
 | nil=>simp [Lib.indexByte]
 | cons b s ih =>
  unfold Lib.indexByte
  split
  ·simp <;> omega
  ·split
   ·simp <;> omega
   ·simp <;> omega
def z3z (c:UInt8):List UInt8→List (List UInt8)
 | []=>[[]]
 | x::r=>if x=c then []::z3z c r else match z3z c r with
  | p::ps=>(x::p)::ps
  | []=>[[x]]
theorem zqa (c:UInt8) (s:List UInt8):z3z c s≠[]:=by
 cases s with
 | nil=>simp [z3z]
 | cons x r=>unfold z3z; split <;> (try split) <;> simp
theorem z19r {c:UInt8} {s:List UInt8} (h:Lib.indexByte s c=-1):z3z c s=[s]:=by
 induction s with
 | nil=>rfl
 | cons b s ih =>
  unfold Lib.indexByte at h
  split at h
  ·omega
  ·rename_i hb
   split at h
   ·rename_i hs
    have:=ih (by simpa using hs)
    unfold z3z
    rw [if_neg (by simpa using hb),this]
   ·have:=Lib.indexByte_ge s c
    simp at *
    omega
theorem z19q {c:UInt8} {s:List UInt8} {m:Nat} (h:Lib.indexByte s c=m):z3z c s=s.take m::z3z c (s.drop (m+1)):=by
 induction s generalizing m with
 | nil=>simp only [Lib.indexByte] at h; omega
 | cons b s ih =>
  unfold Lib.indexByte at h
  split at h
  ·rename_i hb
   have:m=0:=by omega
   subst this
   conv=>lhs; unfold z3z
   rw [if_pos (by simpa using hb)]; rfl
  ·rename_i hb
   split at h
   ·omega
   ·rename_i hne
    have hne:Lib.indexByte s c≠-1:=by simpa using hne
    have hge:=Lib.indexByte_ge s c
    obtain ⟨k,rfl⟩:∃ k,m=k+1:=⟨m-1,by omega⟩
    have:=ih (m:=k) (by omega)
    conv=>lhs; unfold z3z
    rw [if_neg (by simpa using hb),this]
    rfl
theorem z1de (c:UInt8) (s:List UInt8):(z3z c s).length=Lib.countByte s c+1:=by
 induction s with
 | nil=>rfl
 | cons x r ih =>
  unfold z3z Lib.countByte
  rw [List.count_cons]
  unfold Lib.countByte at ih
  split
  ·rename_i h
   simp [h,ih]
  ·rename_i h
   have hne:=zqa c r
   cases hs:z3z c r with
   | nil=>exact absurd hs hne
   | cons p ps =>
    rw [hs] at ih
    simp at ih ⊢
    simp [h,ih]
theorem zte (c:UInt8) (s:List UInt8):∀ p∈z3z c s,p.length≤s.length:=by
 induction s with
 | nil=>intro p hp; simp [z3z] at hp; simp [hp]
 | cons x r ih =>
  intro p hp
  unfold z3z at hp
  split at hp
  ·rcases List.mem_cons.1 hp with rfl | hp
   ·simp
   ·have:=ih p hp; simp; omega
  ·cases hs:z3z c r with
   | nil=>exact absurd hs (zqa c r)
   | cons q qs =>
    rw [hs] at hp ih
    rcases List.mem_cons.1 hp with rfl | hp
    ·have:=ih q (by simp); simp; omega
    ·have:=ih p (by simp [hp]); simp; omega
theorem stC_str {l:List PV} {i:Nat} {v:PV} (h:i<l.length) (hs:∀ p∈l,∃ t,p=.str t):stC l i 0 [v]=some (l.set i v):=by
 unfold stC
 rw [List.getElem?_eq_getElem h]
 obtain ⟨t,ht⟩:=hs l[i] (List.getElem_mem h)
 rw [ht]; rfl
theorem z1cd (s:List UInt8) (c:UInt8):zj9 s [c]=some (.int .i64 (Lib.indexByte s c)):=by
 rw [zux,z9x]
 have e1:(((List.length [c]:Nat)):Int)=1:=rfl
 rw [e1,c_eqF (by omega)]
 by_cases h:[c]=s
 ·rw [zz1 h,zdj,← h]
  simp [Lib.indexByte,PV.toI]
 ·rw [zoi h,z8k,c_eqT rfl,atS_z (c:=c) rfl]
  simp only [oB]
  rw [z13d]; rfl
theorem count1_s (s:List UInt8) (c:UInt8):zja s [c]=some (.int .i64 ((Lib.countByte s c:Nat):Int)):=by
 rw [zuy]
 have e1:(((List.length [c]:Nat)):Int)=1:=rfl
 rw [e1,c_eqF (by omega),c_eqT rfl,atS_z (c:=c) rfl]
 simp only [oB]
 rw [zyz EE _ _ _ extCB]
 have e:zjk [.str s,.int .u8 (c.toNat:Int)]=some (.int .i64 ((Lib.countByte s c:Nat):Int)):=by
  unfold zjk
  simp
 rw [e]; rfl
theorem z186 (s:List UInt8) (c:UInt8):Lib.countByte s c≤s.length:=List.count_le_length
theorem z10y (c:UInt8) (N:Nat) (hN:N≤100000000000) (x6:Nat):∀ (k:Nat) (s:List UInt8) (i:Nat) (l:List PV),(z3z c s).length=k→i+k=N→l.length=N→(∀ p∈l,∃ t,p=.str t)→s.length≤100000000000 →
  z7f s [c] 0 ((N:Int)-1) (i:Int) l x6=some (.sl 1 (l.take i++(z3z c s).map PV.str))
 | 0,s,i,l,hk,_,_,_,_=>absurd (List.eq_nil_of_length_eq_zero hk) (zqa c s)
 | k+1,s,i,l,hk,hi,hl,hs,hlen=>by
  have hcast:((i+1:Nat):Int)=(i:Int)+1:=by omega
  have hge:=Lib.indexByte_ge s c
  have hlt:=z17i s c
  have fin:∀ t,((stC l i 0 [PV.str t]).bind fun v=>bif (decide ((0:Int)≤IntKind.i64.wrap ((i:Int)+1)∧IntKind.i64.wrap ((i:Int)+1)≤((v.length:Nat):Int))) then
    some (PV.sl 1 (v.take (IntKind.i64.wrap ((i:Int)+1)).toNat)) else none)=some (.sl 1 (l.take i++[PV.str t])):=by
   intro t
   rw [stC_str (by omega) hs,w64 (by omega) (by omega)]
   simp only [oB,List.length_set]
   rw [decide_eq_true (by omega),cond_true]
   congr 2
   rw [← hcast,Int.toNat_natCast,List.take_succ_eq_append_getElem (by simp; omega),List.getElem_set_self]
   congr 1
   exact List.take_set_of_le (Nat.le_refl _)
  rw [zj8]
  by_cases hin:Lib.indexByte s c=-1
  ·rw [z19r hin]
   simp only [List.map_cons,List.map_nil]
   by_cases hlast:(i:Int)<(N:Int)-1
   ·rw [c_ltT hlast,z1cd]
    simp only [oB,zv]
    rw [hin,c_ltT (by omega),c_inT (by omega),Int.toNat_natCast]
    exact fin s
   ·rw [c_ltF hlast,c_inT (by omega),Int.toNat_natCast]
    exact fin s
  ·obtain ⟨m,hm⟩:=Int.eq_ofNat_of_zero_le (show 0≤Lib.indexByte s c by omega)
   have hsp:=z19q hm
   rw [hsp] at hk ⊢
   simp only [List.length_cons] at hk
   have hne:=List.length_pos_iff.2 (zqa c (s.drop (m+1)))
   have hml:m<s.length:=by omega
   have ih:=z10y c N hN x6 k (s.drop (m+1)) (i+1) (l.set i (.str (s.take m))) (by omega) (by omega) (by simpa using hl) (by
    intro p hp
    rcases List.mem_or_eq_of_mem_set hp with h | h
    ·exact hs p h
    ·exact ⟨_,h⟩) (by simp; omega)
   rw [c_ltT (by omega),z1cd]
   simp only [oB,zv]
   have e1:(((List.length [c]:Nat)):Int)=1:=rfl
   rw [hm,c_ltF (by omega),w64 (n:=(m:Int)+0) (by omega) (by omega),Int.add_zero,z130 (by omega)]
   simp only [oB]
   rw [c_inT (by omega),Int.toNat_natCast,stC_str (by omega) hs]
   simp only [oB]
   rw [e1,w64 (n:=(m:Int)+1) (by omega) (by omega),show ((m:Int)+1)=((m+1:Nat):Int) by omega,z1ar (by omega)]
   simp only [oB]
   rw [w64 (n:=(i:Int)+1) (by omega) (by omega),← hcast,ih]
   congr 2
   rw [List.take_succ_eq_append_getElem (by simp; omega),List.getElem_set_self,List.take_set_of_le (Nat.le_refl _)]
   simp
theorem split_s (s:List UInt8) (c:UInt8) (hs:s.length≤10000000000):zgh s [c]=some (.sl 1 ((z3z c s).map PV.str)):=by
 have hc:=z186 s c
 have hl:=z1de c s
 rw [zuw,zok,c_eqF (by omega),zoi (by simp),c_ltT (by omega),count1_s]
 simp only [oB,zv]
 rw [zk8,w64 (n:=((Lib.countByte s c:Nat):Int)+1) (by omega) (by omega),w64 (n:=((s.length:Nat):Int)+1) (by omega) (by omega)]
 have hmin:minI (((Lib.countByte s c:Nat):Int)+1) (((s.length:Nat):Int)+1)=(((z3z c s).length:Nat):Int):=by
  unfold minI
  rw [hl]
  by_cases h:((s.length:Nat):Int)+1<((Lib.countByte s c:Nat):Int)+1
  ·omega
  ·rw [decide_eq_false h,cond_false]; omega
 rw [hmin]
 have hp:(HPow.hPow (2:Int) 46:Int)=70368744177664:=by decide
 rw [hp,decide_eq_true (by omega),cond_true,w64 (by omega) (by omega),Int.toNat_natCast]
 have:=z10y c (z3z c s).length (by omega) (z3z c s).length (z3z c s).length s 0 (List.replicate (z3z c s).length (.str [])) rfl (by omega) (by simp) (by intro p hp; exact ⟨[],(List.mem_replicate.1 hp).2⟩) (by omega)
 simp only [List.take_zero,List.nil_append] at this
 rw [show ((0:Nat):Int)=0 from rfl] at this
 rw [this]
 rfl
end Dv

namespace Dv
open Go
def numN (s:List UInt8):Int:=((numV s).tnth 0).toI
def numE (s:List UInt8):Int:=((numV s).tnth 1).toI
def okSh (s:List UInt8):Bool:=eqB (numE s) 0&&leB ((s.length:Nat):Int) 2
def shortN (s:List UInt8):Int:=if okSh s then numN s else -1
theorem zqp:∀ (r:List UInt8) (n:Int) (o:Bool),∃ a b,numG r n o=.tuple [.int .i64 a,.int .i64 b]
 | [],n,o=>by cases o <;> exact ⟨_,_,rfl⟩
 | c::r,n,o=>by
  simp only [numG]
  cases digB c with
  | false=>exact ⟨_,_,rfl⟩
  | true =>
   cases o with
   | true=>exact zqp r 0 true
   | false=>cases leB (10*n+((c.toNat:Int)-48)) 9223372036854775807 with
    | true=>exact zqp r _ false
    | false=>exact zqp r 0 true
theorem z174 (s:List UInt8):numV s=.tuple [.int .i64 (numN s),.int .i64 (numE s)]:=by
 have:∃ a b,numV s=.tuple [.int .i64 a,.int .i64 b]:=by
  unfold numV
  cases eqS s [] with
  | true=>exact ⟨_,_,rfl⟩
  | false=>exact zqp s 0 false
 obtain ⟨a,b,h⟩:=this
 unfold numN numE
 rw [h]; rfl
theorem numG_bad {c:UInt8} {r:List UInt8} {n:Int} {o:Bool} (hd:digB c=false):numG (c::r) n o=badV:=by
 simp only [numG,hd,cond_false]
theorem zvy {x:UInt8} (hx:digB x=false):∀ (r:List UInt8) (n:Int) (o:Bool),x∈r→numG r n o=badV
 | [],_,_,h=>by simp at h
 | c::r,n,o,h=>by
  cases hd:digB c with
  | false=>exact numG_bad hd
  | true =>
   have hm:x∈r:=by
    rcases List.mem_cons.1 h with rfl | h
    ·rw [hx] at hd; cases hd
    ·exact h
   simp only [numG,hd,cond_true]
   cases o with
   | true=>exact zvy hx r 0 true hm
   | false =>
    simp only [cond_false]
    cases leB (10*n+((c.toNat:Int)-48)) 9223372036854775807 with
    | true=>exact zvy hx r _ false hm
    | false=>exact zvy hx r 0 true hm
def okMS (t:List UInt8):Bool:=okSh t&&(eqB ((t.length:Nat):Int) 2&&ltB (numN t) 60)
def allOk:List (List UInt8)→Bool
 | []=>true
 | t::r=>okMS t&&allOk r
def accN:Int→Int→List (List UInt8)→Int
 | n,_,[]=>n
 | n,u,t::r=>accN (IntKind.i64.wrap (n+IntKind.i64.wrap (numN t*u))) (IntKind.i64.wrap (u.tdiv 60)) r
def okSec (l:List (List UInt8)):Bool :=
 match l with
 | h::r=>okSh h&&allOk r&&leB (((h::r).length:Nat):Int) 3
 | []=>false
def secN (l:List (List UInt8)):Int :=
 match l with
 | h::r=>accN (IntKind.i64.wrap (numN h*3600)) 60 r
 | []=>0
def secI (l:List (List UInt8)):Int:=if okSec l then secN l else -1
end Dv

namespace Dv
open Go
def glue (p:List UInt8):List (List UInt8)→List (List UInt8)
 | q::qs=>(p++q)::qs
 | []=>[p]
end Dv

namespace Dv
open Go
abbrev Sm (s:List UInt8):Prop:=s.length≤10000000000
theorem Sm.small {s:List UInt8} (h:Sm s):Small s:=by unfold Small; have:s.length≤10000000000:=h; omega
def dgs (s:List UInt8) (lo hi:Int):Bool:=leB lo (s.length:Int)&&(leB (s.length:Int) hi&&s.all digB)
theorem zvz:∀ (r:List UInt8) (n:Int) (o:Bool),r.all digB=true→((numG r n o).tnth 1).toI≠13
 | [],n,o,_=>by cases o <;> simp [numG,PV.tnth,nthD,PV.toI]
 | c::r,n,o,h=>by
  simp only [List.all_cons,Bool.and_eq_true] at h
  simp only [numG,h.1,cond_true]
  cases o with
  | true=>exact zvz r 0 true h.2
  | false =>
   cases leB (10*n+((c.toNat:Int)-48)) 9223372036854775807 with
   | true=>exact zvz r _ false h.2
   | false=>exact zvz r 0 true h.2
theorem z1bs {s:List UInt8} (hne:s≠[]):numE s=13↔s.all digB=false:=by
 have e:numV s=numG s 0 false:=by unfold numV; rw [zoi hne]
 constructor
 ·intro h
  cases ha:s.all digB with
  | false=>rfl
  | true=>exact absurd (by unfold numE at h; rw [e] at h; exact h) (zvz s 0 false ha)
 ·intro h
  rw [List.all_eq_false] at h
  obtain ⟨x,hx,hd⟩:=h
  have hd:digB x=false:=by cases hh:digB x <;> simp_all
  unfold numE
  rw [e,zvy hd s 0 false hx]; rfl
theorem zi6 (s:List UInt8) (hs:Sm s) {lo:Int} (hl:1≤lo) (hi:Int):z5c s lo hi=some (.bool (dgs s lo hi)):=by
 rw [z109,zps s hs.small]
 simp only [oB]
 rw [z174]
 simp only [tn1,zv]
 unfold dgs
 by_cases h1:lo≤(s.length:Int)
 ·have hne:s≠[]:=by rintro rfl; simp at h1; omega
  have e1:leB lo (s.length:Int)=true:=decide_eq_true h1
  rw [c_leT h1,e1]
  cases ha:s.all digB with
  | true =>
   rw [c_not,c_eqF (by rw [z1bs hne,ha]; simp)]
   simp
  | false =>
   rw [c_not,c_eqT ((z1bs hne).2 ha)]
   simp
 ·have e1:leB lo (s.length:Int)=false:=decide_eq_false h1
  rw [c_leF h1,e1]
  cases (!eqB (numE s) 13) <;> rfl
theorem zkd (s:List UInt8) (hs:Sm s):z79 s=some (.int .i64 (numN s)):=by
 rw [z108,zps s hs.small,z174]; rfl
def yearO (s:List UInt8):Int :=
 if dgs s 3 6 then numN s else if dgs s 1 2 then (if numN s<70 then IntKind.i64.wrap (2000+numN s) else IntKind.i64.wrap (1900+numN s)) else 0
def monNames:List (List UInt8):=[[74,97,110,117,97,114,121],[70,101,98,114,117,97,114,121],[77,97,114,99,104],[65,112,114,105,108],[77,97,121],[74,117,110,101],[74,117,108,121],[65,117,103,117,115,116],[83,101,112,116,101,109,98,101,114],[79,99,116,111,98,101,114],[78,111,118,101,109,98,101,114],[68,101,99,101,109,98,101,114]]
def monI (s:List UInt8):Int:=shortI s monNames+1
theorem rd0 {a:List UInt8} {l:List (List UInt8)}:rdI tiStr ((a::l).map PV.str) 0=some (.str a):=rfl
def monB (a b:List UInt8):Bool:=ltB 0 (monI a)||ltB 0 (monI b)
end Dv

namespace Dv
open Go
theorem z195 {a:Int} (h0:0≤a) (h1:a≤1000000000000):xorI .i64 (-1) a<0:=by
 show IntKind.i64.wrap ((BitVec.ofInt 64 (-1) ^^^ BitVec.ofInt 64 a).toNat:Int)<0
 have e1:BitVec.ofInt 64 (-1)=BitVec.allOnes 64:=by decide
 have e3:(BitVec.ofInt 64 a).toNat=a.toNat:=by
  rw [BitVec.toNat_ofInt]; omega
 rw [e1,BitVec.allOnes_xor,BitVec.toNat_not,e3,IntKind.wrap_i64]
 omega
theorem fin1 (s:List UInt8) (sp:List (Nat×Nat)) (hl:sp.length≤1000000000000) (hp:∀ p∈sp,p.1≤p.2∧p.2≤s.length) :
  z33 s (sp.map spV)=some (.sl 1 ((sp.map (spW s)).map PV.str)):=by
 rw [zh0,decide_eq_true (by simp; omega),cond_true]
 have h:=zse s sp hl hp (fun s a b c d e=>z59 s a b c d e) (fun x1 x2 x3 x4 x5=>zgz s x1 x2 x3 x4 x5) sp.length sp.length 0 (by omega)
 simp only [List.take_zero,List.map_nil,List.nil_append] at h
 rw [List.length_map,Int.toNat_natCast]
 rw [show ((0:Int))=((0:Nat):Int) from rfl,h]
 simp [Function.comp_def]
theorem fin0 (s:List UInt8) (sp:List (Nat×Nat)) (hl:sp.length≤1000000000000) (hp:∀ p∈sp,p.1≤p.2∧p.2≤s.length) (cp:Nat) :
  z5u s (sp.map spV) cp=some (.sl 1 ((sp.map (spW s)).map PV.str)):=by
 rw [zi8,decide_eq_true (by simp; omega),cond_true]
 have h:=zse s sp hl hp (fun s a b c d e=>z5t s a b c d e cp) (fun x1 x2 x3 x4 x5=>zi7 s x1 x2 x3 x4 x5 cp) sp.length sp.length 0 (by omega)
 simp only [List.take_zero,List.map_nil,List.nil_append] at h
 rw [List.length_map,Int.toNat_natCast]
 rw [show ((0:Int))=((0:Nat):Int) from rfl,h]
 simp [Function.comp_def]
def StOk (s:List UInt8) (i:Nat) (x2:Int) (cur:List UInt8):Prop:=(x2<0∧cur=[])∨∃ a:Nat,x2=(a:Int)∧a<i∧cur=(s.drop a).take (i-a)
theorem cur_app {s:List UInt8} {a i n:Nat} (ha:a≤i) (hn:i+n≤s.length):(s.drop a).take (i-a)++(s.drop i).take n=(s.drop a).take (i+n-a):=by
 rw [show i+n-a=(i-a)+n by omega,List.take_add,List.drop_drop,show a+(i-a)=i by omega]
theorem ff_loop1 (s:List UInt8) (hs:Sm s):∀ (m i:Nat) (x2:Int) (sp:List (Nat×Nat)) (cur:List UInt8),s.length-i≤m→i≤s.length→sp.length≤i→(∀ p∈sp,p.1≤p.2∧p.2≤s.length)→StOk s i x2 cur →
  z21 s blF x2 (sp.map spV) s i=some (.sl 1 ((sp.map (spW s)++z47 cur (s.drop i)).map PV.str)):=by
 have hsl:s.length≤10000000000:=hs
 intro m
 induction m with
 | zero =>
  intro i x2 sp cur hm hi hsp hp hst
  obtain rfl:i=s.length:=by omega
  rw [z69,z126 (by omega),List.drop_length]
  rcases hst with ⟨h1,rfl⟩ | ⟨a,rfl,h1,h2⟩
  ·rw [c_leF (by omega),fin1 s sp (by omega) hp]
   simp [z47]
  ·have hne:cur≠[]:=by rw [h2,Ne,zyu (Nat.le_refl _)]; omega
   rw [c_leT (by omega),zig (by simp; omega)]
   simp only [oB]
   have e:sp.map spV++[PV.agg [PV.int .i64 (a:Int),PV.int .i64 ((s.length:Nat):Int)]]=(sp++[(a,s.length)]).map spV:=by simp [spV]
   rw [e,fin1 s _ (by simp; omega) (by intro p hpm; rcases List.mem_append.1 hpm with h | h; exact hp p h; simp at h; subst h; exact ⟨by omega,Nat.le_refl _⟩)]
   have ew:z47 cur []=[cur]:=by rw [z47,if_neg hne]
   have e3:spW s (a,s.length)=cur:=h2.symm
   simp [ew,e3]
 | succ m ih =>
  intro i x2 sp cur hm hi hsp hp hst
  by_cases hend:i=s.length
  ·exact (by
    subst hend
    rw [z69,z126 (by omega),List.drop_length]
    rcases hst with ⟨h1,rfl⟩ | ⟨a,rfl,h1,h2⟩
    ·rw [c_leF (by omega),fin1 s sp (by omega) hp]
     simp [z47]
    ·have hne:cur≠[]:=by rw [h2,Ne,zyu (Nat.le_refl _)]; omega
     rw [c_leT (by omega),zig (by simp; omega)]
     simp only [oB]
     have e:sp.map spV++[PV.agg [PV.int .i64 (a:Int),PV.int .i64 ((s.length:Nat):Int)]]=(sp++[(a,s.length)]).map spV:=by simp [spV]
     rw [e,fin1 s _ (by simp; omega) (by intro p hpm; rcases List.mem_append.1 hpm with h | h; exact hp p h; simp at h; subst h; exact ⟨by omega,Nat.le_refl _⟩)]
     have ew:z47 cur []=[cur]:=by rw [z47,if_neg hne]
     have e3:spW s (a,s.length)=cur:=h2.symm
     simp [ew,e3])
  ·have hlt:i<s.length:=by omega
   obtain ⟨c,r,hr⟩:∃ c r,s.drop i=c::r:=⟨_,_,List.drop_eq_getElem_cons hlt⟩
   obtain ⟨_,h2,h3⟩:=zgu hr
   rw [z69,z18e hlt,z128]
   simp only [oB,z16]
   rcases step_rune hr with ⟨hb,hd⟩ | ⟨n,hn,hn1,hn2,hno,hall⟩
   ·have hb':=of_decide_eq_true hb
    rw [decide_eq_true (by rw [hd]; simp only; omega),cond_true,hd]
    simp only
    rcases hst with ⟨h1,rfl⟩ | ⟨a,rfl,h1,hcur⟩
    ·rw [c_leF (by omega),ih (i+1) x2 sp [] (by omega) (by omega) (by omega) hp (.inl ⟨h1,rfl⟩),h3,hr,za3 hb,if_pos rfl]
    ·have hne:cur≠[]:=by rw [hcur,Ne,zyu (by omega)]; omega
     rw [c_leT (by omega),zig (by simp; omega)]
     simp only [oB]
     have e:sp.map spV++[PV.agg [PV.int .i64 (a:Int),PV.int .i64 ((i:Nat):Int)]]=(sp++[(a,i)]).map spV:=by simp [spV]
     rw [e,ih (i+1) _ _ [] (by omega) (by omega) (by simp; omega) (by intro p hpm; rcases List.mem_append.1 hpm with h | h; exact hp p h; simp at h; subst h; exact ⟨by omega,by omega⟩) (.inl ⟨z195 (by omega) (by omega),rfl⟩)]
     rw [h3,hr,za3 hb,if_neg hne]
     simp [spW,hcur]
   ·rw [decide_eq_false (by omega),cond_false]
    rw [hn]
    have hsplit:s.drop i=(s.drop i).take n++s.drop (i+n):=by
     rw [← List.drop_drop,List.take_append_drop]
    rcases hst with ⟨h1,rfl⟩ | ⟨a,rfl,h1,hcur⟩
    ·rw [c_ltT h1,ih (i+n) (i:Int) sp ((s.drop i).take n) (by omega) hn2 (by omega) hp (.inr ⟨i,rfl,by omega,by rw [show i+n-i=n by omega]⟩)]
     conv=>rhs; rw [hsplit]
     rw [zbm _ _ _ hall]; simp
    ·rw [c_ltF (by omega),ih (i+n) (a:Int) sp (cur++(s.drop i).take n) (by omega) hn2 (by omega) hp (.inr ⟨a,rfl,by omega,by rw [hcur,cur_app (by omega) hn2]⟩)]
     conv=>rhs; rw [hsplit]
     rw [zbm _ _ _ hall]
theorem ff_loop (s:List UInt8) (hs:Sm s) (cp:Nat):∀ (m i:Nat) (x2:Int) (sp:List (Nat×Nat)) (cur:List UInt8),s.length-i≤m→i≤s.length→sp.length≤i→(∀ p∈sp,p.1≤p.2∧p.2≤s.length)→StOk s i x2 cur →
  z1z s blF x2 (sp.map spV) cp s i=some (.sl 1 ((sp.map (spW s)++z47 cur (s.drop i)).map PV.str)):=by
 have hsl:s.length≤10000000000:=hs
 have done:∀ (x2:Int) (sp:List (Nat×Nat)) (cur:List UInt8),sp.length≤s.length→(∀ p∈sp,p.1≤p.2∧p.2≤s.length)→StOk s s.length x2 cur →
   z1z s blF x2 (sp.map spV) cp s s.length=some (.sl 1 ((sp.map (spW s)++z47 cur (s.drop s.length)).map PV.str)):=by
  intro x2 sp cur hsp hp hst
  rw [zc2,z126 (by omega),List.drop_length]
  rcases hst with ⟨h1,rfl⟩ | ⟨a,rfl,h1,h2⟩
  ·rw [c_leF (by omega),fin0 s sp (by omega) hp]
   simp [z47]
  ·have hne:cur≠[]:=by rw [h2,Ne,zyu (Nat.le_refl _)]; omega
   rw [c_leT (by omega),zig (by simp; omega)]
   simp only [oB]
   have e:sp.map spV++[PV.agg [PV.int .i64 (a:Int),PV.int .i64 ((s.length:Nat):Int)]]=(sp++[(a,s.length)]).map spV:=by simp [spV]
   have hp':∀ p∈sp++[(a,s.length)],p.1≤p.2∧p.2≤s.length:=by
    intro p hpm; rcases List.mem_append.1 hpm with h | h
    ·exact hp p h
    ·simp at h; subst h; exact ⟨by omega,Nat.le_refl _⟩
   rw [e,fin0 s _ (by simp; omega) hp',fin1 s _ (by simp; omega) hp']
   have ew:z47 cur []=[cur]:=by rw [z47,if_neg hne]
   have e3:spW s (a,s.length)=cur:=h2.symm
   cases leN ((sp++[(a,s.length)]).map spV).length cp <;> simp [ew,e3]
 intro m
 induction m with
 | zero =>
  intro i x2 sp cur hm hi hsp hp hst
  obtain rfl:i=s.length:=by omega
  exact done x2 sp cur hsp hp hst
 | succ m ih =>
  intro i x2 sp cur hm hi hsp hp hst
  by_cases hend:i=s.length
  ·subst hend; exact done x2 sp cur hsp hp hst
  ·have hlt:i<s.length:=by omega
   obtain ⟨c,r,hr⟩:∃ c r,s.drop i=c::r:=⟨_,_,List.drop_eq_getElem_cons hlt⟩
   obtain ⟨_,h2,h3⟩:=zgu hr
   rw [zc2,z18e hlt,z128]
   simp only [oB,z16]
   rcases step_rune hr with ⟨hb,hd⟩ | ⟨n,hn,hn1,hn2,hno,hall⟩
   ·have hb':=of_decide_eq_true hb
    rw [decide_eq_true (by rw [hd]; simp only; omega),cond_true,hd]
    simp only
    rcases hst with ⟨h1,rfl⟩ | ⟨a,rfl,h1,hcur⟩
    ·rw [c_leF (by omega),ih (i+1) x2 sp [] (by omega) (by omega) (by omega) hp (.inl ⟨h1,rfl⟩),h3,hr,za3 hb,if_pos rfl]
    ·have hne:cur≠[]:=by rw [hcur,Ne,zyu (by omega)]; omega
     rw [c_leT (by omega),zig (by simp; omega)]
     simp only [oB]
     have e:sp.map spV++[PV.agg [PV.int .i64 (a:Int),PV.int .i64 ((i:Nat):Int)]]=(sp++[(a,i)]).map spV:=by simp [spV]
     have hp':∀ p∈sp++[(a,i)],p.1≤p.2∧p.2≤s.length:=by
      intro p hpm; rcases List.mem_append.1 hpm with h | h
      ·exact hp p h
      ·simp at h; subst h; exact ⟨by omega,by omega⟩
     rw [e,ih (i+1) _ _ [] (by omega) (by omega) (by simp; omega) hp' (.inl ⟨z195 (by omega) (by omega),rfl⟩),
      ff_loop1 s hs m (i+1) _ _ [] (by omega) (by omega) (by simp; omega) hp' (.inl ⟨z195 (by omega) (by omega),rfl⟩)]
     rw [h3,hr,za3 hb,if_neg hne]
     cases leN ((sp++[(a,i)]).map spV).length cp <;> simp [spW,hcur]
   ·rw [decide_eq_false (by omega),cond_false]
    rw [hn]
    have hsplit:s.drop i=(s.drop i).take n++s.drop (i+n):=by
     rw [← List.drop_drop,List.take_append_drop]
    rcases hst with ⟨h1,rfl⟩ | ⟨a,rfl,h1,hcur⟩
    ·rw [c_ltT h1,ih (i+n) (i:Int) sp ((s.drop i).take n) (by omega) hn2 (by omega) hp (.inr ⟨i,rfl,by omega,by rw [show i+n-i=n by omega]⟩)]
     conv=>rhs; rw [hsplit]
     rw [zbm _ _ _ hall]; simp
    ·rw [c_ltF (by omega),ih (i+n) (a:Int) sp (cur++(s.drop i).take n) (by omega) hn2 (by omega) hp (.inr ⟨a,rfl,by omega,by rw [hcur,cur_app (by omega) hn2]⟩)]
     conv=>rhs; rw [hsplit]
     rw [zbm _ _ _ hall]
theorem z1b1 (s:List UInt8) (hs:Sm s):zsi s=some (.sl 1 ((z29 s).map PV.str)):=by
 rw [z13k,zkr]
 have h:=ff_loop s hs 32 s.length 0 (-1) [] [] (by omega) (Nat.zero_le _) (Nat.le_refl _) (by simp) (.inl ⟨by omega,rfl⟩)
 simp only [List.map_nil,List.nil_append,List.drop_zero] at h
 have e:(okOther blF&&true)=true:=rfl
 rw [e,cond_true,h]
 rfl
end Dv

namespace Dv
open Go
abbrev DateO:=Option (Int×Int×Int)
def tupO:DateO→Int→Int→Int→PV
 | some (y,m,d),_,_,_=>.tuple [.agg [.int .i64 y,.int .i64 m,.int .i64 d],.bool true]
 | none,y,m,d=>.tuple [.agg [.int .i64 y,.int .i64 m,.int .i64 d],.bool false]
def IsW (v:PV) (o:DateO):Prop:=∃ y m d,v=tupO o y m d
def IsR (v:PV) (o:DateO):Prop:=match o with
 | some (y,m,d)=>v=.agg [.int .i64 y,.int .i64 m,.int .i64 d,.bool true]
 | none=>∃ y m d,v=.agg [.int .i64 y,.int .i64 m,.int .i64 d,.bool false]
def namO (a b c:List UInt8):DateO :=
 if 0<monI a then (if dgs b 1 2&&dgs c 3 6 then some (numN c,monI a,numN b) else none)
 else if 0<monI b then
  (if dgs a 3 6 then (if dgs c 1 2&&dgs a 3 6 then some (numN a,monI b,numN c) else none)
   else (if dgs a 1 2&&dgs c 3 6 then some (numN c,monI b,numN a) else none))
 else none
def grpO (y m d:List UInt8):DateO:=if dgs m 1 2&&(dgs d 1 2&&dgs y 1 6) then some (yearO y,numN m,numN d) else none
def threeO (a b c:List UInt8) (o:Int):DateO:=if dgs a 3 6||eqB o 0 then grpO a b c else if eqB o 1 then grpO c b a else grpO c a b
def signO (s:List UInt8) (o:Int):List UInt8→DateO
 | []=>none
 | g::gs=>match z3z g s with
  | [a,b,c]=>if (g == 45&&monB a b)=true then namO a b c else threeO a b c o
  | _=>signO s o gs
def plainO (s:List UInt8) (o:Int):DateO:=if dgs s 8 8 then some (numN (s.take 4),numN ((s.drop 4).take 2),numN (s.drop 6)) else signO s o [45,47,46]
end Dv

namespace Dv
open Go
def takeR (bc:Bool):DateO→DateO
 | none=>none
 | some (y,m,d)=>if y=0∨m<1∨12<m then none else
  if 1≤d∧d≤lenI (if bc then IntKind.i64.wrap (1-y) else y) m then some (if bc then IntKind.i64.wrap (1-y) else y,m,d) else none
def z1cf (l:List (List UInt8)) (o:Int):DateO×List (List UInt8) :=
 match l with
 | []=>(none,[])
 | [a]=>(plainO a o,[])
 | [a,b]=>(plainO a o,[b])
 | a::b::c::r=>if monB a b then (namO a b c,r) else (plainO a o,b::c::r)
def dateV (t:DateO) (r:List (List UInt8)):PV:=match t with
 | some (y,m,d)=>.tuple [.int .i64 y,.int .i64 m,.int .i64 d,.sl 1 (r.map PV.str),.bool true]
 | none=>.tuple [.int .i64 0,.int .i64 0,.int .i64 0,.sl 0 [],.bool false]
def OkD (t:DateO) (ok:Bool) (y m d:Int):Prop:=t=if ok then some (y,m,d) else none
end Dv

namespace Dv
open Go
end Dv

namespace Dv
open Go
end Dv


namespace Dv
open Go
def okD (y m d:Int):Prop:=1≤m∧m≤12∧1≤d∧d≤lenI y m
end Dv

namespace Dv
open Go
def canB (n:Int):Bool:=decide (-2453698≤n∧n≤106754173)
end Dv

namespace Dv
open Go
theorem zih:∀ (r cur:List UInt8) (n:Nat),cur.length+r.length≤n→∀ p∈z47 cur r,p.length≤n
 | [],cur,n,h,p,hp=>by
  unfold z47 at hp
  split at hp
  ·cases hp
  ·simp at hp; subst hp; simpa using h
 | c::r,cur,n,h,p,hp=>by
  simp only [List.length_cons] at h
  cases hb:blB c with
  | true =>
   rw [za3 hb] at hp
   split at hp
   ·exact zih r [] n (by simp; omega) p hp
   ·rcases List.mem_cons.1 hp with rfl | hp
    ·omega
    ·exact zih r [] n (by simp; omega) p hp
  | false =>
   rw [zkb hb] at hp
   exact zih r (cur++[c]) n (by simp; omega) p hp
theorem z12d {s:List UInt8} (hs:Sm s):∀ p∈z29 s,Sm p:=fun p hp=>zih s [] 10000000000 (by simpa using hs) p hp
theorem zrv:∀ (r cur:List UInt8),(z47 cur r).length≤r.length+1
 | [],cur=>by unfold z47; split <;> simp
 | c::r,cur=>by
  cases hb:blB c with
  | true =>
   rw [za3 hb]
   have:=zrv r []
   split <;> simp <;> omega
  | false =>
   rw [zkb hb]
   have:=zrv r (cur++[c])
   simp; omega
def infB:List UInt8:=[105,110,102,105,110,105,116,121]
def ninfB:List UInt8:=[45,105,110,102,105,110,105,116,121]
def epB:List UInt8:=[101,112,111,99,104]
def spcI:List (List UInt8)→Int
 | [a]=>bif eqS (lowS a) infB then 1 else bif eqS (lowS a) ninfB then -1 else bif eqS (lowS a) epB then 2 else 0
 | _=>0
theorem spc1 (a:List UInt8):spcI [a]=bif eqS (lowS a) infB then 1 else bif eqS (lowS a) ninfB then -1 else bif eqS (lowS a) epB then 2 else 0:=rfl
def spcV (k:Int):PV:=.tuple [.agg [.int .i64 (bif eqB k 2 then 0 else k),.int .i64 (bif eqB k 2 then -10957 else 0)],.bool (!eqB k 0)]
theorem notone {l:List (List UInt8)} (h:l.length≠1):spcI l=0:=by
 match l,h with
 | [],_=>rfl
 | [a],h=>simp at h
 | _::_::_,_=>rfl
theorem z10l (l:List (List UInt8)) (hl:∀ p∈l,Sm p):zl2 (l.map PV.str)=some (spcV (spcI l)):=by
 rw [zxl]
 by_cases h:l.length=1
 ·obtain ⟨a,rfl⟩:∃ a,l=[a]:=by
   match l,h with
   | [a],_=>exact ⟨a,rfl⟩
  have ha:=hl a (by simp)
  rw [c_not,c_eqT (by simp),rd0]
  simp only [oB,zq]
  rw [zwp a ha.small]
  simp only [oB,zq]
  rw [spc1]
  unfold spcV
  change (bif eqS (lowS a) infB then _ else bif eqS (lowS a) ninfB then _ else bif eqS (lowS a) epB then _ else _)=_
  cases h1:eqS (lowS a) infB with
  | true=>rfl
  | false =>
   rw [cond_false]
   cases h2:eqS (lowS a) ninfB with
   | true=>rfl
   | false =>
    rw [cond_false]
    cases h3:eqS (lowS a) epB with
    | true=>rfl
    | false=>rfl
 ·rw [c_not,c_eqF (by simp; omega),notone h]
  rfl
def eraO (l:List (List UInt8)):List (List UInt8)×Bool :=
 if l.length≤1 then (l,false) else match l.getLast? with
  | some x=>if eqS (lowS x) [98,99] then (l.dropLast,true) else if eqS (lowS x) [97,100] then (l.dropLast,false) else (l,false)
  | none=>(l,false)
end Dv

namespace Dv
open Go
def dgt (c:UInt8):Int:=(c.toNat:Int)-48
def runD:List UInt8→List UInt8×List UInt8
 | []=>([],[])
 | c::r=>if digB c then (c::(runD r).1,(runD r).2) else ([],c::r)
def valD (n:Int):List UInt8→Int
 | []=>n
 | c::r=>valD (10*n+dgt c) r
theorem dgt_rng {c:UInt8} (h:digB c=true):0≤dgt c∧dgt c≤9:=by
 have:=(zbl c).1 h
 unfold dgt; omega
theorem z1b4:∀ (ds:List UInt8) (n:Int) (k:Nat),0≤n→n<10 ^ k→(∀ c∈ds,digB c=true)→0≤valD n ds∧valD n ds<10 ^ (k+ds.length)
 | [],n,k,h0,h1,_=>⟨h0,by simpa [valD] using h1⟩
 | c::r,n,k,h0,h1,hd=>by
  have hc:=dgt_rng (hd c (by simp))
  have:=z1b4 r (10*n+dgt c) (k+1) (by omega) (by rw [Int.pow_succ]; omega) (fun x hx=>hd x (by simp [hx]))
  simp only [valD,List.length_cons]
  rw [show k+(r.length+1)=k+1+r.length by omega]
  exact this
def scanK (most:Nat) (s:List UInt8):List UInt8×List UInt8:=((runD s).1.take most,(runD s).1.drop most++(runD s).2)
section
variable (num3 num4:Int→Int→Int→Int→List UInt8→Bool→Option PV) (num6:Int→Int→Int→List UInt8→Bool→Option PV) (next:Int→List UInt8→Bool→Option PV)
 (h3:∀ x0 x1 x2 x3 x4 x5,num3 x0 x1 x2 x3 x4 x5=(bif (ltB x3 x1) then (bif (ltB x3 (((List.length x4):Nat):Int)) then ((atS x4 x3).bind fun v1=>(bif (leB (48:Int) v1) then ((atS x4 x3).bind fun v2=>(bif (leB v2 (57:Int)) then (num4 x0 x1 x2 x3 x4 x5) else (num6 x0 x2 x3 x4 x5))) else (num6 x0 x2 x3 x4 x5))) else (num6 x0 x2 x3 x4 x5)) else (num6 x0 x2 x3 x4 x5)))
 (h4:∀ x0 x1 x2 x3 x4 x5,num4 x0 x1 x2 x3 x4 x5=((atS x4 x3).bind fun v3=>(num3 x0 x1 (IntKind.wrap IntKind.i64 ((IntKind.wrap IntKind.i64 ((10:Int)*x2))+(IntKind.wrap IntKind.i64 (IntKind.wrap IntKind.u8 (v3-(48:Int)))))) (IntKind.wrap IntKind.i64 (x3+(1:Int))) x4 x5)))
 (h6:∀ x0 x1 x2 x3 x4,num6 x0 x1 x2 x3 x4=(bif (ltB x2 x0) then ((dropS x3 x2).bind fun v4=>(next x1 v4 Bool.true)) else ((dropS x3 x2).bind fun v5=>(next x1 v5 x4))))
include h3 h4 h6
end
end Dv

namespace Dv
open Go
def aft (c:UInt8):List UInt8→Option (List UInt8)
 | []=>none
 | x::r=>if x=c then some r else none
def fracO (h m x:Int) (s:List UInt8):Option (Int×Int×Int×Int) :=
 if 1≤(runD s).1.length∧(runD s).1.length≤6∧(runD s).2=[] then some (h,m,x,valD 0 (runD s).1*10 ^ (6-(runD s).1.length)) else none
def secO (h m:Int) (s:List UInt8):Option (Int×Int×Int×Int) :=
 if (runD s).1.length=2 then (if (runD s).2=[] then some (h,m,valD 0 (runD s).1,0) else (aft 46 (runD s).2).bind (fracO h m (valD 0 (runD s).1))) else none
def minO (h:Int) (s:List UInt8):Option (Int×Int×Int×Int) :=
 if (runD s).1.length=2 then (if (runD s).2=[] then some (h,valD 0 (runD s).1,0,0) else (aft 58 (runD s).2).bind (secO h (valD 0 (runD s).1))) else none
def timeO (s:List UInt8):Option (Int×Int×Int×Int) :=
 if (runD s).1.length=1∨(runD s).1.length=2 then (aft 58 (runD s).2).bind (minO (valD 0 (runD s).1)) else none
def litV:PV:=.tuple [.int .i64 0,.int .i64 13]
noncomputable def mkR (h m x u:Int):Option PV:=(zre h m x u).bind fun v=>some (.tuple [.int .i64 (v.tnth 0).toI,.int .i64 (v.tnth 1).toI])
noncomputable def ansR:Option (Int×Int×Int×Int)→Option PV
 | some (h,m,x,u)=>mkR h m x u
 | none=>some litV
end Dv

namespace Dv
open Go
abbrev Grp:=Int×Nat
def gV (g:Grp):PV:=.agg [.int .i64 g.1,.int .i64 (g.2:Int)]
def grpS:List UInt8→Int→Nat→Option (List Grp×List UInt8)
 | [],n,k=>some ([(n,k)],[])
 | c::r,n,k=>if digB c=true∧k<6 then grpS r (10*n+dgt c) (k+1) else if c=58∨c=46 then (grpS r 0 0).map (fun p=>((n,k)::p.1,c::p.2)) else none
end Dv

namespace Dv
open Go
section
variable (s:List UInt8) (K:List Grp→List UInt8→Option PV)
noncomputable def gM:Option PV:=match grpS s 0 0 with | some (l,sg)=>K l sg | none=>some litV
end
noncomputable def mkP (h m x u:Int):Option PV:=(z1ei h m x u).bind fun v=>some (.tuple [.int .i64 (v.tnth 0).toI,.int .i64 (v.tnth 1).toI])
noncomputable def gAns:List UInt8→List Grp→Option PV
 | [58],[g0,g1]=>if (g0.2=1∨g0.2=2)∧g1.2=2 then mkP g0.1 g1.1 0 0 else some litV
 | [58,58],[g0,g1,g2]=>if (g0.2=1∨g0.2=2)∧g1.2=2∧g2.2=2 then mkP g0.1 g1.1 g2.1 0 else some litV
 | [58,58,46],[g0,g1,g2,g3]=>if (g0.2=1∨g0.2=2)∧g1.2=2∧g2.2=2∧g3.2≠0 then mkP g0.1 g1.1 g2.1 (g3.1*10 ^ (6-g3.2)) else some litV
 | _,_=>some litV
theorem a1 (g0 g1:Grp):gAns [58] [g0,g1]=if (g0.2=1∨g0.2=2)∧g1.2=2 then mkP g0.1 g1.1 0 0 else some litV:=rfl
theorem a2 (g0 g1 g2:Grp):gAns [58,58] [g0,g1,g2]=if (g0.2=1∨g0.2=2)∧g1.2=2∧g2.2=2 then mkP g0.1 g1.1 g2.1 0 else some litV:=rfl
theorem a3 (g0 g1 g2 g3:Grp):gAns [58,58,46] [g0,g1,g2,g3]=if (g0.2=1∨g0.2=2)∧g1.2=2∧g2.2=2∧g3.2≠0 then mkP g0.1 g1.1 g2.1 (g3.1*10 ^ (6-g3.2)) else some litV:=rfl
theorem a0 (sg:List UInt8) (l:List Grp) (h1:sg≠[58]) (h2:sg≠[58,58]) (h3:sg≠[58,58,46]):gAns sg l=some litV:=by
 unfold gAns
 split
 ·exact absurd rfl h1
 ·exact absurd rfl h2
 ·exact absurd rfl h3
 ·rfl
end Dv

namespace Dv
open Go
def hitB (s:List UInt8) (k:Nat):Bool:=match k with
 | 0=>false
 | j+1=>match s[j]?,s[j+1]?,s[j+2]? with
  | some a,some c,some b=>(c == 84||c == 116)&&(digB a&&digB b)
  | _,_,_=>false
def hitK (s:List UInt8):Nat→Nat→Option Nat
 | 0,_=>none
 | j+1,k=>if hitB s k then some k else hitK s j (k+1)
def cutO:List (List UInt8)→List (List UInt8)
 | []=>[]
 | a::r=>match hitK a a.length 1 with
  | some k=>a.take k::a.drop (k+1)::r
  | none=>a::r
end Dv

namespace Dv
open Go
def litM:PV:=.tuple [.agg [.int .i64 0,.int .i64 0],.str [],.int .i64 13]
def rngM (e:Int):PV:=.tuple [.agg [.int .i64 0,.int .i64 0],.str [],.int .i64 e]
def stV (i u e:Int):PV:=.tuple [.agg [.int .i64 i,.int .i64 u],.int .i64 e]
end Dv

namespace Dv
open Go
def insB (n:Int):Bool:=decide (-2451507≤n∧n≤106751982)
def dayO (Y M D:Int):Int×Int:=if rightI Y M D=true∧insB (dayI Y M D)=true then (dayI Y M D,0) else (0,10)
abbrev DT:=Int×Int×Int
def dtV (v:DT):PV:=.tuple [.agg [.int .i64 v.1,.int .i64 v.2.1],.int .i64 v.2.2]
def dateF (t:DateO) (r:List (List UInt8)):DT:=match t with
 | some (Y,M,D)=>if r=[] then (0,dayO Y M D) else (0,0,13)
 | none=>(0,0,13)
def dateW (l:List (List UInt8)) (o:Int):DT :=
 if spcI l=2 then (0,-10957,0) else if spcI l=0 then dateF (takeR (eraO l).2 (z1cf (eraO l).1 o).1) (z1cf (eraO l).1 o).2 else (spcI l,0,0)
def dateP (s:List UInt8) (o:Int):DT:=if o<0∨2<o then (0,0,1) else if 2048<s.length then (0,0,13) else dateW (z29 s) o
def mkO:Option (Int×Int×Int×Int)→Int×Int
 | some (h,m,x,u)=>if (0≤h∧h≤24)∧(0≤m∧m≤59)∧(0≤x∧x≤59)∧(0≤u∧u≤999999)∧((h*3600+m*60+x)*1000000+u≤86400000000) then ((h*3600+m*60+x)*1000000+u,0) else (0,10)
 | none=>(0,13)
def stF (n u:Int):DT:=if insB (if u=86400000000 then n+1 else n)=true then (0,n*86400000000+u,0) else (0,0,10)
def momF (Y M D:Int) (q:Int×Int):DT:=if q.2=13 then (0,0,13) else if (dayO Y M D).2=0 then (if q.2=0 then stF (dayO Y M D).1 q.1 else (0,0,10)) else (0,0,10)
def momW (t:DateO) (r:List (List UInt8)):DT:=match t,r with
 | some (Y,M,D),[]=>momF Y M D (0,0)
 | some (Y,M,D),[a]=>momF Y M D (mkO (timeO a))
 | _,_=>(0,0,13)
def stampW (l:List (List UInt8)) (o:Int):DT :=
 if spcI l=2 then (0,-946684800000000,0) else if spcI l=0 then momW (takeR (eraO (cutO l)).2 (z1cf (eraO (cutO l)).1 o).1) (z1cf (eraO (cutO l)).1 o).2 else (spcI l,0,0)
def stampP (s:List UInt8) (o:Int):DT:=if o<0∨2<o then (0,0,1) else if 2048<s.length then (0,0,13) else stampW (z29 s) o
def momV (v:DT):PV:=.tuple [.agg [.int .i64 v.1,.int .i64 v.2.1],.str [],.int .i64 v.2.2]
end Dv

namespace Dv
open Go
def dgN (n:Nat):UInt8:=UInt8.ofNat (48+n % 10)
def digC:Nat→Nat→Nat→List UInt8
 | 0,_,_=>[]
 | f+1,n,m=>if n=0∧m=0 then [] else digC f (n / 10) (m-1)++[dgN n]
def digN (n:Nat):List UInt8:=digC 20 n 1
theorem dgN_val (n:Nat):(PV.int .u8 (IntKind.u8.wrap (IntKind.u64.wrap (48+Int.tmod (n:Int) 10))))=byteV (dgN n):=by
 have h:Int.tmod (n:Int) 10=((n % 10:Nat):Int):=by rw [Int.tmod_eq_emod_of_nonneg (by omega)]; rfl
 rw [h,wu64 (by omega) (by omega),wu8 (by omega) (by omega)]
 unfold byteV dgN
 congr 1
 rw [UInt8.toNat_ofNat']
 omega
theorem zrb:∀ f n m,(digC f n m).length≤f
 | 0,_,_=>Nat.le_refl _
 | f+1,n,m=>by
  unfold digC
  split
  ·simp
  ·have:=zrb f (n / 10) (m-1)
   simp; omega
theorem zeros_set (k:Nat) (t:List UInt8) (c:UInt8):(List.replicate (k+1) (0:UInt8)++t).set k c=List.replicate k 0++(c::t):=by
 rw [List.replicate_succ',List.append_assoc,List.set_append_right _ _ (by simp)]
 simp
theorem zyq (least:Nat) (hl:least≤20):∀ (k n:Nat) (t:List UInt8),n<10 ^ k→k+t.length=20 →
  z9m (n:Int) (least:Int) (k:Int) ((List.replicate k (0:UInt8)++t).map byteV) 20=some (.str (digC k n (least-(20-k))++t))
 | 0,n,t,hn,ht=>by
  have h0:n=0:=by simpa using hn
  subst h0
  rw [ze7,c_ltF (by omega),w64 (by omega) (by omega),c_ltF (by omega),z1cv (by simp; omega),z1cv rfl,decide_eq_true (by omega),cond_true]
  have:List.take (20-((0:Nat):Int).toNat) (List.drop ((0:Nat):Int).toNat ((List.replicate 0 (0:UInt8)++t).map byteV))=t.map byteV:=by
   simp
   apply List.take_of_length_le
   simp; omega
  rw [this,zfj]
  rfl
 | k+1,n,t,hn,ht=>by
  have hlen:((List.replicate (k+1) (0:UInt8)++t).map byteV).length=20:=by simp; omega
  have hk:k<20:=by omega
  by_cases hc:n=0∧least-(20-(k+1))=0
  ·obtain ⟨h0,h1⟩:=hc
   subst h0
   rw [ze7,c_ltF (by omega),w64 (by omega) (by omega),c_ltF (by omega),z1cv hlen,z1cv rfl,decide_eq_true (by omega),cond_true]
   have:List.take (20-((k+1:Nat):Int).toNat) (List.drop ((k+1:Nat):Int).toNat ((List.replicate (k+1) (0:UInt8)++t).map byteV))=t.map byteV:=by
    rw [Int.toNat_natCast,← List.map_drop,List.drop_left' (by simp)]
    apply List.take_of_length_le
    simp; omega
   rw [this,zfj,h1]
   unfold digC
   rw [if_pos ⟨rfl,rfl⟩]
   rfl
  ·have h5:z9m (n:Int) (least:Int) ((k+1:Nat):Int) ((List.replicate (k+1) (0:UInt8)++t).map byteV) 20 =
     ze6 (n:Int) (least:Int) ((k+1:Nat):Int) ((List.replicate (k+1) (0:UInt8)++t).map byteV) 20:=by
    rw [ze7,w64 (by omega) (by omega)]
    by_cases h:0<(n:Int)
    ·rw [c_ltT h]
    ·rw [c_ltF h,c_ltT (by omega)]
   have e1:((k+1:Nat):Int)-1=(k:Int):=by omega
   rw [h5,zrf,e1,w64 (n:=(k:Int)) (by omega) (by omega),c_inT (by omega),Int.toNat_natCast,dgN_val,stC_map (by simp; omega),zeros_set]
   simp only [oB]
   have e2:Int.tdiv (n:Int) 10=((n / 10:Nat):Int):=by rw [Int.tdiv_eq_ediv_of_nonneg (by omega)]; rfl
   have hp:10 ^ k≤10 ^ 19:=Nat.pow_le_pow_right (by omega) (by omega)
   have hpp:10 ^ (k+1)=10 ^ k*10:=Nat.pow_succ ..
   have hpv:(10:Nat) ^ 19=10000000000000000000:=by decide
   have hn10:n / 10<10 ^ k:=by omega
   rw [e2,wu64 (by omega) (by omega),zyq least hl k (n / 10) (dgN n::t) hn10 (by simp; omega)]
   have e3:least-(20-(k+1))-1=least-(20-k):=by omega
   conv=>rhs; rw [digC]
   rw [if_neg hc,e3]
   simp
theorem z1cq (n least:Nat) (hn:n<18446744073709551616) (hl:least≤20):zc9 (n:Int) (least:Int)=some (.str (digC 20 n least)):=by
 rw [zyw]
 have:=zyq least hl 20 n [] (Nat.lt_trans hn (by decide)) rfl
 rw [Nat.sub_self,Nat.sub_zero,List.append_nil,List.append_nil] at this
 exact this
def revD:Nat→Nat→List UInt8
 | 0,u=>[dgN u]
 | f+1,u=>if u<10 then [dgN u] else dgN u::revD f (u / 10)
theorem digC_10:∀ f a,1≤a→digC f a 1=digC f a 0
 | 0,_,_=>rfl
 | f+1,a,h=>by
  unfold digC
  rw [if_neg (by omega),if_neg (by omega)]
def decI (a:Int):List UInt8:=if a<0 then 45::digN (-a).toNat else digN a.toNat
theorem z9e (n:Nat):(digN n).length≤20:=zrb 20 n 1
theorem znl (a:Int):(decI a).length≤21:=by
 unfold decI
 split
 ·have:=z9e (-a).toNat; simp; omega
 ·have:=z9e a.toNat; omega
def twoN (n:Nat):List UInt8:=digC 20 n 2
theorem digN_lt {n:Nat} (h:n<10):digN n=[dgN n]:=by
 unfold digN digC
 have:n / 10=0:=by omega
 rw [if_neg (by omega),this]
 unfold digC
 rw [if_pos ⟨rfl,rfl⟩]; rfl
theorem twoN_lt {n:Nat} (h:n<10):twoN n=[48,dgN n]:=by
 unfold twoN digC
 have:n / 10=0:=by omega
 rw [if_neg (by omega),this]
 have:digC 19 0 (2-1)=[48]:=by decide
 rw [this]; rfl
theorem twoN_ge {n:Nat} (h:10≤n):twoN n=digN n:=by
 unfold twoN digN digC
 rw [if_neg (by omega),if_neg (by omega)]
 have:1≤n / 10:=by omega
 rw [show 2-1=1 from rfl,show 1-1=0 from rfl,digC_10 19 _ this]
theorem zfm (n:Nat):(twoN n).length≤20:=zrb 20 n 2
theorem z10t {a:Int} (h0:0≤a) (h1:a≤9223372036854775807):ze8 a=some (.str (twoN a.toNat)):=by
 have e:IntKind.u64.wrap a=((a.toNat:Nat):Int):=by rw [wu64 h0 (by omega)]; omega
 rw [z188,c_leT h0,e]
 have:=z1cq a.toNat 2 (by omega) (by omega)
 rw [show ((2:Nat):Int)=2 from rfl] at this
 rw [this]; rfl
theorem zfs {a:Int} (h0:0≤a) (h1:a≤9223372036854775807):z78 a=some (.str (digN a.toNat)):=by
 rw [z105,z10t h0 h1]
 by_cases h:a<10
 ·rw [c_ltT h,digN_lt (by omega),twoN_lt (by omega)]; rfl
 ·rw [c_ltF h,twoN_ge (by omega)]; rfl
end Dv

namespace Dv
open Go
theorem decR_low {s:List UInt8} {i:Nat} {c:UInt8} (h:s[i]?=some c) (hc:c.toNat<128):decR s i=(c.toNat,1):=by
 have hi:i<s.length:=(List.getElem?_eq_some_iff.1 h).1
 have hs:i<(⟨s.toArray⟩:ByteArray).size:=by simpa [ByteArray.size] using hi
 have hg:(⟨s.toArray⟩:ByteArray)[i]'hs=c:=(List.getElem?_eq_some_iff.1 h).2
 unfold decR
 rw [decode_ascii ⟨s.toArray⟩ i hs (by rw [hg]; exact hc),hg]
theorem zr8 {α:Type} {s:List α} {i:Nat} (h:s.drop i=[]):s.length≤i:=List.drop_eq_nil_iff.1 h
theorem zlk {α:Type} {s r:List α} {c:α} {i:Nat} (h:s.drop i=c::r):i<s.length∧s[i]?=some c∧s.drop (i+1)=r:=by
 have hi:i<s.length:=by
  rcases Nat.lt_or_ge i s.length with h' | h'
  ·exact h'
  ·rw [List.drop_eq_nil_iff.2 h'] at h; cases h
 rw [List.drop_eq_getElem_cons hi] at h
 simp only [List.cons.injEq] at h
 exact ⟨hi,by rw [List.getElem?_eq_getElem hi,h.1],h.2⟩
def z3y:List UInt8→List UInt8
 | []=>[]
 | c::r=>if z3y r=[]∧c=48 then [] else c::z3y r
theorem zsd:∀ l,l.take (z3y l).length=z3y l
 | []=>rfl
 | c::r=>by
  unfold z3y
  split
  ·rfl
  ·simp [zsd r]
theorem zx0 (l:List UInt8):(z3y l).length≤l.length:=by
 have:=congrArg List.length (zsd l)
 simp at this; omega
def endF:Nat→Nat→List UInt8→Nat
 | e,_,[]=>e
 | e,i,c::r=>endF (if c=48 then e else i+1) (i+1) r
theorem endF_eq:∀ (r:List UInt8) (e i:Nat),endF e i r=if z3y r=[] then e else i+(z3y r).length
 | [],e,i=>rfl
 | c::r,e,i=>by
  unfold endF
  rw [endF_eq r]
  by_cases h:z3y r=[]
  ·rw [if_pos h]
   by_cases hc:c=48
   ·have hs:z3y (c::r)=[]:=if_pos ⟨h,hc⟩
    rw [if_pos hc,if_pos hs]
   ·have hs:z3y (c::r)=c::z3y r:=if_neg (fun x=>hc x.2)
    rw [if_neg hc,hs,if_neg (by simp),h]; simp
  ·have hs:z3y (c::r)=c::z3y r:=if_neg (fun x=>h x.1)
   rw [if_neg h,hs,if_neg (by simp)]; simp; omega
theorem z10u:∀ r,z3y (r++[48])=z3y r
 | []=>by decide
 | c::r=>by
  rw [List.cons_append,z3y,z3y,z10u r]
theorem z16g {c:UInt8} (hc:c≠48):∀ r,z3y (r++[c])=r++[c]
 | []=>by simp [z3y,hc]
 | a::r=>by
  rw [List.cons_append,z3y,z16g hc r,if_neg (by simp)]
def digB0 (c:UInt8):Prop:=48≤c.toNat∧c.toNat≤57
theorem dgN_dig (n:Nat):digB0 (dgN n):=by
 unfold digB0 dgN
 rw [UInt8.toNat_ofNat']
 omega
theorem z1cr:∀ f n m,∀ c∈digC f n m,digB0 c
 | 0,_,_,c,h=>by cases h
 | f+1,n,m,c,h=>by
  unfold digC at h
  split at h
  ·cases h
  ·rw [List.mem_append] at h
   rcases h with h | h
   ·exact z1cr f _ _ c h
   ·simp at h; subst h; exact dgN_dig n
theorem z17z:∀ f n m,n<10 ^ f→z3y (digC f n m)=[]→n=0
 | 0,n,m,hn,_=>by simpa using hn
 | f+1,n,m,hn,h=>by
  unfold digC at h
  split at h
  ·rename_i h0; exact h0.1
  ·by_cases hd:dgN n=48
   ·rw [hd,z10u] at h
    have hpp:10 ^ (f+1)=10 ^ f*10:=Nat.pow_succ ..
    have:=z17z f (n / 10) (m-1) (by omega) h
    have hm:n % 10=0:=by
     have:=congrArg UInt8.toNat hd
     unfold dgN at this
     rw [UInt8.toNat_ofNat'] at this
     have h48:(48:UInt8).toNat=48:=rfl
     omega
    omega
   ·rw [z16g hd] at h
    simp at h
theorem z180:∀ k f u,u<10 ^ k→k≤f→(digC f u k).length=k
 | 0,0,u,_,_=>rfl
 | 0,f+1,u,h,_=>by
  have:u=0:=by simpa using h
  subst this
  rfl
 | k+1,0,u,_,h=>by omega
 | k+1,f+1,u,h,hf=>by
  have hpp:10 ^ (k+1)=10 ^ k*10:=Nat.pow_succ ..
  unfold digC
  rw [if_neg (by omega),Nat.add_sub_cancel,List.length_append,z180 k f (u / 10) (by omega) (by omega)]
  rfl
def fracN (u:Nat):List UInt8:=if u=0∨999999<u then [] else 46::z3y (digC 20 u 6)
theorem zix (u:Nat):(fracN u).length≤21:=by
 unfold fracN
 split
 ·simp
 ·have h1:=zx0 (digC 20 u 6)
  have h2:=zrb 20 u 6
  simp; omega
theorem zy8 (s:List UInt8) (hl:s.length≤100) (hd:∀ c∈s,digB0 c):∀ (r:List UInt8) (i e:Nat),s.drop i=r→i≤s.length→e≤i →
  z8b s (e:Int) s i=some (.str (46::s.take (endF e i r)))
 | [],i,e,hr,hi,he=>by
  have:=zr8 hr
  rw [zgf,z126 (by omega),z130 (by omega)]
  simp only [oB]
  rw [zfh (by first | omega | (simp; omega))]
  rfl
 | c::r,i,e,hr,hi,he=>by
  obtain ⟨h1,h2,h3⟩:=zlk hr
  have hc:digB0 c:=hd c (List.mem_of_getElem? h2)
  have hdc:=decR_low h2 (by unfold digB0 at hc; omega)
  rw [zgf,z18e h1,hdc]
  simp only
  unfold endF
  by_cases h48:c=48
  ·have:(((c.toNat:Nat):Int))=48:=by rw [h48]; rfl
   rw [c_not,c_eqT this,if_pos h48,zy8 s hl hd r (i+1) e h3 (by omega) (by omega)]
  ·have:¬ (((c.toNat:Nat):Int))=48:=by
    intro h
    apply h48
    have h':c.toNat=48:=by omega
    exact UInt8.toNat_inj.1 h'
   have e1:IntKind.i64.wrap (((i:Nat):Int)+1)=((i+1:Nat):Int):=by rw [w64 (by omega) (by omega)]; omega
   rw [c_not,c_eqF this,if_neg h48,e1,zy8 s hl hd r (i+1) (i+1) h3 (by omega) (by omega)]
theorem frac_s {a:Int} (h0:0≤a) (h1:a≤9223372036854775807):zfo a=some (.str (fracN a.toNat)):=by
 rw [zsv]
 unfold fracN
 by_cases ha:a≤0
 ·rw [c_leT ha,zgg,if_pos (by omega)]
 ·rw [c_leF ha]
  by_cases hb:999999<a
  ·rw [c_ltT hb,zgg,if_pos (by omega)]
  ·have e:IntKind.u64.wrap a=((a.toNat:Nat):Int):=by rw [wu64 h0 (by omega)]; omega
   have hds:=z1cq a.toNat 6 (by omega) (by omega)
   rw [show ((6:Nat):Int)=6 from rfl] at hds
   rw [c_ltF hb,znu,e,hds,if_neg (by omega)]
   simp only [oB,zq]
   have hl:=zrb 20 a.toNat 6
   have:=zy8 (digC 20 a.toNat 6) (by omega) (z1cr 20 _ _) (digC 20 a.toNat 6) 0 0 rfl (by omega) (by omega)
   rw [show ((0:Nat):Int)=0 from rfl] at this
   rw [this,endF_eq]
   by_cases hz:z3y (digC 20 a.toNat 6)=[]
   ·rw [if_pos hz,hz]; rfl
   ·rw [if_neg hz,Nat.zero_add,zsd]
def textN (t:Nat):List UInt8:=twoN (t / 3600000000)++(58::(twoN (t / 60000000 % 60)++(58::(twoN (t / 1000000 % 60)++fracN (t % 1000000)))))
theorem zwz (t:Nat):(textN t).length≤90:=by
 have h1:=zfm (t / 3600000000)
 have h2:=zfm (t / 60000000 % 60)
 have h3:=zfm (t / 1000000 % 60)
 have h4:=zix (t % 1000000)
 unfold textN
 simp; omega
theorem tdivN (a b:Nat):Int.tdiv (a:Int) (b:Int)=((a / b:Nat):Int):=by rw [Int.tdiv_eq_ediv_of_nonneg (by omega)]; rfl
theorem tmodN (a b:Nat):Int.tmod (a:Int) (b:Int)=((a % b:Nat):Int):=by rw [Int.tmod_eq_emod_of_nonneg (by omega)]; rfl
theorem text_s (t:Nat) (h:t<18446744073709551616):znm (t:Int)=some (.str (textN t)):=by
 have h1:=zfm (t / 3600000000)
 have h2:=zfm (t / 60000000 % 60)
 have h3:=zfm (t / 1000000 % 60)
 have h4:=zix (t % 1000000)
 have e1:IntKind.i64.wrap (IntKind.u64.wrap (Int.tdiv (t:Int) 3600000000))=((t / 3600000000:Nat):Int):=by
  have:=tdivN t 3600000000
  rw [show ((3600000000:Nat):Int)=3600000000 from rfl] at this
  rw [this,wu64 (by omega) (by omega),w64 (by omega) (by omega)]
 have e2:IntKind.i64.wrap (Int.tmod (IntKind.u64.wrap (Int.tdiv (t:Int) 60000000)) 60)=((t / 60000000 % 60:Nat):Int):=by
  have:=tdivN t 60000000
  rw [show ((60000000:Nat):Int)=60000000 from rfl] at this
  rw [this,wu64 (by omega) (by omega)]
  have:=tmodN (t / 60000000) 60
  rw [show ((60:Nat):Int)=60 from rfl] at this
  rw [this,w64 (by omega) (by omega)]
 have e3:IntKind.i64.wrap (Int.tmod (IntKind.u64.wrap (Int.tdiv (t:Int) 1000000)) 60)=((t / 1000000 % 60:Nat):Int):=by
  have:=tdivN t 1000000
  rw [show ((1000000:Nat):Int)=1000000 from rfl] at this
  rw [this,wu64 (by omega) (by omega)]
  have:=tmodN (t / 1000000) 60
  rw [show ((60:Nat):Int)=60 from rfl] at this
  rw [this,w64 (by omega) (by omega)]
 have e4:IntKind.i64.wrap (Int.tmod (t:Int) 1000000)=((t % 1000000:Nat):Int):=by
  have:=tmodN t 1000000
  rw [show ((1000000:Nat):Int)=1000000 from rfl] at this
  rw [this,w64 (by omega) (by omega)]
 rw [z14o,z10h,e1,e2,e3,e4]
 simp only [oB,tn0,tn1,tn2,tn3,zv]
 rw [z10t (by omega) (by omega),z10t (by omega) (by omega),z10t (by omega) (by omega),frac_s (by omega) (by omega)]
 simp only [oB,zq,Int.toNat_natCast]
 rw [zfh (by first | omega | (simp; omega))]
 simp only [oB]
 rw [zfh (by first | omega | (simp; omega))]
 simp only [oB]
 rw [zfh (by first | omega | (simp; omega))]
 simp only [oB]
 rw [zfh (by first | omega | (simp; omega))]
 simp only [oB]
 rw [zfh (by first | omega | (simp; omega))]
 simp only [oB]
 unfold textN
 simp
def longI (a:Int):List UInt8:=if a<0 then 45::textN (-a).toNat else textN a.toNat
theorem z178 (a:Int):(longI a).length≤91:=by
 unfold longI
 split
 ·have:=zwz (-a).toNat; simp; omega
 ·have:=zwz a.toNat; omega
theorem wneg64 {a:Int} (h1:-9223372036854775808≤a) (ha:a<0):IntKind.u64.wrap (0-IntKind.u64.wrap a)=(((-a).toNat:Nat):Int):=by
 simp only [IntKind.wrap,IntKind.bits,IntKind.signed]
 simp
 omega
theorem long_s {a:Int} (h1:-9223372036854775808≤a) (h2:a≤9223372036854775807):zff a=some (.str (longI a)):=by
 rw [z14p]
 unfold longI
 by_cases ha:a<0
 ·have hl:=zwz (-a).toNat
  rw [c_ltT ha,if_pos ha,wneg64 h1 ha,text_s _ (by omega)]
  simp only [oB,zq]
  rw [zfh (by first | omega | (simp; omega))]; rfl
 ·have e:IntKind.u64.wrap a=((a.toNat:Nat):Int):=by rw [wu64 (by omega) (by omega)]; omega
  rw [c_ltF ha,if_neg ha,e,text_s _ (by omega)]; rfl
end Dv

namespace Dv
open Go
def totL:List (List UInt8)→Nat
 | []=>0
 | s::l=>s.length+totL l
theorem z17h (l:List (List UInt8)) (hl:l.length≤1000):∀ (r:List (List UInt8)) (i:Nat) (acc:List UInt8),l.drop i=r→i≤l.length→acc.length+totL r≤1000000 →
  zhp (l.map PV.str) (l.length:Int) (i:Int) (acc.map byteV)=some (.str (acc++r.flatten))
 | [],i,acc,hr,hi,ht=>by
  have:=zr8 hr
  rw [zkx,c_ltF (by omega),zfj]
  simp
 | s::r,i,acc,hr,hi,ht=>by
  obtain ⟨h1,h2,h3⟩:=zlk hr
  have e1:IntKind.i64.wrap ((i:Int)+1)=((i+1:Nat):Int):=by rw [w64 (by omega) (by omega)]; omega
  simp only [totL] at ht
  rw [zkx,c_ltT (by omega),rdI_n,z13m h2]
  simp only [oB,zq]
  rw [decide_eq_true (by omega),cond_true,Int.toNat_natCast,List.take_length,zig (by simp; omega)]
  simp only [oB]
  rw [e1,← List.map_append,z17h l hl r (i+1) (acc++s) h3 (by omega) (by simp; omega)]
  simp
theorem zjx (l:List (List UInt8)) (hl:l.length≤1000) (ht:totL l≤1000000):z1g (l.map PV.str)=some (.str l.flatten):=by
 rw [z16k,List.length_map]
 have:=z17h l hl l 0 [] rfl (by omega) (by simpa using ht)
 exact this
def joinB (sep:List UInt8):List (List UInt8)→List UInt8
 | []=>[]
 | [a]=>a
 | a::b::r=>a++(sep++joinB sep (b::r))
def tailB (sep:List UInt8):List (List UInt8)→List UInt8
 | []=>[]
 | a::r=>sep++(a++tailB sep r)
theorem z11h (sep a:List UInt8):∀ r,joinB sep (a::r)=a++tailB sep r
 | []=>by simp [joinB,tailB]
 | b::r=>by
  rw [joinB,tailB,z11h sep b r]
theorem z16e (sep:List UInt8):∀ l,(tailB sep l).length=totL l+sep.length*l.length
 | []=>by simp [tailB,totL]
 | a::r=>by
  simp only [tailB,totL,List.length_append,z16e sep r,List.length_cons,Nat.mul_add,Nat.mul_one]
  omega
theorem z1ca (sep:List UInt8) (hsep:1≤sep.length∧sep.length≤100) (l:List (List UInt8)) (hl:l.length≤1000):∀ (r:List (List UInt8)) (i:Nat) (acc:List UInt8),l.drop i=r→i≤l.length →
  acc.length+(tailB sep r).length≤10000000→acc++tailB sep r≠[] →
  zbe sep (l.map PV.str) (l.length:Int) (i:Int) (acc.map byteV)=some (.str (acc++tailB sep r))
 | [],i,acc,hr,hi,ht,hne=>by
  have:=zr8 hr
  have hacc:acc≠[]:=by simpa [tailB] using hne
  have hn:isNilL (acc.map byteV)=false:=by cases acc with | nil=>exact absurd rfl hacc | cons=>rfl
  rw [zgx,c_ltF (by omega),hn]
  simp only [tailB,List.length_nil,Nat.add_zero,List.append_nil] at ht ⊢
  simp only [Bool.not_false,Bool.and_self,cond_true,cond_false]
  rw [decide_eq_true ⟨trivial,by rw [List.length_map]; omega⟩,cond_true,zfj]
  rfl
 | s::r,i,acc,hr,hi,ht,hne=>by
  obtain ⟨h1,h2,h3⟩:=zlk hr
  have e1:IntKind.i64.wrap ((i:Int)+1)=((i+1:Nat):Int):=by rw [w64 (by omega) (by omega)]; omega
  simp only [tailB,List.length_append] at ht
  rw [zgx,c_ltT (by omega),rdI_n,z13m h2]
  simp only [oB,zq]
  rw [zig (by simp; omega)]
  simp only [oB]
  rw [zig (by simp; omega)]
  simp only [oB]
  rw [e1,← List.map_append,← List.map_append,z1ca sep hsep l hl r (i+1) (acc++sep++s) h3 (by omega) (by simp; omega) (by
   intro h
   have:=congrArg List.length h
   simp only [List.length_append,List.length_nil] at this
   omega)]
  simp [tailB]
theorem z1cb (sep:List UInt8) (l:List (List UInt8)) (hl:l.length≤1000) (x0:List PV):∀ (r:List (List UInt8)) (i n:Nat),l.drop i=r→i≤l.length→n+totL r≤10000000 →
  zbf x0 sep (n:Int) (l.map PV.str) (l.length:Int) (i:Int)=if n+totL r=0 then zhn x0 sep else zg3 x0 sep []
 | [],i,n,hr,hi,ht=>by
  have:=zr8 hr
  simp only [totL,Nat.add_zero] at ht
  have h0:n+totL []=n:=rfl
  have e0:IntKind.i64.wrap (0-0)=0:=by decide
  have e1:IntKind.i64.wrap (2*0)=0:=by decide
  rw [zgy,c_ltF (by omega),c_ltF (by omega),e0,e1,w64 (n:=0+(n:Int)) (by omega) (by omega)]
  by_cases hn:n=0
  ·rw [c_ltF (by omega),if_pos (h0.trans hn)]
  ·rw [c_ltT (by omega),if_neg (by rw [h0]; exact hn),decide_eq_true (by omega),cond_true]
 | s::r,i,n,hr,hi,ht=>by
  obtain ⟨h1,h2,h3⟩:=zlk hr
  have e1:IntKind.i64.wrap ((i:Int)+1)=((i+1:Nat):Int):=by rw [w64 (by omega) (by omega)]; omega
  simp only [totL] at ht
  have h0:n+totL (s::r)=n+s.length+totL r:=by simp only [totL]; omega
  have e2:IntKind.i64.wrap ((n:Int)+((s.length:Nat):Int))=((n+s.length:Nat):Int):=by rw [w64 (by omega) (by omega)]; omega
  rw [zgy,c_ltT (by omega),rdI_n,z13m h2]
  simp only [oB,zq]
  rw [w64 (by omega) (by omega),c_ltF (by omega),zon,e1,e2,z1cb sep l hl x0 r (i+1) (n+s.length) h3 (by omega) (by omega),h0]
theorem join_c21 (sep:List UInt8) (hsep:1≤sep.length∧sep.length≤100) (a b:List UInt8) (r:List (List UInt8)) (hl:r.length≤900) (ht:a.length+totL (b::r)≤1000000) :
  zg2 ((a::b::r).map PV.str) sep (a.map byteV)=some (.str (joinB sep (a::b::r))):=by
 have e:dropS ((a::b::r).map PV.str) 1=some ((b::r).map PV.str):=by rw [znj (by omega) (by simp; omega)]; rfl
 rw [zol,e]
 simp only [oB]
 rw [List.length_map,z11h]
 have htl:=z16e sep (b::r)
 have hm:sep.length*(b::r).length≤100*901:=Nat.mul_le_mul hsep.2 (by simp; omega)
 have:=z1ca sep hsep (b::r) (by simp; omega) (b::r) 0 a rfl (by omega) (by omega) (by
  intro h
  have:=congrArg List.length h
  simp only [List.length_append,htl,List.length_cons,List.length_nil,Nat.mul_add] at this
  omega)
 exact this
theorem sjoin_s (sep:List UInt8) (hsep:1≤sep.length∧sep.length≤100) (l:List (List UInt8)) (hl:l.length≤900) (ht:totL l≤1000000):zkq (l.map PV.str) sep=some (.str (joinB sep l)):=by
 match l,hl,ht with
 | [],_,_=>rw [zgw]; rfl
 | [a],_,_ =>
  rw [zgw]
  have e1:((([a].map PV.str).length:Nat):Int)=1:=rfl
  rw [e1,c_eqF (by omega),c_eqT rfl]
  rfl
 | a::b::r,hl,ht =>
  simp only [List.length_cons] at hl
  have hlen:(((a::b::r).map PV.str).length:Int)=((r.length+2:Nat):Int):=by simp only [List.length_map,List.length_cons]
  have e2:IntKind.i64.wrap (((r.length+2:Nat):Int)-1)=((r.length+1:Nat):Int):=by rw [w64 (by omega) (by omega)]; omega
  have e3:1000000≤IntKind.i64.wrap (Int.tdiv 9223372036854775807 ((r.length+1:Nat):Int)):=by
   have:=tdivN 9223372036854775807 (r.length+1)
   rw [show ((9223372036854775807:Nat):Int)=9223372036854775807 from rfl] at this
   have h1:9223372036854775807 / (r.length+1)≤9223372036854775807:=Nat.div_le_self _ _
   have h2:1000000≤9223372036854775807 / (r.length+1):=by
    rw [Nat.le_div_iff_mul_le (by omega)]
    omega
   rw [this,w64 (by omega) (by omega)]
   omega
  have hm:sep.length*(r.length+1)≤100*901:=Nat.mul_le_mul hsep.2 (by omega)
  have hmi:((sep.length:Nat):Int)*((r.length+1:Nat):Int)=((sep.length*(r.length+1):Nat):Int):=by push_cast; rfl
  rw [zgw,hlen,c_eqF (by omega),c_eqF (by omega),c_ltT (by omega),e2,c_eqF (by omega),c_leF (by omega),zop,hlen,e2,hmi,w64 (n:=((sep.length*(r.length+1):Nat):Int)) (by omega) (by omega),
   Int.zero_add,w64 (by omega) (by omega),zoo,hlen]
  have hll:((r.length+2:Nat):Int)=(((a::b::r).length:Nat):Int):=by simp only [List.length_cons]
  rw [hll]
  have h12:=z1cb sep (a::b::r) (by simp; omega) ((a::b::r).map PV.str) (a::b::r) 0 (sep.length*(r.length+1)) rfl (by omega) (by omega)
  rw [show ((0:Nat):Int)=0 from rfl] at h12
  have hpos:1*1≤sep.length*(r.length+1):=Nat.mul_le_mul hsep.1 (by omega)
  rw [h12,if_neg (by omega),zom]
  have hr0:rdI tiStr ((a::b::r).map PV.str) 0=some (.str a):=rfl
  rw [hr0]
  simp only [totL] at ht
  simp only [oB,zq]
  rw [zig (by simp; omega)]
  simp only [oB,List.nil_append]
  exact join_c21 sep hsep a b r (by omega) (by simp only [totL]; omega)
def fullL (l:List (List UInt8)):List (List UInt8):=l.filter fun s=>!eqS s []
theorem z1bd:∀ a b,totL (a++b)=totL a+totL b
 | [],b=>by simp [totL]
 | s::a,b=>by simp only [List.cons_append,totL,z1bd a b]; omega
theorem zlq (sep:List UInt8) (hsep:1≤sep.length∧sep.length≤100) (l:List (List UInt8)) (hl:l.length≤400):∀ (r:List (List UInt8)) (i:Nat) (acc:List (List UInt8)),l.drop i=r→i≤l.length →
  totL acc+totL r≤1000000→acc.length+r.length≤400→z9g sep (l.map PV.str) (l.length:Int) (i:Int) (acc.map PV.str)=some (.str (joinB sep (acc++fullL r)))
 | [],i,acc,hr,hi,ht,hn=>by
  have:=zr8 hr
  simp only [totL,List.length_nil] at ht hn
  rw [zhq,c_ltF (by omega),sjoin_s sep hsep acc (by omega) (by omega)]
  simp [fullL,PV.toS]
 | s::r,i,acc,hr,hi,ht,hn=>by
  obtain ⟨h1,h2,h3⟩:=zlk hr
  have e1:IntKind.i64.wrap ((i:Int)+1)=((i+1:Nat):Int):=by rw [w64 (by omega) (by omega)]; omega
  simp only [totL,List.length_cons] at ht hn
  rw [zhq,c_ltT (by omega),rdI_n,z13m h2]
  simp only [oB,zq]
  by_cases hs:s=[]
  ·rw [c_not,zz1 hs,e1,zlq sep hsep l hl r (i+1) acc h3 (by omega) (by omega) (by omega)]
   have:fullL (s::r)=fullL r:=by unfold fullL; rw [List.filter_cons_of_neg]; simp [eqS,hs]
   rw [this]
  ·rw [c_not,zoi hs,zig (by simp; omega)]
   simp only [oB]
   have e2:acc.map PV.str++[PV.str s]=(acc++[s]).map PV.str:=by simp
   rw [e1,e2,zlq sep hsep l hl r (i+1) (acc++[s]) h3 (by omega) (by rw [z1bd]; simp only [totL]; omega) (by simp; omega)]
   have:fullL (s::r)=s::fullL r:=by unfold fullL; rw [List.filter_cons_of_pos]; simp [eqS,hs]
   rw [this]
   simp
theorem zz2 (sep:List UInt8) (hsep:1≤sep.length∧sep.length≤100) (l:List (List UInt8)) (hl:l.length≤400) (ht:totL l≤1000000):z41 sep (l.map PV.str)=some (.str (joinB sep (fullL l))):=by
 rw [zx7,List.length_map]
 have:=zlq sep hsep l hl l 0 [] rfl (by omega) (by simpa [totL] using ht) (by simpa using hl)
 exact this
end Dv

namespace Dv
open Go
abbrev InS (n:Int):Prop:=-9223372036854775807≤n∧n≤9223372036854775807
def spanR (i m d u:Int):Bool :=
 if i=0 then decide (-2147483647≤m∧m≤2147483647∧-2147483647≤d∧d≤2147483647∧-9223372036854775807≤u∧u≤9223372036854775807) else decide ((i=-1∨i=1)∧m=0∧d=0∧u=0)
def z10s (a b c:Int):Bool:=decide (0≤a∧a≤1∧0≤b∧b≤2∧0≤c∧c≤2)
theorem style_s (a b c:Int):zna a b c=some (.bool (z10s a b c)):=by
 rw [z137]
 unfold z10s leB
 by_cases h1:0≤a <;> by_cases h2:a≤1 <;> by_cases h3:0≤b <;> by_cases h4:b≤2 <;> by_cases h5:0≤c <;> by_cases h6:c≤2 <;> simp [h1,h2,h3,h4,h5,h6]
theorem neg_ok {u:Int} (h1:-9223372036854775808≤u) (h2:u≤9223372036854775807):∃ n,z13q u=some (.tuple [.int .i64 n,.int .i64 (if u=-9223372036854775808 then 10 else 0)]):=by
 rw [z1dp,z1do]
 by_cases h:u=-9223372036854775808
 ·subst h
  refine ⟨0,?_⟩
  kernel_rfl
 ·have e:IntKind.i64.wrap (0-u)=-u:=by rw [w64 (by omega) (by omega)]; omega
  refine ⟨-u,?_⟩
  rw [e]
  have hb:(ltB (-u) 0 == ltB 0 u)=true:=by
   unfold ltB
   by_cases hu:0<u
   ·rw [decide_eq_true hu,decide_eq_true (by omega)]; rfl
   ·rw [decide_eq_false hu,decide_eq_false (by omega)]; rfl
  rw [hb,if_neg h]
  rfl
theorem z1b2 (n:Int):zjb n=some (.bool (decide (-2147483647≤n∧n≤2147483647))):=by
 rw [zzy]
 unfold leB
 by_cases h1:-2147483647≤n <;> by_cases h2:n≤2147483647 <;> simp [h1,h2]
theorem zxg {i m d u:Int} (h1:-9223372036854775808≤u) (h2:u≤9223372036854775807):zio i m d u=some (.bool (spanR i m d u)):=by
 rw [z133]
 unfold spanR
 by_cases hi:i=0
 ·obtain ⟨n,hn⟩:=neg_ok h1 h2
  rw [c_not,c_eqT hi,if_pos hi,hn,z1b2,z1b2]
  simp only [oB,z16,tn1,zv]
  by_cases hm:-2147483647≤m∧m≤2147483647
  ·rw [decide_eq_true hm,cond_true]
   by_cases hd:-2147483647≤d∧d≤2147483647
   ·rw [decide_eq_true hd,cond_true]
    unfold eqB
    by_cases hu:u=-9223372036854775808
    ·simp [hu]
    ·have:-9223372036854775807≤u:=by omega
     simp [hu,hm,hd,this,h2]
   ·rw [decide_eq_false hd,cond_false,decide_eq_false (by omega)]
  ·rw [decide_eq_false hm,cond_false,decide_eq_false (by omega)]
 ·rw [c_not,c_eqF hi,if_neg hi]
  unfold eqB leB
  by_cases a1:m=0 <;> by_cases a2:d=0 <;> by_cases a3:u=0 <;> simp [a1,a2,a3]
  by_cases b1:-1≤i <;> by_cases b2:i≤1 <;> simp [b1,b2] <;> omega
theorem z16j {m d u:Int} (h:spanR 0 m d u=true):-2147483647≤m∧m≤2147483647∧-2147483647≤d∧d≤2147483647∧-9223372036854775807≤u∧u≤9223372036854775807:=by
 unfold spanR at h
 rw [if_pos rfl] at h
 exact of_decide_eq_true h
theorem zvw {a:Int} (h:InS a):z2h a=some (.str (decI a)):=by
 rw [z103]
 unfold decI
 by_cases ha:a<0
 ·have e:IntKind.i64.wrap (0-a)=-a:=by rw [w64 (by omega) (by omega)]; omega
  have hl:=z9e (-a).toNat
  rw [c_ltT ha,if_pos ha,e,zfs (by omega) (by omega)]
  simp only [oB,zq]
  have:=zjx [[45],digN (-a).toNat] (by simp) (by simp [totL]; omega)
  simp only [List.map_cons,List.map_nil] at this
  rw [this]
  simp
  rfl
 ·rw [c_ltF ha,if_neg ha,zfs (by omega) (by omega)]; rfl
def sgnB (a:Int):List UInt8:=if a<0 then [45] else [43]
def absI (a:Int):Int:=if a<0 then -a else a
theorem zvt {a:Int} (h:InS a):zew a=some (.tuple [.str (sgnB a),.int .i64 (absI a)]):=by
 rw [z102]
 unfold sgnB absI
 by_cases ha:a<0
 ·have e:IntKind.i64.wrap (0-a)=-a:=by rw [w64 (by omega) (by omega)]; omega
  rw [c_ltT ha,if_pos ha,if_pos ha,e]
 ·rw [c_ltF ha,if_neg ha,if_neg ha]
theorem zrk {a:Int} (h:InS a):0≤absI a∧absI a≤9223372036854775807:=by unfold absI; split <;> omega
theorem z139 (a:Int):(sgnB a).length=1:=by unfold sgnB; split <;> rfl
end Dv

namespace Dv
open Go
def unitB (n:Int) (name:List UInt8) (was:Int):List UInt8 :=
 if n=0 then [] else (if was<0∧0<n then [43] else [])++(decI n++(32::(name++(if n=1 then [] else [115]))))
def nextW (n was:Int):Int:=if n=0 then was else n
def timeB (u was:Int):List UInt8:=if 0<u∧was<0 then 43::longI u else if u≠0∨was=0 then longI u else []
theorem zij (n:Int) (name:List UInt8) (was:Int) (h:name.length≤10):(unitB n name was).length≤40:=by
 have:=znl n
 unfold unitB
 split
 ·simp
 ·split <;> split <;> simp <;> omega
theorem z16c (u was:Int):(timeB u was).length≤92:=by
 have:=z178 u
 unfold timeB
 split
 ·simp; omega
 ·split
  ·omega
  ·simp
def addW (t s:List UInt8):List UInt8:=if s=[] then t else if t=[] then s else t++(32::s)
theorem join_addW (a b c d:List UInt8):joinB [32] (fullL [a,b,c,d])=addW (addW (addW a b) c) d:=by
 unfold addW fullL eqS
 by_cases h1:a=[] <;> by_cases h2:b=[] <;> by_cases h3:c=[] <;> by_cases h4:d=[] <;> simp [h1,h2,h3,h4,joinB]
theorem zws (p n x m:List UInt8) (hp:p.length≤10) (hn:n.length≤100) (hx:x.length≤10) (hm:m.length≤10) :
  z1g [.str p,.str n,.str [32],.str x,.str m]=some (.str (p++(n++(32::(x++m))))):=by
 have:=zjx [p,n,[32],x,m] (by simp) (by simp [totL]; omega)
 simp only [List.map_cons,List.map_nil] at this
 rw [this]
 simp
theorem zwe (a b c d:List UInt8) (ha:a.length≤100) (hb:b.length≤100) (hc:c.length≤100) (hd:d.length≤100) :
  z41 [32] [.str a,.str b,.str c,.str d]=some (.str (addW (addW (addW a b) c) d)):=by
 have:=zz2 [32] (by simp) [a,b,c,d] (by simp) (by simp [totL]; omega)
 simp only [List.map_cons,List.map_nil] at this
 rw [this,join_addW]
def yearN:List UInt8:=[121,101,97,114]
def monN:List UInt8:=[109,111,110]
def dayN:List UInt8:=[100,97,121]
theorem pg_c5 (a b c:List UInt8) (ha:a.length≤100) (hb:b.length≤100) (hc:c.length≤100) (i m d:Int) {u:Int} (hu:InS u) (was:Int) :
  z2l a b c i m d u was=some (.str (addW (addW (addW a b) c) (timeB u was))):=by
 have hl:=z178 u
 have c8:¬ (0<u∧was<0)→zbh a b c [] i m d u was=some (.str (addW (addW (addW a b) c) (timeB u was))):=by
  intro hn
  rw [zot,long_s (by omega) (by omega)]
  unfold timeB
  rw [if_neg hn]
  by_cases h0:u=0
  ·rw [c_not,c_eqT h0]
   by_cases hw:was=0
   ·rw [c_eqT hw,if_pos (.inr hw)]
    simp only [oB,zq]
    rw [zwe a b c (longI u) ha hb hc (by omega)]
    rfl
   ·rw [c_eqF hw,if_neg (fun h=>h.elim (fun h=>h h0) hw),zwe a b c [] ha hb hc (by simp)]
    rfl
  ·rw [c_not,c_eqF h0,if_pos (.inl h0)]
   simp only [oB,zq]
   rw [zwe a b c (longI u) ha hb hc (by omega)]
   rfl
 rw [zov]
 by_cases h1:0<u
 ·rw [c_ltT h1]
  by_cases h2:was<0
  ·rw [c_ltT h2,zou,long_s (by omega) (by omega)]
   simp only [oB,zq]
   have hj:=zjx [[43],longI u] (by simp) (by simp [totL]; omega)
   simp only [List.map_cons,List.map_nil] at hj
   have ht:timeB u was=43::longI u:=if_pos ⟨h1,h2⟩
   rw [hj,ht]
   simp only [oB,zq]
   rw [zwe a b c _ ha hb hc (by simp; omega)]
   simp only [oB,zq]
   simp
  ·rw [c_ltF h2]; exact c8 (fun h=>h2 h.2)
 ·rw [c_ltF h1]; exact c8 (fun h=>h1 h.1)
theorem pg_c4 (a b:List UInt8) (ha:a.length≤100) (hb:b.length≤100) (i m:Int) {d u:Int} (hd:InS d) (hu:InS u) (was:Int) :
  z2m a b i m d u was=some (.str (addW (addW (addW a b) (unitB d dayN was)) (timeB u (nextW d was)))):=by
 have hn:=znl d
 have hl:=zij d dayN was (by decide)
 rw [zow]
 by_cases h0:d=0
 ·rw [c_eqT h0,pg_c5 a b [] ha hb (by simp) i m d hu was]
  unfold unitB nextW
  rw [if_pos h0,if_pos h0]
 ·rw [c_eqF h0,zvw hd]
  have hw:nextW d was=d:=if_neg h0
  rw [hw]
  have fin:∀ p q:List UInt8,unitB d dayN was=p++(decI d++(32::(dayN++q)))→p.length≤10→q.length≤10 →
    ((some (PV.str (decI d))).bind fun v=>(z1g [.str p,.str v.toS,.str [32],.str [100,97,121],.str q]).bind fun w=>z2l a b w.toS i m d u d) =
     some (.str (addW (addW (addW a b) (unitB d dayN was)) (timeB u d))):=by
   intro p q h hp hq
   simp only [oB,zq]
   have:=zws p (decI d) dayN q hp (by omega) (by decide) hq
   unfold dayN at this
   rw [this]
   simp only [oB,zq]
   rw [h] at hl ⊢
   exact pg_c5 a b _ ha hb (by unfold dayN at hl; omega) i m d hu d
  have hu':unitB d dayN was=(if was<0∧0<d then [43] else [])++(decI d++(32::(dayN++(if d=1 then [] else [115])))):=if_neg h0
  by_cases h1:was<0
  ·rw [c_ltT h1]
   by_cases h2:0<d
   ·rw [c_ltT h2]
    rw [if_pos ⟨h1,h2⟩] at hu'
    by_cases h3:d=1
    ·rw [c_eqT h3]; rw [if_pos h3] at hu'; exact fin _ _ hu' (by simp) (by simp)
    ·rw [c_eqF h3]; rw [if_neg h3] at hu'; exact fin _ _ hu' (by simp) (by simp)
   ·rw [c_ltF h2]
    rw [if_neg (fun h=>h2 h.2)] at hu'
    by_cases h3:d=1
    ·rw [c_eqT h3]; rw [if_pos h3] at hu'; exact fin _ _ hu' (by simp) (by simp)
    ·rw [c_eqF h3]; rw [if_neg h3] at hu'; exact fin _ _ hu' (by simp) (by simp)
  ·rw [c_ltF h1]
   rw [if_neg (fun h=>h1 h.1)] at hu'
   by_cases h3:d=1
   ·rw [c_eqT h3]; rw [if_pos h3] at hu'; exact fin _ _ hu' (by simp) (by simp)
   ·rw [c_eqF h3]; rw [if_neg h3] at hu'; exact fin _ _ hu' (by simp) (by simp)
theorem tmod12 (m:Int):InS (m.tmod 12):=by
 have:=Int.lt_tmod_of_pos m (show (0:Int)<12 by omega)
 have:=Int.tmod_lt_of_pos m (show (0:Int)<12 by omega)
 exact ⟨by omega,by omega⟩
theorem pg_c3 (a:List UInt8) (ha:a.length≤50) (i m:Int) {d u:Int} (hd:InS d) (hu:InS u) (was:Int) :
  z6c a i m d u was=some (.str (addW (addW (addW a (unitB (m.tmod 12) monN was)) (unitB d dayN (nextW (m.tmod 12) was))) (timeB u (nextW d (nextW (m.tmod 12) was))))):=by
 have hr:=tmod12 m
 have hn:=znl (m.tmod 12)
 have hl:=zij (m.tmod 12) monN was (by decide)
 rw [zox]
 by_cases h0:m.tmod 12=0
 ·rw [c_eqT h0,pg_c4 a [] (by omega) (by simp) i m hd hu was]
  unfold unitB nextW
  rw [if_pos h0,if_pos h0]
 ·rw [c_eqF h0,zvw hr]
  have hw:nextW (m.tmod 12) was=m.tmod 12:=if_neg h0
  rw [hw]
  have fin:∀ p q:List UInt8,unitB (m.tmod 12) monN was=p++(decI (m.tmod 12)++(32::(monN++q)))→p.length≤10→q.length≤10 →
    ((some (PV.str (decI (m.tmod 12)))).bind fun v=>(z1g [.str p,.str v.toS,.str [32],.str [109,111,110],.str q]).bind fun w=>z2m a w.toS i m d u (m.tmod 12)) =
     some (.str (addW (addW (addW a (unitB (m.tmod 12) monN was)) (unitB d dayN (m.tmod 12))) (timeB u (nextW d (m.tmod 12))))):=by
   intro p q h hp hq
   simp only [oB,zq]
   have:=zws p (decI (m.tmod 12)) monN q hp (by omega) (by decide) hq
   unfold monN at this
   rw [this]
   simp only [oB,zq]
   rw [h] at hl ⊢
   exact pg_c4 a _ (by omega) (by unfold monN at hl; omega) i m hd hu (m.tmod 12)
  have hu':unitB (m.tmod 12) monN was=(if was<0∧0<m.tmod 12 then [43] else [])++(decI (m.tmod 12)++(32::(monN++(if m.tmod 12=1 then [] else [115])))):=if_neg h0
  by_cases h1:was<0
  ·rw [c_ltT h1]
   by_cases h2:0<m.tmod 12
   ·rw [c_ltT h2]
    rw [if_pos ⟨h1,h2⟩] at hu'
    by_cases h3:m.tmod 12=1
    ·rw [c_eqT h3]; rw [if_pos h3] at hu'; exact fin _ _ hu' (by simp) (by simp)
    ·rw [c_eqF h3]; rw [if_neg h3] at hu'; exact fin _ _ hu' (by simp) (by simp)
   ·rw [c_ltF h2]
    rw [if_neg (fun h=>h2 h.2)] at hu'
    by_cases h3:m.tmod 12=1
    ·rw [c_eqT h3]; rw [if_pos h3] at hu'; exact fin _ _ hu' (by simp) (by simp)
    ·rw [c_eqF h3]; rw [if_neg h3] at hu'; exact fin _ _ hu' (by simp) (by simp)
  ·rw [c_ltF h1]
   rw [if_neg (fun h=>h1 h.1)] at hu'
   by_cases h3:m.tmod 12=1
   ·rw [c_eqT h3]; rw [if_pos h3] at hu'; exact fin _ _ hu' (by simp) (by simp)
   ·rw [c_eqF h3]; rw [if_neg h3] at hu'; exact fin _ _ hu' (by simp) (by simp)
theorem tdiv12 {m:Int} (h:-2147483647≤m∧m≤2147483647):-2147483647≤m.tdiv 12∧m.tdiv 12≤2147483647:=by
 rcases Int.lt_or_le m 0 with h0 | h0
 ·have:m.tdiv 12=-((-m).tdiv 12):=by rw [Int.neg_tdiv]; omega
  rw [this,Int.tdiv_eq_ediv_of_nonneg (show 0≤-m by omega)]
  omega
 ·rw [Int.tdiv_eq_ediv_of_nonneg h0]; omega
def pgB (m d u:Int):List UInt8 :=
 addW (addW (addW (unitB (m.tdiv 12) yearN 0) (unitB (m.tmod 12) monN (m.tdiv 12))) (unitB d dayN (nextW (m.tmod 12) (m.tdiv 12)))) (timeB u (nextW d (nextW (m.tmod 12) (m.tdiv 12))))
theorem z1dn (i:Int) {m d u:Int} (hm:-2147483647≤m∧m≤2147483647) (hd:InS d) (hu:InS u):zjc i m d u=some (.str (pgB m d u)):=by
 have hy:=tdiv12 hm
 have hn:=znl (m.tdiv 12)
 have hl:=zij (m.tdiv 12) yearN 0 (by decide)
 rw [zv0,w64 (by omega) (by omega)]
 unfold pgB
 by_cases h0:m.tdiv 12=0
 ·rw [c_eqT h0,pg_c3 [] (by simp) i m hd hu 0,h0]
  unfold unitB
  rw [if_pos rfl]
 ·rw [c_eqF h0,zvw (by exact ⟨by omega,by omega⟩)]
  have fin:∀ q:List UInt8,unitB (m.tdiv 12) yearN 0=[]++(decI (m.tdiv 12)++(32::(yearN++q)))→q.length≤10 →
    ((some (PV.str (decI (m.tdiv 12)))).bind fun v=>(z1g [.str [],.str v.toS,.str [32],.str [121,101,97,114],.str q]).bind fun w=>z6c w.toS i m d u (m.tdiv 12)) =
     some (.str (addW (addW (addW (unitB (m.tdiv 12) yearN 0) (unitB (m.tmod 12) monN (m.tdiv 12))) (unitB d dayN (nextW (m.tmod 12) (m.tdiv 12)))) (timeB u (nextW d (nextW (m.tmod 12) (m.tdiv 12)))))):=by
   intro q h hq
   simp only [oB,zq]
   have:=zws [] (decI (m.tdiv 12)) yearN q (by simp) (by omega) (by decide) hq
   unfold yearN at this
   rw [this]
   simp only [oB,zq]
   rw [h] at hl ⊢
   exact pg_c3 _ (by unfold yearN at hl; omega) i m hd hu (m.tdiv 12)
  have hu':unitB (m.tdiv 12) yearN 0=(if (0:Int)<0∧0<m.tdiv 12 then [43] else [])++(decI (m.tdiv 12)++(32::(yearN++(if m.tdiv 12=1 then [] else [115])))):=if_neg h0
  rw [if_neg (by omega)] at hu'
  by_cases h3:m.tdiv 12=1
  ·rw [c_eqT h3]; rw [if_pos h3] at hu'; exact fin _ hu' (by simp)
  ·rw [c_eqF h3]; rw [if_neg h3] at hu'; exact fin _ hu' (by simp)
theorem z14x (a b:List UInt8):(addW a b).length≤a.length+b.length+1:=by
 unfold addW
 split
 ·omega
 ·split
  ·omega
  ·simp; omega
theorem z16b {u was:Int}:timeB u was=[]↔u=0∧was≠0:=by
 have hl:longI u≠[]:=by
  have:∀ t,textN t≠[]:=by
   intro t h
   have:=congrArg List.length h
   simp [textN] at this
  unfold longI
  split
  ·simp
  ·exact this _
 unfold timeB
 split
 ·constructor
  ·intro h; simp at h
  ·intro h; omega
 ·split
  ·rename_i h
   constructor
   ·intro h'; exact absurd h' hl
   ·intro h'; omega
  ·rename_i h
   constructor
   ·intro _; omega
   ·intro _; rfl
end Dv

namespace Dv
open Go
theorem nat_or (u:Int):∃ n:Nat,(u=(n:Int)∧0≤u)∨(u=-(n:Int)∧u<0):=by
 rcases Int.lt_or_le u 0 with h | h
 ·exact ⟨(-u).toNat,.inr ⟨by omega,h⟩⟩
 ·exact ⟨u.toNat,.inl ⟨by omega,h⟩⟩
theorem zhi (n k:Nat):Int.tdiv (-(n:Int)) (k:Int)=-((n / k:Nat):Int):=by rw [Int.neg_tdiv,tdivN]
theorem zq1 (n k:Nat):Int.tmod (-(n:Int)) (k:Int)=-((n % k:Nat):Int):=by rw [Int.neg_tmod,tmodN]
theorem extIB:ze5 z6a EE.ext=some z5m:=by kernel_rfl
theorem zto (s:List UInt8) (c:UInt8):z6g s (c.toNat:Int)=some (.int .i64 (Lib.indexByte s c)):=by
 rw [zc1,zyz EE _ _ _ extIB]
 have e:z5m [.str s,.int .u8 (c.toNat:Int)]=some (.int .i64 (Lib.indexByte s c)):=by
  unfold z5m
  simp
 rw [e]; rfl
theorem cut_two (r:List UInt8):z5b (48::48::58::r) [58]=some (.tuple [.str [48,48],.str r,.bool true]):=by
 have hi:Lib.indexByte (48::48::58::r) 58=2:=by simp [Lib.indexByte]
 have e1:(((List.length [(58:UInt8)]:Nat)):Int)=1:=rfl
 have e2:IntKind.i64.wrap (2+1)=3:=by decide
 have hc:=zto (48::48::58::r) 58
 rw [show (((58:UInt8).toNat:Nat):Int)=58 from rfl] at hc
 have hidx:z7h (48::48::58::r) [58]=some (.int .i64 2):=by
  rw [z9x,e1,c_eqF (by omega),zoi (by simp),z8k,c_eqT rfl,atS_z (c:=58) rfl]
  simp only [oB]
  rw [show (((58:UInt8).toNat:Nat):Int)=58 from rfl,hc,hi]
  rfl
 have ht:takeS (48::48::58::r) 2=some [48,48]:=by rw [zvs (by omega) (by simp; omega)]; rfl
 have hd:dropS (48::48::58::r) 3=some r:=by rw [znj (by omega) (by simp; omega)]; rfl
 rw [znz,zhj,hidx]
 simp only [oB,zv]
 rw [c_leT (by omega),ht,e1,e2]
 simp only [oB]
 rw [hd]
 rfl
theorem z19m:z1f [45] [43]=some (.str [45]):=by
 have ht:takeS [(45:UInt8)] 1=some [45]:=rfl
 have e1:(((List.length [(43:UInt8)]:Nat)):Int)=1:=rfl
 have e2:(((List.length [(45:UInt8)]:Nat)):Int)=1:=rfl
 rw [z9f,z77,z2a,e1,e2,c_leT (by omega),ht]
 rfl
theorem z1d9:z1f [43] [43]=some (.str []):=by
 have ht:takeS [(43:UInt8)] 1=some [43]:=rfl
 have e1:(((List.length [(43:UInt8)]:Nat)):Int)=1:=rfl
 have hd:dropS [(43:UInt8)] 1=some []:=rfl
 rw [z9f,z77,z2a,e1,c_leT (by omega),ht]
 simp only [oB,z16]
 have:eqS [(43:UInt8)] [43]=true:=rfl
 rw [this,cond_true,hd]
 rfl
def zoh (n:Nat):List UInt8:=digN (n / 3600000000)++(58::(twoN (n / 60000000 % 60)++(58::(twoN (n / 1000000 % 60)++fracN (n % 1000000)))))
def zpr (m d u:Int):List UInt8 :=
 sgnB m++(digN ((absI m).toNat / 12)++(45::(digN ((absI m).toNat % 12)++(32::(sgnB d++(digN (absI d).toNat++(32::(sgnB u++zoh (absI u).toNat))))))))
theorem zwf {a:Int} (h:InS a):absI a=(((absI a).toNat:Nat):Int):=by have:=zrk h; omega
theorem long_zero {t:Nat} (ht:t<3600000000):zff (t:Int)=some (.str (48::48::58::(twoN (t / 60000000 % 60)++(58::(twoN (t / 1000000 % 60)++fracN (t % 1000000)))))):=by
 rw [long_s (by omega) (by omega)]
 unfold longI
 rw [if_neg (by omega),Int.toNat_natCast]
 unfold textN
 have:t / 3600000000=0:=by omega
 rw [this]
 rfl
theorem sql_s (i:Int) {m d u:Int} (hm:InS m) (hd:InS d) (hu:InS u):z135 i m d u=some (.str (zpr m d u)):=by
 have rm:=zrk hm
 have rd:=zrk hd
 have ru:=zrk hu
 have em:=zwf hm
 have ed:=zwf hd
 have eu:=zwf hu
 have k1:=z139 m
 have k2:=z139 d
 have k3:=z139 u
 have g1:=z9e ((absI m).toNat / 12)
 have g2:=z9e ((absI m).toNat % 12)
 have g3:=z9e (absI d).toNat
 have g4:=z9e ((absI u).toNat / 3600000000)
 have g5:=zfm ((absI u).toNat / 60000000 % 60)
 have g6:=zfm ((absI u).toNat / 1000000 % 60)
 have g7:=zix ((absI u).toNat % 1000000)
 rw [z19v,zvt hm,zvt hd,zvt hu]
 simp only [oB,tn0,tn1,zv,zq]
 unfold zpr zoh
 rw [em,ed,eu]
 generalize (absI m).toNat=a at *
 generalize (absI d).toNat=b at *
 generalize (absI u).toNat=n at *
 have q1:Int.tmod (n:Int) 3600000000=((n % 3600000000:Nat):Int):=tmodN n 3600000000
 have q2:IntKind.i64.wrap (Int.tdiv (a:Int) 12)=((a / 12:Nat):Int):=by
  have:=tdivN a 12
  rw [show ((12:Nat):Int)=12 from rfl] at this
  rw [this,w64 (by omega) (by omega)]
 have q3:Int.tmod (a:Int) 12=((a % 12:Nat):Int):=tmodN a 12
 have q4:IntKind.i64.wrap (Int.tdiv (n:Int) 3600000000)=((n / 3600000000:Nat):Int):=by
  have:=tdivN n 3600000000
  rw [show ((3600000000:Nat):Int)=3600000000 from rfl] at this
  rw [this,w64 (by omega) (by omega)]
 have p1:n % 3600000000 / 60000000 % 60=n / 60000000 % 60:=by omega
 have p2:n % 3600000000 / 1000000 % 60=n / 1000000 % 60:=by omega
 have p3:n % 3600000000 % 1000000=n % 1000000:=by omega
 rw [q1,q2,q3,q4,long_zero (by omega),p1,p2,p3]
 simp only [oB,zq]
 rw [cut_two,zfs (by omega) (by omega),zfs (by omega) (by omega),zfs (by omega) (by omega),zfs (by omega) (by omega)]
 simp only [oB,zq,tn1,Int.toNat_natCast]
 have j1:=zjx [sgnB m,digN (a / 12),[45],digN (a % 12)] (by simp) (by simp [totL]; omega)
 have j2:=zjx [sgnB d,digN b] (by simp) (by simp [totL]; omega)
 have j3:=zjx [sgnB u,digN (n / 3600000000),[58],twoN (n / 60000000 % 60)++(58::(twoN (n / 1000000 % 60)++fracN (n % 1000000)))] (by simp) (by simp [totL]; omega)
 simp only [List.map_cons,List.map_nil] at j1 j2 j3
 rw [j1,j2,j3]
 simp only [oB,zq]
 have ne:∀ (x:Int) (r:List UInt8),eqS (sgnB x++r) []=false:=by
  intro x r
  unfold sgnB
  split <;> rfl
 have bt:=zz2 [32] (by simp) [[sgnB m,digN (a / 12),[45],digN (a % 12)].flatten,[sgnB d,digN b].flatten,[sgnB u,digN (n / 3600000000),[58],twoN (n / 60000000 % 60)++(58::(twoN (n / 1000000 % 60)++fracN (n % 1000000)))].flatten] (by simp) (by simp [totL]; omega)
 simp only [List.map_cons,List.map_nil] at bt
 rw [bt]
 have hf:fullL [[sgnB m,digN (a / 12),[45],digN (a % 12)].flatten,[sgnB d,digN b].flatten,[sgnB u,digN (n / 3600000000),[58],twoN (n / 60000000 % 60)++(58::(twoN (n / 1000000 % 60)++fracN (n % 1000000)))].flatten] =
   [[sgnB m,digN (a / 12),[45],digN (a % 12)].flatten,[sgnB d,digN b].flatten,[sgnB u,digN (n / 3600000000),[58],twoN (n / 60000000 % 60)++(58::(twoN (n / 1000000 % 60)++fracN (n % 1000000)))].flatten]:=by
  unfold fullL
  rw [List.filter_eq_self]
  intro x hx
  simp only [List.mem_cons,List.not_mem_nil,or_false] at hx
  rcases hx with rfl | rfl | rfl <;> rw [List.flatten_cons,ne] <;> rfl
 rw [hf]
 simp [joinB,PV.toS]
end Dv

namespace Dv
open Go
def partB (n:Int) (c:UInt8):List UInt8:=if n=0 then [] else decI n++[c]
def secB (u:Int):List UInt8:=if u=0 then [] else (if u<0 then [45] else [])++(digN ((absI u).toNat / 1000000)++(fracN ((absI u).toNat % 1000000)++[83]))
def hourI (u:Int):Int:=u.tdiv 3600000000
def minI' (u:Int):Int:=(u.tmod 3600000000).tdiv 60000000
def isoH (m d:Int):List UInt8:=80::(partB (m.tdiv 12) 89++(partB (m.tmod 12) 77++partB d 68))
def isoT (m d u:Int):List UInt8:=if u=0 then isoH m d else isoH m d++(84::(partB (hourI u) 72++(partB (minI' u) 77++secB (u.tmod 60000000))))
def isoB (m d u:Int):List UInt8:=if isoT m d u=[80] then [80,84,48,83] else isoT m d u
theorem zbb (n:Int) (c:UInt8):(partB n c).length≤22:=by
 have:=znl n
 unfold partB
 split
 ·simp
 ·simp; omega
theorem z1bh (u:Int):(secB u).length≤43:=by
 have h1:=z9e ((absI u).toNat / 1000000)
 have h2:=zix ((absI u).toNat % 1000000)
 unfold secB
 split
 ·simp
 ·split <;> simp <;> omega
theorem zqt {n:Int} (hn:InS n) (c:UInt8):zbo n [c]=some (.str (partB n c)):=by
 have hl:=znl n
 rw [z104]
 unfold partB
 by_cases h:n=0
 ·rw [c_eqT h,if_pos h]
 ·rw [c_eqF h,if_neg h,zvw hn]
  simp only [oB,zq]
  have:=zjx [decI n,[c]] (by simp) (by simp [totL]; omega)
  simp only [List.map_cons,List.map_nil] at this
  rw [this]
  simp [PV.toS]
theorem tmod_rngN {u:Int} {k:Nat} (hk:0<k):-(k:Int)<u.tmod k∧u.tmod k<k:=by
 exact ⟨Int.lt_tmod_of_pos u (by omega),Int.tmod_lt_of_pos u (by omega)⟩
theorem seconds_s {u:Int} (hu:InS u):zkw u=some (.str (secB u)):=by
 have ru:=zrk hu
 have eu:=zwf hu
 have h1:=z9e ((absI u).toNat / 1000000)
 have h2:=zix ((absI u).toNat % 1000000)
 rw [zx4]
 unfold secB
 by_cases h:u=0
 ·rw [c_eqT h,if_pos h]
 ·have ht:z1f (sgnB u) [43]=some (.str (if u<0 then [45] else [])):=by
   unfold sgnB
   by_cases hs:u<0
   ·rw [if_pos hs,if_pos hs,z19m]
   ·rw [if_neg hs,if_neg hs,z1d9]
  rw [c_eqF h,if_neg h,zvt hu]
  simp only [oB,tn0,tn1,zq,zv]
  rw [ht,eu]
  generalize (absI u).toNat=n at *
  have q1:IntKind.i64.wrap (Int.tdiv (n:Int) 1000000)=((n / 1000000:Nat):Int):=by
   have:=tdivN n 1000000
   rw [show ((1000000:Nat):Int)=1000000 from rfl] at this
   rw [this,w64 (by omega) (by omega)]
  have q2:Int.tmod (n:Int) 1000000=((n % 1000000:Nat):Int):=tmodN _ 1000000
  rw [q1,q2,zfs (by omega) (by omega),frac_s (by omega) (by omega)]
  simp only [oB,zq,Int.toNat_natCast]
  have hp:(if u<0 then [(45:UInt8)] else []).length≤1:=by split <;> simp
  generalize (if u<0 then [(45:UInt8)] else [])=p at hp ⊢
  have:=zjx [p,digN (n / 1000000),fracN (n % 1000000),[83]] (by simp) (by simp [totL]; omega)
  simp only [List.map_cons,List.map_nil] at this
  rw [this]
  simp [PV.toS]
theorem iso_parts {u:Int} (hu:InS u):IntKind.i64.wrap (u.tdiv 3600000000)=hourI u∧IntKind.i64.wrap (Int.tdiv (u.tmod 3600000000) 60000000)=minI' u∧InS (hourI u)∧InS (minI' u)∧InS (u.tmod 60000000) ∧
  IntKind.i64.wrap (Int.tdiv (IntKind.i64.wrap (Int.tdiv u 1000000)) 3600)=hourI u∧Int.tmod (IntKind.i64.wrap (Int.tdiv (IntKind.i64.wrap (Int.tdiv u 1000000)) 60)) 60=minI' u:=by
 have hs:InS (u.tmod 60000000):=by
  have:=tmod_rngN (u:=u) (k:=60000000) (by omega)
  rw [show ((60000000:Nat):Int)=60000000 from rfl] at this
  exact ⟨by omega,by omega⟩
 unfold hourI minI'
 obtain ⟨n,⟨hn,h0⟩ | ⟨hn,h0⟩⟩:=nat_or u
 ·subst hn
  have a1:Int.tdiv (n:Int) 3600000000=((n / 3600000000:Nat):Int):=tdivN n 3600000000
  have a2:Int.tmod (n:Int) 3600000000=((n % 3600000000:Nat):Int):=tmodN n 3600000000
  have a3:Int.tdiv ((n % 3600000000:Nat):Int) 60000000=((n % 3600000000 / 60000000:Nat):Int):=tdivN _ 60000000
  have a4:Int.tdiv (n:Int) 1000000=((n / 1000000:Nat):Int):=tdivN n 1000000
  have a5:Int.tdiv ((n / 1000000:Nat):Int) 3600=((n / 1000000 / 3600:Nat):Int):=tdivN _ 3600
  have a6:Int.tdiv ((n / 1000000:Nat):Int) 60=((n / 1000000 / 60:Nat):Int):=tdivN _ 60
  have a7:Int.tmod ((n / 1000000 / 60:Nat):Int) 60=((n / 1000000 / 60 % 60:Nat):Int):=tmodN _ 60
  rw [a1,a2,a3,a4,w64 (n:=((n / 1000000:Nat):Int)) (by omega) (by omega),a5,a6,w64 (n:=((n / 1000000 / 60:Nat):Int)) (by omega) (by omega),a7,w64 (by omega) (by omega),w64 (by omega) (by omega),w64 (by omega) (by omega)]
  exact ⟨rfl,rfl,⟨by omega,by omega⟩,⟨by omega,by omega⟩,hs,by omega,by omega⟩
 ·subst hn
  have a1:Int.tdiv (-(n:Int)) 3600000000=-((n / 3600000000:Nat):Int):=zhi n 3600000000
  have a2:Int.tmod (-(n:Int)) 3600000000=-((n % 3600000000:Nat):Int):=zq1 n 3600000000
  have a3:Int.tdiv (-((n % 3600000000:Nat):Int)) 60000000=-((n % 3600000000 / 60000000:Nat):Int):=zhi _ 60000000
  have a4:Int.tdiv (-(n:Int)) 1000000=-((n / 1000000:Nat):Int):=zhi n 1000000
  have a5:Int.tdiv (-((n / 1000000:Nat):Int)) 3600=-((n / 1000000 / 3600:Nat):Int):=zhi _ 3600
  have a6:Int.tdiv (-((n / 1000000:Nat):Int)) 60=-((n / 1000000 / 60:Nat):Int):=zhi _ 60
  have a7:Int.tmod (-((n / 1000000 / 60:Nat):Int)) 60=-((n / 1000000 / 60 % 60:Nat):Int):=zq1 _ 60
  rw [a1,a2,a3,a4,w64 (n:=-((n / 1000000:Nat):Int)) (by omega) (by omega),a5,a6,w64 (n:=-((n / 1000000 / 60:Nat):Int)) (by omega) (by omega),a7,w64 (by omega) (by omega),w64 (by omega) (by omega),w64 (by omega) (by omega)]
  exact ⟨rfl,rfl,⟨by omega,by omega⟩,⟨by omega,by omega⟩,hs,by omega,by omega⟩
theorem iso_s (i:Int) {m d u:Int} (hm:-2147483647≤m∧m≤2147483647) (hd:InS d) (hu:InS u):z136 i m d u=some (.str (isoB m d u)):=by
 have hy:=tdiv12 hm
 have hr:=tmod12 m
 obtain ⟨p1,p2,p3,p4,p5,_,_⟩:=iso_parts hu
 have l1:=zbb (m.tdiv 12) 89
 have l2:=zbb (m.tmod 12) 77
 have l3:=zbb d 68
 have l4:=zbb (hourI u) 72
 have l5:=zbb (minI' u) 77
 have l6:=z1bh (u.tmod 60000000)
 rw [z19w,w64 (n:=m.tdiv 12) (by omega) (by omega),zqt (n:=m.tdiv 12) (by exact ⟨by omega,by omega⟩),zqt hr,zqt hd,p1,p2,zqt p3,zqt p4,seconds_s p5]
 simp only [oB,zq]
 have j1:=zjx [[80],partB (m.tdiv 12) 89,partB (m.tmod 12) 77,partB d 68] (by simp) (by simp [totL]; omega)
 simp only [List.map_cons,List.map_nil] at j1
 have e1:[[80],partB (m.tdiv 12) 89,partB (m.tmod 12) 77,partB d 68].flatten=isoH m d:=by simp [isoH]
 have hlen:(isoH m d).length≤70:=by unfold isoH; simp; omega
 rw [j1,e1]
 simp only [oB,zq]
 unfold isoB isoT
 by_cases h:u=0
 ·rw [c_not,c_eqT h,if_pos h]
  by_cases hq:isoH m d=[80]
  ·rw [zz1 hq,if_pos hq]
  ·rw [zoi hq,if_neg hq]
 ·have j2:=zjx [isoH m d,[84],partB (hourI u) 72,partB (minI' u) 77,secB (u.tmod 60000000)] (by simp) (by simp [totL]; omega)
  simp only [List.map_cons,List.map_nil] at j2
  have e2:[isoH m d,[84],partB (hourI u) 72,partB (minI' u) 77,secB (u.tmod 60000000)].flatten=isoH m d++(84::(partB (hourI u) 72++(partB (minI' u) 77++secB (u.tmod 60000000)))):=by simp
  rw [c_not,c_eqF h,if_neg h,j2,e2]
  simp only [oB,zq]
  by_cases hq:isoH m d++(84::(partB (hourI u) 72++(partB (minI' u) 77++secB (u.tmod 60000000))))=[80]
  ·rw [zz1 hq,if_pos hq]
  ·rw [zoi hq,if_neg hq]
end Dv

namespace Dv
open Go
theorem k_parts:zph 8826=some (.tuple [.int .i64 2024,.int .i64 3,.int .i64 1]):=by rw [z10i,zif]; kernel_rfl
theorem k_first:zpj=some (.int .i64 (-2453698)):=by
 rw [z10j,zul,c_leT (by decide),zlm,zif]; kernel_rfl
theorem k_last:zsw=some (.int .i64 106754173):=by
 rw [z14q,zul,c_leF (by decide),zlm,zif]; kernel_rfl
theorem k_can:zyy 8826=some (.bool true):=by
 rw [z18a,k_first,k_last]; kernel_rfl
theorem k_date:znn 8826=some (.tuple [.int .i64 2024,.int .i64 3,.int .i64 1,.int .i64 0]):=by
 rw [z14r,k_can,k_parts]; kernel_rfl
theorem k_inside:zst 8826=some (.bool true):=by
 rw [z14n,k_date]; kernel_rfl
theorem k_right:zrc 0 8826=some (.bool true):=by
 rw [z184,k_inside]; kernel_rfl
theorem k_dparts:zys 0 8826=some (.tuple [.int .i64 2024,.int .i64 3,.int .i64 1,.int .i64 0]):=by
 rw [z185,k_right,k_date]; kernel_rfl
theorem k_show:zxa 0 8826 1 1 0=some (.tuple [.str [48,49,47,48,51,47,50,48,50,52],.int .i64 0]):=by
 have d1:digN 2024=[50,48,50,52]:=by kernel_rfl
 have t1:twoN 3=[48,51]:=by kernel_rfl
 have t2:twoN 1=[48,49]:=by kernel_rfl
 have r0:z51 [48] 0=some (.str []):=by rw [z9p,c_eqT rfl]
 have j1:=zjx [[],[50,48,50,52]] (by simp) (by simp [totL])
 have j2:=zjx [[48,49,47,48,51,47,50,48,50,52],[]] (by simp) (by simp [totL])
 have b1:=zz2 [47] (by simp) [[48,49],[48,51],[50,48,50,52]] (by simp) (by simp [totL])
 simp only [List.map_cons,List.map_nil] at j1 j2 b1
 have hd:zx6 0 8826 1 1 0=some (.tuple [.str [48,49,47,48,51,47,50,48,50,52],.str []]):=by
  rw [z16l,k_dparts]
  simp only [oB,tn0,tn1,tn2,zv]
  rw [c_ltF (by decide),zx5,zfs (by decide) (by decide)]
  simp only [oB,zq]
  have e:(2024:Int).toNat=2024:=rfl
  rw [e,d1]
  have m0:maxI 0 (IntKind.i64.wrap (4-((([50,48,50,52]:List UInt8).length:Nat):Int)))=0:=by kernel_rfl
  rw [m0,r0]
  simp only [oB,zq]
  rw [j1,z10t (by decide) (by decide),z10t (by decide) (by decide)]
  simp only [oB,zq]
  have e3:(3:Int).toNat=3:=rfl
  have e1:(1:Int).toNat=1:=rfl
  rw [e3,e1,t1,t2,c_eqF (by decide),c_eqF (by decide),c_eqT rfl]
  have f1:([[],[50,48,50,52]]:List (List UInt8)).flatten=[50,48,50,52]:=rfl
  rw [f1,b1]
  rfl
 rw [z16n,k_right]
 simp only [oB,z16]
 rw [c_not,z1cu,style_s]
 have hs:z10s 1 1 0=true:=rfl
 rw [hs]
 simp only [oB,z16]
 rw [c_not,z1cu,zx9,c_not,c_eqT rfl,hd]
 simp only [oB,tn0,tn1,zq]
 rw [j2]
 rfl
def spanV (i m d u a b c:Int):PV :=
 if spanR i m d u=true∧z10s a b c=true then
  if i≠0 then .tuple [.str (if i<0 then [45,105,110,102,105,110,105,116,121] else [105,110,102,105,110,105,116,121]),.int .i64 0]
  else .tuple [.str (if c=1 then zpr m d u else if c=2 then isoB m d u else pgB m d u),.int .i64 0]
 else .tuple [.str [],.int .i64 1]
theorem infS {i:Int} (h:i≠0):zgj i=some (.str (if i<0 then [45,105,110,102,105,110,105,116,121] else [105,110,102,105,110,105,116,121])):=by
 rw [zv1]
 by_cases hi:i<0
 ·rw [c_ltT hi,if_pos hi]
 ·rw [c_ltF hi,if_neg hi]
theorem z16i {i m d u:Int} (h1:-9223372036854775808≤u) (h2:u≤9223372036854775807) (a b c:Int):zh1 i m d u a b c=some (spanV i m d u a b c):=by
 rw [z16m,zxg h1 h2]
 unfold spanV
 simp only [oB,z16]
 cases hr:spanR i m d u with
 | false=>rw [c_not,c_false,if_neg (by simp)]
 | true =>
 rw [c_not,z1cu,style_s]
 simp only [oB,z16]
 cases hs:z10s a b c with
 | false=>rw [c_not,c_false,if_neg (by simp)]
 | true =>
 rw [c_not,z1cu,zx8,if_pos (by simp)]
 by_cases hi:i=0
 ·subst hi
  obtain ⟨m1,m2,d1,d2,u1,u2⟩:=z16j hr
  rw [c_not,c_eqT rfl,if_neg (by simp)]
  by_cases c1:c=1
  ·rw [c_eqT c1,if_pos c1,sql_s 0 ⟨by omega,by omega⟩ ⟨by omega,by omega⟩ ⟨u1,u2⟩]; rfl
  ·rw [c_eqF c1,if_neg c1]
   by_cases c2:c=2
   ·rw [c_eqT c2,if_pos c2,iso_s 0 ⟨m1,m2⟩ ⟨by omega,by omega⟩ ⟨u1,u2⟩]; rfl
   ·rw [c_eqF c2,if_neg c2,z1dn 0 ⟨m1,m2⟩ ⟨by omega,by omega⟩ ⟨u1,u2⟩]; rfl
 ·rw [c_not,c_eqF hi,if_pos hi,infS hi]; rfl
theorem z17e:z4z=some (.bool true):=by
 rw [zk9,z16i (by decide) (by decide),z16i (by decide) (by decide),z16i (by decide) (by decide),z16i (by decide) (by decide),k_show]
 kernel_rfl
end Dv

namespace Dv
open Go
def padN (s:List UInt8):List UInt8:=List.replicate (4-s.length) 48++s
def dateN (y m d:Int) (a b:Int):List UInt8 :=
 if a=0 then padN (digN y.toNat)++([45]++(twoN m.toNat++([45]++twoN d.toNat)))
 else if b=2 then twoN m.toNat++([47]++(twoN d.toNat++([47]++padN (digN y.toNat))))
 else if b=1 then twoN d.toNat++([47]++(twoN m.toNat++([47]++padN (digN y.toNat))))
 else padN (digN y.toNat)++([47]++(twoN m.toNat++([47]++twoN d.toNat)))
end Dv

set_option maxRecDepth 20000
namespace Dv
open Go
theorem rep_s (k:Nat) (hk:k≤5):z51 [48] (k:Int)=some (.str (List.replicate k 48)):=by
 match k,hk with
 | 0,_=>rw [z9p]; rfl
 | 1,_=>rw [z9p]; rfl
 | 2,_=>exact rep_2 2 (by omega) (by omega) rfl rfl
 | 3,_=>exact rep_2 3 (by omega) (by omega) rfl rfl
 | 4,_=>exact rep_2 4 (by omega) (by omega) rfl rfl
 | 5,_=>exact rep_2 5 (by omega) (by omega) rfl rfl
where
 rep_2 (k:Nat) (h2:2≤k) (h3:k≤5) (ht:takeS [(48:UInt8),48,48,48,48,48,48,48,48,48,48,48,48,48,48,48,48,48,48,48,48,48,48,48,48,48,48,48,48,48,48,48,48,48,48,48,48,48,48,48,48,48,48,48,48,48,48,48,48,48,48,48,48,48,48,48,48,48,48,48,48,48,48,48] (k:Int)=some (List.replicate k 48)) (_:(0:Int)=0) :
   z51 [48] (k:Int)=some (.str (List.replicate k 48)):=by
  have w1:IntKind.u64.wrap ((([48]:List UInt8).length:Nat):Int)=1:=rfl
  rw [z9p,c_eqF (by omega),c_eqF (by omega),c_ltF (by omega),znr,z1az,w1,wu64 (by omega) (by omega),mul64_s (by omega) (by omega)]
  simp only [oB,tn0,tn1,zv]
  rw [c_ltF (by omega),c_ltF (by omega),zkp,c_eqF (by decide)]
  have a0:atS ([48]:List UInt8) 0=some 48:=rfl
  rw [a0]
  simp only [oB]
  rw [c_eqF (by omega),c_eqF (by omega),c_eqT rfl,show (1:Int)*(k:Int) % 18446744073709551616=(k:Int) by omega,w64 (by omega) (by omega)]
  rw [zko,c_leT (by omega),z9z,z2a]
  refine Eq.trans (b:=z94 [48] (k:Int)) rfl ?_
  rw [zkn,c_leT (by omega),z9z,z2a]
  refine Eq.trans (b:=z93 [48] (k:Int)) rfl ?_
  rw [zkm,c_leT (by omega),z9z,z2a]
  refine Eq.trans (b:=zdk (k:Int)) rfl ?_
  rw [zkl,ht]
  rfl
end Dv

set_option maxRecDepth 20000
namespace Dv
open Go
def cutF (c:UInt8):List UInt8→List UInt8×List UInt8×Bool
 | []=>([],[],false)
 | d::r=>if d=c then ([],r,true) else (d::(cutF c r).1,(cutF c r).2.1,(cutF c r).2.2)
theorem cutF_index (c:UInt8):∀ s:List UInt8,(Lib.indexByte s c=-1∧cutF c s=(s,[],false))∨∃ k:Nat,Lib.indexByte s c=(k:Int)∧k<s.length∧cutF c s=(s.take k,s.drop (k+1),true)
 | []=>.inl ⟨rfl,rfl⟩
 | d::r=>by
  by_cases h:d=c
  ·subst h
   refine .inr ⟨0,by simp [Lib.indexByte],by simp,?_⟩
   unfold cutF; rw [if_pos rfl]; rfl
  ·have hb:(d == c)=false:=by simpa using h
   rcases cutF_index c r with ⟨h1,h2⟩ | ⟨k,h1,h2,h3⟩
   ·refine .inl ⟨?_,?_⟩
    ·unfold Lib.indexByte; rw [hb,h1]; rfl
    ·unfold cutF; rw [if_neg h,h2]
   ·refine .inr ⟨k+1,?_,by simp; omega,?_⟩
    ·unfold Lib.indexByte
     rw [hb,h1]
     have:((k:Int) == -1)=false:=by simp
     rw [this]; simp
    ·unfold cutF; rw [if_neg h,h3]; simp
theorem cut_s (s:List UInt8) (c:UInt8) (hs:s.length≤1000000000):z5b s [c]=some (.tuple [.str (cutF c s).1,.str (cutF c s).2.1,.bool (cutF c s).2.2]):=by
 have e1:(((List.length [c]:Nat)):Int)=1:=rfl
 have hidx:z7h s [c]=some (.int .i64 (Lib.indexByte s c)):=by
  rw [z9x,e1,c_eqF (by omega)]
  by_cases h:[c]=s
  ·subst h
   rw [zz1 rfl,zdj]
   have:Lib.indexByte [c] c=0:=by simp [Lib.indexByte]
   rw [this]
  ·rw [zoi h,z8k,c_eqT rfl,atS_z (c:=c) rfl]
   simp only [oB]
   rw [zto s c]
   rfl
 rw [znz,zhj,hidx,e1]
 simp only [oB,zv]
 rcases cutF_index c s with ⟨h1,h2⟩ | ⟨k,h1,h2,h3⟩
 ·rw [h1,c_leF (by omega),h2]; rfl
 ·rw [h1,c_leT (by omega),z130 (by omega),w64 (by omega) (by omega),show (k:Int)+1=((k+1:Nat):Int) by omega,z1ar (by omega),h3]
  rfl
def preB (c:UInt8):List UInt8→Bool
 | []=>false
 | d::_=>d == c
def preT (c:UInt8) (s:List UInt8):List UInt8:=bif preB c s then s.tail else s
theorem hasP_s (s:List UInt8) (c:UInt8) (hs:s.length≤1000000000):z53 s [c]=some (.bool (preB c s)):=by
 have e1:(((List.length [c]:Nat)):Int)=1:=rfl
 rw [z2a,e1]
 cases s with
 | nil=>rfl
 | cons d r =>
  have ht:takeS (d::r) 1=some [d]:=by rw [zvs (by omega) (by simp; omega)]; rfl
  rw [c_leT (by simp; omega),ht]
  simp only [oB]
  unfold eqS preB
  congr 2
  rw [Bool.eq_iff_iff]; simp
theorem z16v {s:List UInt8} {c:UInt8} (h:preB c s=true):dropS s (((List.length [c]:Nat)):Int)=some (preT c s):=by
 unfold preT
 rw [h,cond_true]
 cases s with
 | nil=>cases h
 | cons d r=>rw [z1ar (by simp)]; rfl
theorem zyt (s:List UInt8) (c:UInt8) (hs:s.length≤1000000000):zr s [c]=some (.tuple [.str (preT c s),.bool (preB c s)]):=by
 rw [zns,zil,hasP_s s c hs]
 simp only [oB,z16]
 cases h:preB c s with
 | false =>
  have:preT c s=s:=by unfold preT; rw [h]; rfl
  rw [this]; rfl
 | true=>rw [z16v h]; rfl
theorem zsb (s:List UInt8) (c:UInt8) (hs:s.length≤1000000000):z1f s [c]=some (.str (preT c s)):=by
 rw [z9f,z77,hasP_s s c hs]
 simp only [oB,z16]
 cases h:preB c s with
 | false =>
  have:preT c s=s:=by unfold preT; rw [h]; rfl
  rw [this]; rfl
 | true=>rw [z16v h]; rfl
end Dv

set_option maxRecDepth 20000
namespace Dv
open Go
theorem z1br:∀ (s:List UInt8) (n:Int) (o:Bool),0≤n→n≤9223372036854775807→∃ a b,numG s n o=.tuple [.int .i64 a,.int .i64 b]∧0≤a∧a≤9223372036854775807
 | [],n,o,h0,h1=>by
  cases o
  ·exact ⟨_,_,rfl,h0,h1⟩
  ·exact ⟨_,_,rfl,by omega,by omega⟩
 | c::r,n,o,h0,h1=>by
  unfold numG
  cases hd:digB c with
  | false=>exact ⟨_,_,rfl,by omega,by omega⟩
  | true =>
   have hdd:=(zbl c).1 hd
   simp only [cond_true]
   cases o with
   | true=>exact z1br r 0 true (by omega) (by omega)
   | false =>
    simp only [cond_false]
    by_cases h:10*n+((c.toNat:Int)-48)≤9223372036854775807
    ·rw [c_leT h]
     exact z1br r _ false (by omega) h
    ·rw [c_leF h]; exact z1br r 0 true (by omega) (by omega)
theorem zu2 (s:List UInt8):numV s=.tuple [.int .i64 (numN s),.int .i64 (numE s)]∧0≤numN s∧numN s≤9223372036854775807∧True:=by
 have:∃ a b,numV s=.tuple [.int .i64 a,.int .i64 b]∧0≤a∧a≤9223372036854775807:=by
  unfold numV
  cases eqS s [] with
  | true=>exact ⟨_,_,rfl,by omega,by omega⟩
  | false=>exact z1br s 0 false (by omega) (by omega)
 obtain ⟨a,b,h,h1,h2⟩:=this
 unfold numN numE
 rw [h]
 exact ⟨rfl,h1,h2,trivial⟩
theorem z5j (c:UInt8) (s:List UInt8):(preT c s).length≤s.length:=by
 unfold preT
 cases preB c s with
 | false=>exact Nat.le_refl _
 | true=>simp
def sgT (t:List UInt8) (neg:Bool):Option (Int×Bool):=if numE t=13 then none else some (bif neg then -numN t else numN t,!eqB (numE t) 0)
def sgn (s:List UInt8) (plus:Bool):Option (Int×Bool):=sgT (bif !preB 45 s&&plus then preT 43 s else preT 45 s) (preB 45 s)
def moreF (t n by_:Int) (ov:Bool):Int×Bool:=if In64 (n*by_)∧In64 (t+n*by_) then (t+n*by_,ov) else (t,true)
theorem moreF_in {t n b:Int} {ov:Bool} (h:In64 t):In64 (moreF t n b ov).1:=by
 unfold moreF
 split
 ·rename_i h'; exact h'.2
 ·exact h
theorem spSg (x0:List UInt8) (x1:Bool) (x2:Int) (x3:Int) (x4:Int) (x5:Int) (x6:Bool) (x7:Int) (x8:Int) (x9:Int) (xA:Int) (xB:Int) (xC:Int) (xD:Int) (xE:Int) (xF:Int) (xG:List PV) (xH:List UInt8) (xI:List UInt8) (xJ:List PV) (hs:x0.length≤100000000):z4a x0 x1 x2 x3 x4 x5 x6 x7 x8 x9 xA xB xC xD xE xF xG xH xI xJ=match sgn x0 x1 with | none=>(z10 xJ 13 xC xD xE xF 0 0 0 0) | some q=>(z1j q.1 12 x2 x3 x4 x5 (x6||q.2) x7 x8 x9 xA xB xC xD xE xF xG xH xI xJ):=by
 rw [zcn,zyt x0 45 (by omega)]
 simp only [oB,tn0,tn1,zq,z16]
 have h4:∀ s:List UInt8,s.length≤100000000→z1w s (preB 45 x0) x2 x3 x4 x5 x6 x7 x8 x9 xA xB xC xD xE xF xG xH xI xJ=match sgT s (preB 45 x0) with | none=>(z10 xJ 13 xC xD xE xF 0 0 0 0) | some q=>(z1j q.1 12 x2 x3 x4 x5 (x6||q.2) x7 x8 x9 xA xB xC xD xE xF xG xH xI xJ):=by
  intro s hs
  obtain ⟨e1,e2,e3,e4⟩:=zu2 s
  rw [zck,zps s (by show s.length≤70368744177664; omega),e1]
  simp only [oB,tn0,tn1,zv]
  rw [zcj]
  unfold sgT
  by_cases h13:numE s=13
  ·rw [if_pos h13,h13]; rfl
  ·rw [if_neg h13]
   have hb:(!(!eqB (numE s) 13))=false:=by unfold eqB; rw [decide_eq_false h13]; rfl
   rw [hb,cond_false,zci]
   have hw:IntKind.i64.wrap (0-numN s)=-numN s:=by rw [w64 (by omega) (by omega)]; omega
   cases hx:x6 <;> simp only [cond_true,cond_false,Bool.true_or,Bool.false_or] <;> rw [zch,hw] <;> cases preB 45 x0 <;> rfl
 rw [zcm]
 unfold sgn
 cases hn:preB 45 x0 with
 | true =>
  rw [hn] at h4
  simp only [Bool.not_true,cond_false,Bool.false_and]
  exact h4 _ (by have:=z5j 45 x0; omega)
 | false =>
  rw [hn] at h4
  cases hp:x1 with
  | false =>
   simp only [Bool.not_false,cond_true,cond_false,Bool.and_false]
   exact h4 _ (by have:=z5j 45 x0; omega)
  | true =>
   simp only [Bool.not_false,cond_true,Bool.and_self]
   rw [zcl,zsb x0 43 (by omega)]
   simp only [oB,zq]
   exact h4 _ (by have:=z5j 43 x0; omega)
theorem spSg_1 (x0:List UInt8) (x1:Bool) (x2:Int) (x3:Int) (x4:Int) (x5:Int) (x6:Bool) (x7:List PV) (x8:List PV) (x9:Nat) (xA:Int) (xB:Int) (xC:Int) (xD:Int) (xE:Int) (xF:Int) (xG:Int) (xH:Int) (xI:Int) (xJ:List UInt8) (xK:List PV) (xL:Bool) (xM:List UInt8) (xN:List PV) (hs:x0.length≤100000000):z3u x0 x1 x2 x3 x4 x5 x6 x7 x8 x9 xA xB xC xD xE xF xG xH xI xJ xK xL xM xN=match sgn x0 x1 with | none=>(some (PV.tuple [(PV.agg [(PV.int IntKind.i64 0),(PV.int IntKind.i64 0),(PV.int IntKind.i64 0),(PV.int IntKind.i64 0)]),(PV.int IntKind.i64 13)])) | some q=>(z22 xJ xK q.1 x2 x3 x4 x5 (x6||q.2) x7 x8 x9 xA xB xC xD xE xF xG xH xI xL xM xN):=by
 rw [zb5,zyt x0 45 (by omega)]
 simp only [oB,tn0,tn1,zq,z16]
 have h4:∀ s:List UInt8,s.length≤100000000→z1q s (preB 45 x0) x2 x3 x4 x5 x6 x7 x8 x9 xA xB xC xD xE xF xG xH xI xJ xK xL xM xN=match sgT s (preB 45 x0) with | none=>(some (PV.tuple [(PV.agg [(PV.int IntKind.i64 0),(PV.int IntKind.i64 0),(PV.int IntKind.i64 0),(PV.int IntKind.i64 0)]),(PV.int IntKind.i64 13)])) | some q=>(z22 xJ xK q.1 x2 x3 x4 x5 (x6||q.2) x7 x8 x9 xA xB xC xD xE xF xG xH xI xL xM xN):=by
  intro s hs
  obtain ⟨e1,e2,e3,e4⟩:=zu2 s
  rw [zaq,zps s (by show s.length≤70368744177664; omega),e1]
  simp only [oB,tn0,tn1,zv]
  rw [zal]
  unfold sgT
  by_cases h13:numE s=13
  ·rw [if_pos h13,h13]; rfl
  ·rw [if_neg h13]
   have hb:(!(!eqB (numE s) 13))=false:=by unfold eqB; rw [decide_eq_false h13]; rfl
   rw [hb,cond_false,zag]
   have hw:IntKind.i64.wrap (0-numN s)=-numN s:=by rw [w64 (by omega) (by omega)]; omega
   cases hx:x6 <;> simp only [cond_true,cond_false,Bool.true_or,Bool.false_or] <;> rw [zab,hw] <;> cases preB 45 x0 <;> rfl
 rw [zb0]
 unfold sgn
 cases hn:preB 45 x0 with
 | true =>
  rw [hn] at h4
  simp only [Bool.not_true,cond_false,Bool.false_and]
  exact h4 _ (by have:=z5j 45 x0; omega)
 | false =>
  rw [hn] at h4
  cases hp:x1 with
  | false =>
   simp only [Bool.not_false,cond_true,cond_false,Bool.and_false]
   exact h4 _ (by have:=z5j 45 x0; omega)
  | true =>
   simp only [Bool.not_false,cond_true,Bool.and_self]
   rw [zav,zsb x0 43 (by omega)]
   simp only [oB,zq]
   exact h4 _ (by have:=z5j 43 x0; omega)
theorem spSg_2 (x0:List UInt8) (x1:Bool) (x2:Int) (x3:Int) (x4:Int) (x5:Int) (x6:Bool) (x7:List PV) (x8:List PV) (x9:Nat) (xA:Int) (xB:Int) (xC:Int) (xD:Int) (xE:Int) (xF:Int) (xG:Int) (xH:Int) (xI:Int) (xJ:Bool) (xK:List PV) (hs:x0.length≤100000000):z3t x0 x1 x2 x3 x4 x5 x6 x7 x8 x9 xA xB xC xD xE xF xG xH xI xJ xK=match sgn x0 x1 with | none=>(some (PV.tuple [(PV.agg [(PV.int IntKind.i64 0),(PV.int IntKind.i64 0),(PV.int IntKind.i64 0),(PV.int IntKind.i64 0)]),(PV.int IntKind.i64 13)])) | some q=>(z1x xJ q.1 x2 x3 x4 x5 (x6||q.2) x7 x8 x9 xA xB xC xD xE xF xG xH xI xK):=by
 rw [zb4,zyt x0 45 (by omega)]
 simp only [oB,tn0,tn1,zq,z16]
 have h4:∀ s:List UInt8,s.length≤100000000→z1p s (preB 45 x0) x2 x3 x4 x5 x6 x7 x8 x9 xA xB xC xD xE xF xG xH xI xJ xK=match sgT s (preB 45 x0) with | none=>(some (PV.tuple [(PV.agg [(PV.int IntKind.i64 0),(PV.int IntKind.i64 0),(PV.int IntKind.i64 0),(PV.int IntKind.i64 0)]),(PV.int IntKind.i64 13)])) | some q=>(z1x xJ q.1 x2 x3 x4 x5 (x6||q.2) x7 x8 x9 xA xB xC xD xE xF xG xH xI xK):=by
  intro s hs
  obtain ⟨e1,e2,e3,e4⟩:=zu2 s
  rw [zap,zps s (by show s.length≤70368744177664; omega),e1]
  simp only [oB,tn0,tn1,zv]
  rw [zak]
  unfold sgT
  by_cases h13:numE s=13
  ·rw [if_pos h13,h13]; rfl
  ·rw [if_neg h13]
   have hb:(!(!eqB (numE s) 13))=false:=by unfold eqB; rw [decide_eq_false h13]; rfl
   rw [hb,cond_false,zaf]
   have hw:IntKind.i64.wrap (0-numN s)=-numN s:=by rw [w64 (by omega) (by omega)]; omega
   cases hx:x6 <;> simp only [cond_true,cond_false,Bool.true_or,Bool.false_or] <;> rw [zaa,hw] <;> cases preB 45 x0 <;> rfl
 rw [zaz]
 unfold sgn
 cases hn:preB 45 x0 with
 | true =>
  rw [hn] at h4
  simp only [Bool.not_true,cond_false,Bool.false_and]
  exact h4 _ (by have:=z5j 45 x0; omega)
 | false =>
  rw [hn] at h4
  cases hp:x1 with
  | false =>
   simp only [Bool.not_false,cond_true,cond_false,Bool.and_false]
   exact h4 _ (by have:=z5j 45 x0; omega)
  | true =>
   simp only [Bool.not_false,cond_true,Bool.and_self]
   rw [zau,zsb x0 43 (by omega)]
   simp only [oB,zq]
   exact h4 _ (by have:=z5j 43 x0; omega)
theorem spSg_3 (x0:List UInt8) (x1:Bool) (x2:Int) (x3:Int) (x4:Int) (x5:Int) (x6:Bool) (x7:Int) (x8:Int) (x9:Int) (xA:Int) (xB:Int) (xC:Int) (xD:Int) (xE:Int) (xF:Int) (xG:List PV) (xH:List UInt8) (xI:List UInt8) (xJ:List PV) (hs:x0.length≤100000000):z3s x0 x1 x2 x3 x4 x5 x6 x7 x8 x9 xA xB xC xD xE xF xG xH xI xJ=match sgn x0 x1 with | none=>(z10 xJ 13 xC xD xE xF 0 0 0 0) | some q=>(z1e q.1 1 x2 x3 x4 x5 (x6||q.2) x7 x8 x9 xA xB xC xD xE xF xG xH xI xJ):=by
 rw [zb3,zyt x0 45 (by omega)]
 simp only [oB,tn0,tn1,zq,z16]
 have h4:∀ s:List UInt8,s.length≤100000000→z1o s (preB 45 x0) x2 x3 x4 x5 x6 x7 x8 x9 xA xB xC xD xE xF xG xH xI xJ=match sgT s (preB 45 x0) with | none=>(z10 xJ 13 xC xD xE xF 0 0 0 0) | some q=>(z1e q.1 1 x2 x3 x4 x5 (x6||q.2) x7 x8 x9 xA xB xC xD xE xF xG xH xI xJ):=by
  intro s hs
  obtain ⟨e1,e2,e3,e4⟩:=zu2 s
  rw [zao,zps s (by show s.length≤70368744177664; omega),e1]
  simp only [oB,tn0,tn1,zv]
  rw [zaj]
  unfold sgT
  by_cases h13:numE s=13
  ·rw [if_pos h13,h13]; rfl
  ·rw [if_neg h13]
   have hb:(!(!eqB (numE s) 13))=false:=by unfold eqB; rw [decide_eq_false h13]; rfl
   rw [hb,cond_false,zae]
   have hw:IntKind.i64.wrap (0-numN s)=-numN s:=by rw [w64 (by omega) (by omega)]; omega
   cases hx:x6 <;> simp only [cond_true,cond_false,Bool.true_or,Bool.false_or] <;> rw [za9,hw] <;> cases preB 45 x0 <;> rfl
 rw [zay]
 unfold sgn
 cases hn:preB 45 x0 with
 | true =>
  rw [hn] at h4
  simp only [Bool.not_true,cond_false,Bool.false_and]
  exact h4 _ (by have:=z5j 45 x0; omega)
 | false =>
  rw [hn] at h4
  cases hp:x1 with
  | false =>
   simp only [Bool.not_false,cond_true,cond_false,Bool.and_false]
   exact h4 _ (by have:=z5j 45 x0; omega)
  | true =>
   simp only [Bool.not_false,cond_true,Bool.and_self]
   rw [zat,zsb x0 43 (by omega)]
   simp only [oB,zq]
   exact h4 _ (by have:=z5j 43 x0; omega)
theorem spSg_4 (x0:List UInt8) (x1:Bool) (x2:Int) (x3:Int) (x4:Int) (x5:Int) (x6:Bool) (x7:Int) (x8:Int) (x9:Int) (xA:Int) (xB:Int) (xC:Int) (xD:Int) (xE:Int) (xF:Int) (xG:List PV) (xH:List PV) (hs:x0.length≤100000000):z3r x0 x1 x2 x3 x4 x5 x6 x7 x8 x9 xA xB xC xD xE xF xG xH=match sgn x0 x1 with | none=>(z10 xH 13 xC xD xE xF 0 0 0 0) | some q=>(z1d q.1 1 x2 x3 x4 x5 (x6||q.2) x7 x8 x9 xA xB xC xD xE xF xG xH):=by
 rw [zb2,zyt x0 45 (by omega)]
 simp only [oB,tn0,tn1,zq,z16]
 have h4:∀ s:List UInt8,s.length≤100000000→z1n s (preB 45 x0) x2 x3 x4 x5 x6 x7 x8 x9 xA xB xC xD xE xF xG xH=match sgT s (preB 45 x0) with | none=>(z10 xH 13 xC xD xE xF 0 0 0 0) | some q=>(z1d q.1 1 x2 x3 x4 x5 (x6||q.2) x7 x8 x9 xA xB xC xD xE xF xG xH):=by
  intro s hs
  obtain ⟨e1,e2,e3,e4⟩:=zu2 s
  rw [zan,zps s (by show s.length≤70368744177664; omega),e1]
  simp only [oB,tn0,tn1,zv]
  rw [zai]
  unfold sgT
  by_cases h13:numE s=13
  ·rw [if_pos h13,h13]; rfl
  ·rw [if_neg h13]
   have hb:(!(!eqB (numE s) 13))=false:=by unfold eqB; rw [decide_eq_false h13]; rfl
   rw [hb,cond_false,zad]
   have hw:IntKind.i64.wrap (0-numN s)=-numN s:=by rw [w64 (by omega) (by omega)]; omega
   cases hx:x6 <;> simp only [cond_true,cond_false,Bool.true_or,Bool.false_or] <;> rw [za8,hw] <;> cases preB 45 x0 <;> rfl
 rw [zax]
 unfold sgn
 cases hn:preB 45 x0 with
 | true =>
  rw [hn] at h4
  simp only [Bool.not_true,cond_false,Bool.false_and]
  exact h4 _ (by have:=z5j 45 x0; omega)
 | false =>
  rw [hn] at h4
  cases hp:x1 with
  | false =>
   simp only [Bool.not_false,cond_true,cond_false,Bool.and_false]
   exact h4 _ (by have:=z5j 45 x0; omega)
  | true =>
   simp only [Bool.not_false,cond_true,Bool.and_self]
   rw [zas,zsb x0 43 (by omega)]
   simp only [oB,zq]
   exact h4 _ (by have:=z5j 43 x0; omega)
theorem spSg_5 (x0:List UInt8) (x1:Bool) (x2:Int) (x3:Int) (x4:Int) (x5:Int) (x6:Bool) (x7:Int) (x8:Int) (x9:Int) (xA:Int) (xB:Int) (xC:Int) (xD:Int) (xE:Int) (xF:Int) (xG:List UInt8) (xH:List PV) (xI:List PV) (hs:x0.length≤100000000):z3q x0 x1 x2 x3 x4 x5 x6 x7 x8 x9 xA xB xC xD xE xF xG xH xI=match sgn x0 x1 with | none=>(z10 xI 13 xC xD xE xF 0 0 0 0) | some q=>(z1v xG xH q.1 x2 x3 x4 x5 (x6||q.2) x7 x8 x9 xA xB xC xD xE xF xI):=by
 rw [zb1,zyt x0 45 (by omega)]
 simp only [oB,tn0,tn1,zq,z16]
 have h4:∀ s:List UInt8,s.length≤100000000→z1m s (preB 45 x0) x2 x3 x4 x5 x6 x7 x8 x9 xA xB xC xD xE xF xG xH xI=match sgT s (preB 45 x0) with | none=>(z10 xI 13 xC xD xE xF 0 0 0 0) | some q=>(z1v xG xH q.1 x2 x3 x4 x5 (x6||q.2) x7 x8 x9 xA xB xC xD xE xF xI):=by
  intro s hs
  obtain ⟨e1,e2,e3,e4⟩:=zu2 s
  rw [zam,zps s (by show s.length≤70368744177664; omega),e1]
  simp only [oB,tn0,tn1,zv]
  rw [zah]
  unfold sgT
  by_cases h13:numE s=13
  ·rw [if_pos h13,h13]; rfl
  ·rw [if_neg h13]
   have hb:(!(!eqB (numE s) 13))=false:=by unfold eqB; rw [decide_eq_false h13]; rfl
   rw [hb,cond_false,zac]
   have hw:IntKind.i64.wrap (0-numN s)=-numN s:=by rw [w64 (by omega) (by omega)]; omega
   cases hx:x6 <;> simp only [cond_true,cond_false,Bool.true_or,Bool.false_or] <;> rw [za7,hw] <;> cases preB 45 x0 <;> rfl
 rw [zaw]
 unfold sgn
 cases hn:preB 45 x0 with
 | true =>
  rw [hn] at h4
  simp only [Bool.not_true,cond_false,Bool.false_and]
  exact h4 _ (by have:=z5j 45 x0; omega)
 | false =>
  rw [hn] at h4
  cases hp:x1 with
  | false =>
   simp only [Bool.not_false,cond_true,cond_false,Bool.and_false]
   exact h4 _ (by have:=z5j 45 x0; omega)
  | true =>
   simp only [Bool.not_false,cond_true,Bool.and_self]
   rw [zar,zsb x0 43 (by omega)]
   simp only [oB,zq]
   exact h4 _ (by have:=z5j 43 x0; omega)
theorem spMo (x0:Int) (x1:Int) (x2:Int) (x3:Int) (x4:Int) (x5:Int) (x6:Bool) (x7:Int) (x8:Int) (x9:Int) (xA:Int) (xB:Int) (xC:Int) (xD:Int) (xE:Int) (xF:Int) (xG:List PV) (xH:List UInt8) (xI:List UInt8) (xJ:List PV) (h0:In64 x0) (h1:In64 x1) (ht:In64 x3):z1j x0 x1 x2 x3 x4 x5 x6 x7 x8 x9 xA xB xC xD xE xF xG xH xI xJ=(z38 xG xH xI x2 (moreF x3 x0 x1 x6).1 x4 x5 (moreF x3 x0 x1 x6).2 x7 x8 x9 xA xB xC xD xE xF xJ):=by
 rw [zeh,mul_s h0 h1]
 unfold moreF limV
 by_cases hm:In64 (x0*x1)
 ·rw [if_pos hm]
  simp only [oB,tn0,tn1,zv]
  rw [z7c,c_eqT rfl,add_s ht hm]
  unfold limV
  by_cases ha:In64 (x3+x0*x1)
  ·rw [if_pos ha,if_pos ⟨hm,ha⟩]
   simp only [oB,tn0,tn1,zv]
   rw [z44]; rfl
  ·rw [if_neg ha,if_neg (fun h=>ha h.2)]
   simp only [oB,tn0,tn1,zv]
   rw [z44]; rfl
 ·rw [if_neg hm,if_neg (fun h=>hm h.1)]
  simp only [oB,tn0,tn1,zv]
  rw [z7c,c_eqF (by omega),z44]; rfl
theorem spMo_1 (x0:Int) (x1:Int) (x2:Int) (x3:Int) (x4:Int) (x5:Int) (x6:Bool) (x7:Int) (x8:Int) (x9:Int) (xA:Int) (xB:Int) (xC:Int) (xD:Int) (xE:Int) (xF:Int) (xG:List PV) (xH:List UInt8) (xI:List UInt8) (xJ:List PV) (h0:In64 x0) (h1:In64 x1) (ht:In64 x3):z1e x0 x1 x2 x3 x4 x5 x6 x7 x8 x9 xA xB xC xD xE xF xG xH xI xJ=(z37 xG x2 (moreF x3 x0 x1 x6).1 x4 x5 (moreF x3 x0 x1 x6).2 x7 x8 x9 xA xB xC xD xE xF xJ):=by
 rw [zd2,mul_s h0 h1]
 unfold moreF limV
 by_cases hm:In64 (x0*x1)
 ·rw [if_pos hm]
  simp only [oB,tn0,tn1,zv]
  rw [z67,c_eqT rfl,add_s ht hm]
  unfold limV
  by_cases ha:In64 (x3+x0*x1)
  ·rw [if_pos ha,if_pos ⟨hm,ha⟩]
   simp only [oB,tn0,tn1,zv]
   rw [z3i]; rfl
  ·rw [if_neg ha,if_neg (fun h=>ha h.2)]
   simp only [oB,tn0,tn1,zv]
   rw [z3i]; rfl
 ·rw [if_neg hm,if_neg (fun h=>hm h.1)]
  simp only [oB,tn0,tn1,zv]
  rw [z67,c_eqF (by omega),z3i]; rfl
theorem spMo_2 (x0:Int) (x1:Int) (x2:Int) (x3:Int) (x4:Int) (x5:Int) (x6:Bool) (x7:List PV) (x8:List PV) (x9:Nat) (xA:Int) (xB:Int) (xC:Int) (xD:Int) (xE:Int) (xF:Int) (xG:Int) (xH:Int) (xI:Int) (xJ:Int) (xK:Int) (xL:Int) (xM:Int) (xN:Bool) (xO:Int) (xP:List PV) (h0:In64 x0) (h1:In64 x1) (ht:In64 x3):z4u x0 x1 x2 x3 x4 x5 x6 x7 x8 x9 xA xB xC xD xE xF xG xH xI xJ xK xL xM xN xO xP=(z2q xN xO x2 (moreF x3 x0 x1 x6).1 x4 x5 (moreF x3 x0 x1 x6).2 x7 x8 x9 xA xB xC xD xE xF xG xH xI xJ xK xL xM xP):=by
 rw [zd1,mul_s h0 h1]
 unfold moreF limV
 by_cases hm:In64 (x0*x1)
 ·rw [if_pos hm]
  simp only [oB,tn0,tn1,zv]
  rw [z66,c_eqT rfl,add_s ht hm]
  unfold limV
  by_cases ha:In64 (x3+x0*x1)
  ·rw [if_pos ha,if_pos ⟨hm,ha⟩]
   simp only [oB,tn0,tn1,zv]
   rw [z3h]; rfl
  ·rw [if_neg ha,if_neg (fun h=>ha h.2)]
   simp only [oB,tn0,tn1,zv]
   rw [z3h]; rfl
 ·rw [if_neg hm,if_neg (fun h=>hm h.1)]
  simp only [oB,tn0,tn1,zv]
  rw [z66,c_eqF (by omega),z3h]; rfl
theorem spMo_3 (x0:Int) (x1:Int) (x2:Int) (x3:Int) (x4:Int) (x5:Int) (x6:Bool) (x7:List PV) (x8:List PV) (x9:Nat) (xA:Int) (xB:Int) (xC:Int) (xD:Int) (xE:Int) (xF:Int) (xG:Int) (xH:Int) (xI:Int) (xJ:Int) (xK:Bool) (xL:List UInt8) (xM:List PV) (h0:In64 x0) (h1:In64 x1) (ht:In64 x5):z4t x0 x1 x2 x3 x4 x5 x6 x7 x8 x9 xA xB xC xD xE xF xG xH xI xJ xK xL xM=(z2u xJ x2 x3 x4 (moreF x5 x0 x1 x6).1 (moreF x5 x0 x1 x6).2 x7 x8 x9 xA xB xC xD xE xF xG xH xI xK xL xM):=by
 rw [zd0,mul_s h0 h1]
 unfold moreF limV
 by_cases hm:In64 (x0*x1)
 ·rw [if_pos hm]
  simp only [oB,tn0,tn1,zv]
  rw [z65,c_eqT rfl,add_s ht hm]
  unfold limV
  by_cases ha:In64 (x5+x0*x1)
  ·rw [if_pos ha,if_pos ⟨hm,ha⟩]
   simp only [oB,tn0,tn1,zv]
   rw [z3g]; rfl
  ·rw [if_neg ha,if_neg (fun h=>ha h.2)]
   simp only [oB,tn0,tn1,zv]
   rw [z3g]; rfl
 ·rw [if_neg hm,if_neg (fun h=>hm h.1)]
  simp only [oB,tn0,tn1,zv]
  rw [z65,c_eqF (by omega),z3g]; rfl
theorem spMo_4 (x0:Int) (x1:Int) (x2:Int) (x3:Int) (x4:Int) (x5:Int) (x6:Bool) (x7:List PV) (x8:List PV) (x9:Nat) (xA:Int) (xB:Int) (xC:Int) (xD:Int) (xE:Int) (xF:Int) (xG:Int) (xH:Int) (xI:Int) (xJ:Int) (xK:Int) (xL:Int) (xM:Int) (xN:Bool) (xO:Int) (xP:List PV) (h0:In64 x0) (h1:In64 x1) (ht:In64 x4):z4s x0 x1 x2 x3 x4 x5 x6 x7 x8 x9 xA xB xC xD xE xF xG xH xI xJ xK xL xM xN xO xP=(z2p xN xO x2 x3 (moreF x4 x0 x1 x6).1 x5 (moreF x4 x0 x1 x6).2 x7 x8 x9 xA xB xC xD xE xF xG xH xI xJ xK xL xM xP):=by
 rw [zcz,mul_s h0 h1]
 unfold moreF limV
 by_cases hm:In64 (x0*x1)
 ·rw [if_pos hm]
  simp only [oB,tn0,tn1,zv]
  rw [z64,c_eqT rfl,add_s ht hm]
  unfold limV
  by_cases ha:In64 (x4+x0*x1)
  ·rw [if_pos ha,if_pos ⟨hm,ha⟩]
   simp only [oB,tn0,tn1,zv]
   rw [z3f]; rfl
  ·rw [if_neg ha,if_neg (fun h=>ha h.2)]
   simp only [oB,tn0,tn1,zv]
   rw [z3f]; rfl
 ·rw [if_neg hm,if_neg (fun h=>hm h.1)]
  simp only [oB,tn0,tn1,zv]
  rw [z64,c_eqF (by omega),z3f]; rfl
theorem spMo_5 (x0:Int) (x1:Int) (x2:Int) (x3:Int) (x4:Int) (x5:Int) (x6:Bool) (x7:List PV) (x8:List PV) (x9:Nat) (xA:Int) (xB:Int) (xC:Int) (xD:Int) (xE:Int) (xF:Int) (xG:Int) (xH:Int) (xI:Int) (xJ:Int) (xK:Bool) (xL:List UInt8) (xM:List PV) (h0:In64 x0) (h1:In64 x1) (ht:In64 x5):z4r x0 x1 x2 x3 x4 x5 x6 x7 x8 x9 xA xB xC xD xE xF xG xH xI xJ xK xL xM=(z2t x2 x3 x4 (moreF x5 x0 x1 x6).1 (moreF x5 x0 x1 x6).2 x7 x8 x9 xA xB xC xD xE xF xG xH xI xK xL xM):=by
 rw [zcy,mul_s h0 h1]
 unfold moreF limV
 by_cases hm:In64 (x0*x1)
 ·rw [if_pos hm]
  simp only [oB,tn0,tn1,zv]
  rw [z63,c_eqT rfl,add_s ht hm]
  unfold limV
  by_cases ha:In64 (x5+x0*x1)
  ·rw [if_pos ha,if_pos ⟨hm,ha⟩]
   simp only [oB,tn0,tn1,zv]
   rw [z3e]; rfl
  ·rw [if_neg ha,if_neg (fun h=>ha h.2)]
   simp only [oB,tn0,tn1,zv]
   rw [z3e]; rfl
 ·rw [if_neg hm,if_neg (fun h=>hm h.1)]
  simp only [oB,tn0,tn1,zv]
  rw [z63,c_eqF (by omega),z3e]; rfl
theorem spMo_6 (x0:Int) (x1:Int) (x2:Int) (x3:Int) (x4:Int) (x5:Int) (x6:Bool) (x7:List PV) (x8:List PV) (x9:Nat) (xA:Int) (xB:Int) (xC:Int) (xD:Int) (xE:Int) (xF:Int) (xG:Int) (xH:Int) (xI:Int) (xJ:Int) (xK:Int) (xL:Int) (xM:Int) (xN:Bool) (xO:Int) (xP:List PV) (h0:In64 x0) (h1:In64 x1) (ht:In64 x5):z4q x0 x1 x2 x3 x4 x5 x6 x7 x8 x9 xA xB xC xD xE xF xG xH xI xJ xK xL xM xN xO xP=(z19 xN x2 x3 x4 (moreF x5 x0 x1 x6).1 (moreF x5 x0 x1 x6).2 x7 x8 x9 xE xF xG xH xI xJ xK xL xM xP):=by
 rw [zcx,mul_s h0 h1]
 unfold moreF limV
 by_cases hm:In64 (x0*x1)
 ·rw [if_pos hm]
  simp only [oB,tn0,tn1,zv]
  rw [z62,c_eqT rfl,add_s ht hm]
  unfold limV
  by_cases ha:In64 (x5+x0*x1)
  ·rw [if_pos ha,if_pos ⟨hm,ha⟩]
   simp only [oB,tn0,tn1,zv]
   rw [z3d]; rfl
  ·rw [if_neg ha,if_neg (fun h=>ha h.2)]
   simp only [oB,tn0,tn1,zv]
   rw [z3d]; rfl
 ·rw [if_neg hm,if_neg (fun h=>hm h.1)]
  simp only [oB,tn0,tn1,zv]
  rw [z62,c_eqF (by omega),z3d]; rfl
theorem spMo_7 (x0:Int) (x1:Int) (x2:Int) (x3:Int) (x4:Int) (x5:Int) (x6:Bool) (x7:Int) (x8:Int) (x9:Int) (xA:Int) (xB:Int) (xC:Int) (xD:Int) (xE:Int) (xF:Int) (xG:List PV) (xH:List PV) (h0:In64 x0) (h1:In64 x1) (ht:In64 x4):z1d x0 x1 x2 x3 x4 x5 x6 x7 x8 x9 xA xB xC xD xE xF xG xH=(z36 xG x2 x3 (moreF x4 x0 x1 x6).1 x5 (moreF x4 x0 x1 x6).2 x7 x8 x9 xA xB xC xD xE xF xH):=by
 rw [zcw,mul_s h0 h1]
 unfold moreF limV
 by_cases hm:In64 (x0*x1)
 ·rw [if_pos hm]
  simp only [oB,tn0,tn1,zv]
  rw [z61,c_eqT rfl,add_s ht hm]
  unfold limV
  by_cases ha:In64 (x4+x0*x1)
  ·rw [if_pos ha,if_pos ⟨hm,ha⟩]
   simp only [oB,tn0,tn1,zv]
   rw [z3c]; rfl
  ·rw [if_neg ha,if_neg (fun h=>ha h.2)]
   simp only [oB,tn0,tn1,zv]
   rw [z3c]; rfl
 ·rw [if_neg hm,if_neg (fun h=>hm h.1)]
  simp only [oB,tn0,tn1,zv]
  rw [z61,c_eqF (by omega),z3c]; rfl
theorem spMo_8 (x0:Int) (x1:Int) (x2:Int) (x3:Int) (x4:Int) (x5:Int) (x6:Bool) (x7:Int) (x8:Int) (x9:Int) (xA:Int) (xB:Int) (xC:Int) (xD:Int) (xE:Int) (xF:Int) (xG:Int) (xH:List PV) (h0:In64 x0) (h1:In64 x1) (ht:In64 x5):z4p x0 x1 x2 x3 x4 x5 x6 x7 x8 x9 xA xB xC xD xE xF xG xH=(z2d xG x2 x3 x4 (moreF x5 x0 x1 x6).1 (moreF x5 x0 x1 x6).2 x7 x8 x9 xA xB xC xD xE xF xH):=by
 rw [zcv,mul_s h0 h1]
 unfold moreF limV
 by_cases hm:In64 (x0*x1)
 ·rw [if_pos hm]
  simp only [oB,tn0,tn1,zv]
  rw [z60,c_eqT rfl,add_s ht hm]
  unfold limV
  by_cases ha:In64 (x5+x0*x1)
  ·rw [if_pos ha,if_pos ⟨hm,ha⟩]
   simp only [oB,tn0,tn1,zv]
   rw [z3b]; rfl
  ·rw [if_neg ha,if_neg (fun h=>ha h.2)]
   simp only [oB,tn0,tn1,zv]
   rw [z3b]; rfl
 ·rw [if_neg hm,if_neg (fun h=>hm h.1)]
  simp only [oB,tn0,tn1,zv]
  rw [z60,c_eqF (by omega),z3b]; rfl
theorem spMo_9 (x0:Int) (x1:Int) (x2:Int) (x3:Int) (x4:Int) (x5:Int) (x6:Bool) (x7:Int) (x8:Int) (x9:Int) (xA:Int) (xB:Int) (xC:Int) (xD:Int) (xE:Int) (xF:Int) (xG:Int) (xH:List PV) (h0:In64 x0) (h1:In64 x1) (ht:In64 x5):z4o x0 x1 x2 x3 x4 x5 x6 x7 x8 x9 xA xB xC xD xE xF xG xH=(z2c x7 x8 x9 xA xB x2 x3 x4 (moreF x5 x0 x1 x6).1 (moreF x5 x0 x1 x6).2 xC xD xE xF xH):=by
 rw [zcu,mul_s h0 h1]
 unfold moreF limV
 by_cases hm:In64 (x0*x1)
 ·rw [if_pos hm]
  simp only [oB,tn0,tn1,zv]
  rw [z5z,c_eqT rfl,add_s ht hm]
  unfold limV
  by_cases ha:In64 (x5+x0*x1)
  ·rw [if_pos ha,if_pos ⟨hm,ha⟩]
   simp only [oB,tn0,tn1,zv]
   rw [z3a]; rfl
  ·rw [if_neg ha,if_neg (fun h=>ha h.2)]
   simp only [oB,tn0,tn1,zv]
   rw [z3a]; rfl
 ·rw [if_neg hm,if_neg (fun h=>hm h.1)]
  simp only [oB,tn0,tn1,zv]
  rw [z5z,c_eqF (by omega),z3a]; rfl
end Dv

namespace Dv
open Go
theorem z1b5:∀ (a b:List UInt8) (n:Int),valD n (a++b)=valD (valD n a) b
 | [],b,n=>rfl
 | c::a,b,n=>by simp only [List.cons_append,valD]; exact z1b5 a b _
theorem dgt_dgN (n:Nat):dgt (dgN n)=((n % 10:Nat):Int):=by
 unfold dgt dgN
 rw [UInt8.toNat_ofNat']
 omega
theorem dgN_dB (n:Nat):digB (dgN n)=true:=by
 rw [zbl]
 unfold dgN
 rw [UInt8.toNat_ofNat']
 omega
theorem z3x:∀ (f n m:Nat),(digC f n m).all digB=true
 | 0,n,m=>rfl
 | f+1,n,m=>by
  rw [digC]
  split
  ·rfl
  ·rw [List.all_append,z3x f]; simp [dgN_dB]
theorem zra:∀ (f n m:Nat),n<10 ^ f→valD 0 (digC f n m)=(n:Int)
 | 0,n,m,h=>by simp at h; subst h; rfl
 | f+1,n,m,h=>by
  rw [digC]
  split
  ·rename_i h0; rw [h0.1]; rfl
  ·rw [z1b5,zra f (n / 10) (m-1) (by rw [Nat.pow_succ] at h; omega)]
   simp only [valD]
   rw [dgt_dgN]; omega
theorem z1bq:∀ (s:List UInt8) (n:Int) (k:Nat),s.all digB=true→0≤n→n<10 ^ k→k+s.length≤18→numG s n false=.tuple [.int .i64 (valD n s),.int .i64 0]
 | [],n,k,_,_,_,_=>rfl
 | c::r,n,k,h,h0,h1,h2=>by
  simp only [List.all_cons,Bool.and_eq_true] at h
  have hr:=dgt_rng h.1
  have hk:(10:Int) ^ k≤10 ^ 17:=by
   have:k≤17:=by simp at h2; omega
   exact_mod_cast Nat.pow_le_pow_right (by omega:0<10) this
  have hn:n<100000000000000000:=Int.lt_of_lt_of_le h1 hk
  unfold dgt at hr
  rw [numG,h.1,cond_true,cond_false,c_leT (by omega)]
  have:=z1bq r (10*n+((c.toNat:Int)-48)) (k+1) h.2 (by omega) (by rw [Int.pow_succ]; omega) (by simp at h2; omega)
  rw [this]
  rfl
theorem z13r {s:List UInt8} (hne:s≠[]) (h:s.all digB=true) (hl:s.length≤18):numN s=valD 0 s:=by
 unfold numN numV eqS
 rw [decide_eq_false hne,cond_false,z1bq s 0 0 h (Int.le_refl _) (by decide) (by omega)]
 rfl
theorem z9w (n:Nat):(twoN n).all digB=true:=z3x _ _ _
theorem z19l {n:Nat} (h:n≤99):(twoN n).length=2:=by
 rcases Nat.lt_or_ge n 10 with h' | h'
 ·rw [twoN_lt h']; rfl
 ·rw [twoN_ge h']
  unfold digN
  rw [digC,if_neg (by omega),digC,if_neg (by omega),digC,if_pos (by omega)]
  rfl
theorem two_val {n:Nat} (h:n≤99):numN (twoN n)=(n:Int):=by
 have hl:=z19l h
 rw [z13r (by intro e; rw [e] at hl; cases hl) (z9w n) (by omega)]
 exact zra 20 n 2 (by omega)
theorem z181 {s:List UInt8} (h:s.all digB=true) {lo hi:Int} (h1:lo≤s.length) (h2:(s.length:Int)≤hi):dgs s lo hi=true:=by
 unfold dgs leB; rw [h,decide_eq_true h1,decide_eq_true h2]; rfl
theorem zdi:∀ (l:List UInt8),l.all digB=true→(z3y l).all digB=true
 | [],_=>rfl
 | c::r,h=>by
  simp only [List.all_cons,Bool.and_eq_true] at h
  unfold z3y
  split
  ·rfl
  ·simp only [List.all_cons,Bool.and_eq_true]; exact ⟨h.1,zdi r h.2⟩
end Dv

set_option maxRecDepth 20000
namespace Dv
open Go
theorem zjo {s:List UInt8} {lo hi:Int} (h:dgs s lo hi=true):lo≤s.length∧(s.length:Int)≤hi∧s.all digB=true:=by
 unfold dgs leB at h
 simp only [Bool.and_eq_true,decide_eq_true_eq] at h
 exact h
theorem zqo {s:List UInt8} {k:Nat} (h:s.all digB=true) (hl:s.length≤k) (hk:k≤6) (hne:s≠[]):0≤numN s∧numN s<1000000:=by
 rw [z13r hne h (by omega)]
 have:=z1b4 s 0 0 (Int.le_refl _) (by decide) (fun c hc=>List.all_eq_true.1 h c hc)
 rw [Nat.zero_add] at this
 have h2:(10:Int) ^ s.length≤10 ^ 6:=by exact_mod_cast Nat.pow_le_pow_right (by omega) (by omega:s.length≤6)
 have h3:(10:Int) ^ 6=1000000:=by decide
 omega
def fracF (s:List UInt8):Option Int:=if dgs s 1 6=true then some (numN (s++List.replicate (6-s.length) 48)) else none
theorem zw6 {s:List UInt8} (h:dgs s 1 6=true):0≤numN (s++List.replicate (6-s.length) 48)∧numN (s++List.replicate (6-s.length) 48)<1000000:=by
 obtain ⟨h1,h2,h3⟩:=zjo h
 refine zqo (k:=6) ?_ (by simp; omega) (by omega) (by
  intro e
  have:=congrArg List.length e
  rw [List.length_append,List.length_replicate,List.length_nil] at this
  omega)
 rw [List.all_append,h3,List.all_replicate]
 simp; right; decide
def usF (b c:List UInt8):Option Int :=
 if dgs b 2 2=true∧dgs (cutF 46 c).1 2 2=true then
  (if (cutF 46 c).2.2=true then fracF (cutF 46 c).2.1 else some 0).bind fun us =>
   if numN b<60∧numN (cutF 46 c).1<60 then some (us+(numN b*60000000+numN (cutF 46 c).1*1000000)) else none
 else none
def timeF (s:List UInt8) (u:Int) (ov:Bool):Option (Option (Int×Bool)) :=
 match z3z 58 s with
 | [a,b,c]=>match sgn a true with
  | none=>none
  | some q=>match usF b c with
   | none=>none
   | some us=>some (some (moreF (moreF u q.1 3600000000 (ov||q.2)).1 (if preB 45 s=true then -us else us) 1 (moreF u q.1 3600000000 (ov||q.2)).2))
 | _=>some none
abbrev failV:PV:=.tuple [.agg [.int .i64 0,.int .i64 0,.int .i64 0,.int .i64 0],.int .i64 13]
theorem zgr (c:UInt8):∀ s:List UInt8,(cutF c s).1.length≤s.length∧(cutF c s).2.1.length≤s.length
 | []=>⟨Nat.le_refl _,Nat.le_refl _⟩
 | d::r=>by
  have:=zgr c r
  unfold cutF
  split
  ·simp
  ·simp; omega
theorem sgT_in {t:List UInt8} {neg:Bool} {q:Int×Bool} (h:sgT t neg=some q):In64 q.1:=by
 unfold sgT at h
 split at h
 ·cases h
 ·simp only [oJ] at h
  obtain ⟨e1,e2,e3,_⟩:=zu2 t
  subst h
  cases neg
  ·exact ⟨by simp only [cond_false]; omega,by simp only [cond_false]; omega⟩
  ·exact ⟨by simp only [cond_true]; omega,by simp only [cond_true]; omega⟩
theorem z114 {s:List UInt8} {plus:Bool} {q:Int×Bool} (h:sgn s plus=some q):In64 q.1:=sgT_in h
section
variable (i m d u:Int) (ov:Bool) (l met:List PV) (N:Nat) (c0 c1 c2 c3 c4 c5 c6 c7 c8:Int) (ago:Bool) (s2:List UInt8) (L:List PV)
theorem tn_c12 (s:List UInt8) (h us a b:Int) (hh:In64 h) (hu:In64 u) (hs:s≠[]) (ha:0≤a∧a<60) (hb:0≤b∧b<60) (hus:0≤us∧us<1000000) :
  z54 s h us a b i m d u ov l met N c0 c1 c2 c3 c4 c5 c6 c7 c8 ago s2 L =
   z1h ago i m d (moreF (moreF u h 3600000000 ov).1 (if preB 45 s=true then -(us+(a*60000000+b*1000000)) else us+(a*60000000+b*1000000)) 1 (moreF u h 3600000000 ov).2).1
    (moreF (moreF u h 3600000000 ov).1 (if preB 45 s=true then -(us+(a*60000000+b*1000000)) else us+(a*60000000+b*1000000)) 1 (moreF u h 3600000000 ov).2).2 l met N c0 c1 c2 c3 c4 c5 c6 c7 c8 L:=by
 have key:∀ w:Int,In64 w→z2v h w i m d u ov l met N c0 c1 c2 c3 c4 c5 c6 c7 c8 ago s2 L =
   z1h ago i m d (moreF (moreF u h 3600000000 ov).1 w 1 (moreF u h 3600000000 ov).2).1 (moreF (moreF u h 3600000000 ov).1 w 1 (moreF u h 3600000000 ov).2).2 l met N c0 c1 c2 c3 c4 c5 c6 c7 c8 L:=by
  intro w hw
  rw [zdq,spMo_3 (h0:=hh) (h1:=⟨by omega,by omega⟩) (ht:=hu),zdp,spMo_5 (h0:=hw) (h1:=⟨by omega,by omega⟩) (ht:=moreF_in hu),zdo]
 obtain ⟨c,r,rfl⟩:∃ c r,s=c::r:=by cases s with | nil=>exact absurd rfl hs | cons c r=>exact ⟨c,r,rfl⟩
 rw [zdr,atS_z (c:=c) rfl]
 simp only [oB]
 rw [w64 (n:=a*60000000) (by omega) (by omega),w64 (n:=b*1000000) (by omega) (by omega),w64 (n:=a*60000000+b*1000000) (by omega) (by omega),w64 (n:=us+(a*60000000+b*1000000)) (by omega) (by omega),w64 (by omega) (by omega)]
 by_cases h45:c=45
 ·subst h45
  rw [c_eqT (by decide),key _ ⟨by omega,by omega⟩,if_pos (by simp [preB])]
  have:∀ x:Int,0-x=-x:=fun x=>by omega
  rw [this]
 ·have h1:¬ (c.toNat:Int)=45:=by
   intro e
   apply h45
   have e:c.toNat=45:=by omega
   rw [← UInt8.ofNat_toNat (x:=c),e]
   rfl
  rw [c_eqF h1,key _ ⟨by omega,by omega⟩,if_neg (by simpa [preB] using h45)]
theorem time_n (s:List UInt8) (hs:s.length≤100000) (hu:In64 u):z5d s i m d u ov l met N c0 c1 c2 c3 c4 c5 c6 c7 c8 ago s2 L =
  match timeF s u ov with
  | none=>some failV
  | some none=>z4e ago s2 i m d u ov l met N c0 c1 c2 c3 c4 c5 c6 c7 c8 L
  | some (some q)=>z1h ago i m d q.1 q.2 l met N c0 c1 c2 c3 c4 c5 c6 c7 c8 L:=by
 rw [zeg,split_s s 58 (by omega)]
 simp only [oB,PV.toL]
 rw [zef]
 unfold timeF
 have hpl:=zte 58 s
 generalize hp:z3z 58 s=ps at hpl
 match ps with
 | []=>rw [z2b]; rfl
 | [a]=>rw [z2b]; rfl
 | [a,b]=>rw [z2b]; rfl
 | a::b::c::e::r =>
  have h3:¬ (((List.map PV.str (a::b::c::e::r)).length:Nat):Int)=3:=by simp; omega
  rw [c_not,c_eqF h3,z2b]
 | [a,b,c] =>
  have ha:=hpl a (by simp)
  have hb:=hpl b (by simp)
  have hc:=hpl c (by simp)
  have t0:rdI tiStr (List.map PV.str [a,b,c]) 0=some (.str a):=rfl
  have t1:rdI tiStr (List.map PV.str [a,b,c]) 1=some (.str b):=rfl
  have t2:rdI tiStr (List.map PV.str [a,b,c]) 2=some (.str c):=rfl
  have h3:(((List.map PV.str [a,b,c]).length:Nat):Int)=3:=rfl
  rw [c_not,c_eqT h3,zee,t0]
  simp only [oB,zq]
  rw [spSg_1 (hs:=by omega)]
  cases hq:sgn a true with
  | none=>rfl
  | some q =>
  have hqi:=z114 hq
  simp only
  rw [zed,t2]
  simp only [oB,zq]
  rw [cut_s c 46 (by omega)]
  simp only [oB,tn0,tn1,tn2,zq,z16]
  rw [zec,t1]
  have hcl:=zgr 46 c
  simp only [oB,zq]
  rw [zi6 b (by show b.length≤10000000000; omega) (by omega)]
  simp only [oB,z16]
  unfold usF
  cases hdb:dgs b 2 2 with
  | false=>rw [if_neg (by simp)]; rfl
  | true =>
  simp only [cond_true]
  rw [zi6 _ (by show (cutF 46 c).1.length≤10000000000; omega) (by omega)]
  simp only [oB,z16]
  cases hdc:dgs (cutF 46 c).1 2 2 with
  | false=>rw [if_neg (by simp)]; rfl
  | true =>
  rw [if_pos ⟨trivial,rfl⟩]
  simp only [Bool.not_true,cond_false]
  obtain ⟨b1,b2,b3⟩:=zjo hdb
  obtain ⟨c1',c2',c3'⟩:=zjo hdc
  have rb:=zqo (k:=2) b3 (by omega) (by omega) (by intro e; rw [e] at b1; simp at b1)
  have rc:=zqo (k:=2) c3' (by omega) (by omega) (by intro e; rw [e] at c1'; simp at c1')
  have hsne:s≠[]:=by intro e; subst e; cases hp
  have k10:∀ us:Int,0≤us∧us<1000000→z2w s (List.map PV.str [a,b,c]) q.1 (cutF 46 c).1 us i m d u (ov||q.2) l met N c0 c1 c2 c3 c4 c5 c6 c7 c8 ago s2 L =
    match (if numN b<60∧numN (cutF 46 c).1<60 then some (us+(numN b*60000000+numN (cutF 46 c).1*1000000)) else none:Option Int) with
    | none=>some failV
    | some us=>z1h ago i m d (moreF (moreF u q.1 3600000000 (ov||q.2)).1 (if preB 45 s=true then -us else us) 1 (moreF u q.1 3600000000 (ov||q.2)).2).1
     (moreF (moreF u q.1 3600000000 (ov||q.2)).1 (if preB 45 s=true then -us else us) 1 (moreF u q.1 3600000000 (ov||q.2)).2).2 l met N c0 c1 c2 c3 c4 c5 c6 c7 c8 L:=by
   intro us hus
   rw [zdt,t1]
   simp only [oB,zq]
   rw [zkd b (by show b.length≤10000000000; omega),zkd _ (by show (cutF 46 c).1.length≤10000000000; omega)]
   simp only [oB,zv]
   rw [zds]
   by_cases h1:numN b<60
   ·rw [c_ltT h1]
    by_cases h2:numN (cutF 46 c).1<60
    ·rw [c_not,c_ltT h2,if_pos ⟨h1,h2⟩]
     exact tn_c12 i m d u (ov||q.2) l met N c0 c1 c2 c3 c4 c5 c6 c7 c8 ago s2 L s q.1 us _ _ hqi hu hsne ⟨rb.1,h1⟩ ⟨rc.1,h2⟩ hus
    ·rw [c_not,c_ltF h2,if_neg (fun h=>h2 h.2)]
   ·rw [c_ltF h1,if_neg (fun h=>h1 h.1)]
  rw [zeb]
  cases hpt:(cutF 46 c).2.2 with
  | false =>
   simp only [cond_false,Bool.false_eq_true,if_false,oB]
   rw [k10 0 (by omega)]
   split <;> rfl
  | true =>
   simp only [cond_true,if_true]
   rw [zeo,zi6 _ (by show (cutF 46 c).2.1.length≤10000000000; omega) (by omega)]
   simp only [oB,z16]
   unfold fracF
   cases hf:dgs (cutF 46 c).2.1 1 6 with
   | false=>rfl
   | true =>
    obtain ⟨f1,f2,f3⟩:=zjo hf
    simp only [Bool.not_true,cond_false,if_true,oB]
    rw [zen,w64 (by omega) (by omega),show (6:Int)-(((cutF 46 c).2.1.length:Nat):Int)=((6-(cutF 46 c).2.1.length:Nat):Int) by omega,rep_s _ (by omega)]
    simp only [oB,zq]
    rw [zfh (by simp; omega)]
    simp only [oB]
    rw [zkd _ (by show (_++_:List UInt8).length≤10000000000; simp; omega)]
    simp only [oB,zv]
    rw [k10 _ (zw6 hf)]
    split <;> rfl
end
end Dv

set_option maxRecDepth 20000
namespace Dv
open Go
def unitT (t:List UInt8):Int×Int×Int×Int :=
 bif eqS t [121,101,97,114] then (12,0,0,1) else
 bif eqS t [121,101,97,114,115] then (12,0,0,1) else
 bif eqS t [109,111,110] then (1,0,0,2) else
 bif eqS t [109,111,110,115] then (1,0,0,2) else
 bif eqS t [109,111,110,116,104] then (1,0,0,2) else
 bif eqS t [109,111,110,116,104,115] then (1,0,0,2) else
 bif eqS t [119,101,101,107] then (0,7,0,3) else
 bif eqS t [119,101,101,107,115] then (0,7,0,3) else
 bif eqS t [100,97,121] then (0,1,0,4) else
 bif eqS t [100,97,121,115] then (0,1,0,4) else
 bif eqS t [104,111,117,114] then (0,0,3600000000,5) else
 bif eqS t [104,111,117,114,115] then (0,0,3600000000,5) else
 bif eqS t [109,105,110,117,116,101] then (0,0,60000000,6) else
 bif eqS t [109,105,110,117,116,101,115] then (0,0,60000000,6) else
 bif eqS t [109,105,110] then (0,0,60000000,6) else
 bif eqS t [109,105,110,115] then (0,0,60000000,6) else
 bif eqS t [115,101,99,111,110,100] then (0,0,1000000,7) else
 bif eqS t [115,101,99,111,110,100,115] then (0,0,1000000,7) else
 bif eqS t [115,101,99] then (0,0,1000000,7) else
 bif eqS t [115,101,99,115] then (0,0,1000000,7) else
 (0,0,0,0)
def unitV (v:Int×Int×Int×Int):PV:=.tuple [.agg [.int .i64 0,.int .i64 v.1,.int .i64 v.2.1,.int .i64 v.2.2.1],.int .i64 v.2.2.2]
theorem unit_s (s:List UInt8) (hs:s.length≤1000000):zxk s=some (unitV (unitT (lowS s))):=by
 rw [z16t,zwp s (by show s.length≤70368744177664; omega)]
 simp only [oB,zq,zxj,zv8,zv7,zv6,zv5,zv4]
 unfold unitT
 generalize lowS s=t
 cases eqS t [121,101,97,114] with
 | true=>rfl
 | false =>
 simp only [cond_false]
 cases eqS t [121,101,97,114,115] with
 | true=>rfl
 | false =>
 simp only [cond_false]
 cases eqS t [109,111,110] with
 | true=>rfl
 | false =>
 simp only [cond_false]
 cases eqS t [109,111,110,115] with
 | true=>rfl
 | false =>
 simp only [cond_false]
 cases eqS t [109,111,110,116,104] with
 | true=>rfl
 | false =>
 simp only [cond_false]
 cases eqS t [109,111,110,116,104,115] with
 | true=>rfl
 | false =>
 simp only [cond_false]
 cases eqS t [119,101,101,107] with
 | true=>rfl
 | false =>
 simp only [cond_false]
 cases eqS t [119,101,101,107,115] with
 | true=>rfl
 | false =>
 simp only [cond_false]
 cases eqS t [100,97,121] with
 | true=>rfl
 | false =>
 simp only [cond_false]
 cases eqS t [100,97,121,115] with
 | true=>rfl
 | false =>
 simp only [cond_false]
 cases eqS t [104,111,117,114] with
 | true=>rfl
 | false =>
 simp only [cond_false]
 cases eqS t [104,111,117,114,115] with
 | true=>rfl
 | false =>
 simp only [cond_false]
 cases eqS t [109,105,110,117,116,101] with
 | true=>rfl
 | false =>
 simp only [cond_false]
 cases eqS t [109,105,110,117,116,101,115] with
 | true=>rfl
 | false =>
 simp only [cond_false]
 cases eqS t [109,105,110] with
 | true=>rfl
 | false =>
 simp only [cond_false]
 cases eqS t [109,105,110,115] with
 | true=>rfl
 | false =>
 simp only [cond_false]
 cases eqS t [115,101,99,111,110,100] with
 | true=>rfl
 | false =>
 simp only [cond_false]
 cases eqS t [115,101,99,111,110,100,115] with
 | true=>rfl
 | false =>
 simp only [cond_false]
 cases eqS t [115,101,99] with
 | true=>rfl
 | false =>
 simp only [cond_false]
 cases eqS t [115,101,99,115] with
 | true=>rfl
 | false =>
 simp only [cond_false]
 rfl
theorem unit_rng (t:List UInt8):0≤(unitT t).2.2.2∧(unitT t).2.2.2<8∧In64 (unitT t).1∧In64 (unitT t).2.1∧In64 (unitT t).2.2.1:=by
 unfold unitT In64
 cases eqS t [121,101,97,114] with
 | true=>simp only [cond_true]; omega
 | false =>
 simp only [cond_false]
 cases eqS t [121,101,97,114,115] with
 | true=>simp only [cond_true]; omega
 | false =>
 simp only [cond_false]
 cases eqS t [109,111,110] with
 | true=>simp only [cond_true]; omega
 | false =>
 simp only [cond_false]
 cases eqS t [109,111,110,115] with
 | true=>simp only [cond_true]; omega
 | false =>
 simp only [cond_false]
 cases eqS t [109,111,110,116,104] with
 | true=>simp only [cond_true]; omega
 | false =>
 simp only [cond_false]
 cases eqS t [109,111,110,116,104,115] with
 | true=>simp only [cond_true]; omega
 | false =>
 simp only [cond_false]
 cases eqS t [119,101,101,107] with
 | true=>simp only [cond_true]; omega
 | false =>
 simp only [cond_false]
 cases eqS t [119,101,101,107,115] with
 | true=>simp only [cond_true]; omega
 | false =>
 simp only [cond_false]
 cases eqS t [100,97,121] with
 | true=>simp only [cond_true]; omega
 | false =>
 simp only [cond_false]
 cases eqS t [100,97,121,115] with
 | true=>simp only [cond_true]; omega
 | false =>
 simp only [cond_false]
 cases eqS t [104,111,117,114] with
 | true=>simp only [cond_true]; omega
 | false =>
 simp only [cond_false]
 cases eqS t [104,111,117,114,115] with
 | true=>simp only [cond_true]; omega
 | false =>
 simp only [cond_false]
 cases eqS t [109,105,110,117,116,101] with
 | true=>simp only [cond_true]; omega
 | false =>
 simp only [cond_false]
 cases eqS t [109,105,110,117,116,101,115] with
 | true=>simp only [cond_true]; omega
 | false =>
 simp only [cond_false]
 cases eqS t [109,105,110] with
 | true=>simp only [cond_true]; omega
 | false =>
 simp only [cond_false]
 cases eqS t [109,105,110,115] with
 | true=>simp only [cond_true]; omega
 | false =>
 simp only [cond_false]
 cases eqS t [115,101,99,111,110,100] with
 | true=>simp only [cond_true]; omega
 | false =>
 simp only [cond_false]
 cases eqS t [115,101,99,111,110,100,115] with
 | true=>simp only [cond_true]; omega
 | false =>
 simp only [cond_false]
 cases eqS t [115,101,99] with
 | true=>simp only [cond_true]; omega
 | false =>
 simp only [cond_false]
 cases eqS t [115,101,99,115] with
 | true=>simp only [cond_true]; omega
 | false =>
 simp only [cond_false]
 omega
abbrev SumS:=Int×Int×Int×Bool
def metB (met:List Bool) (k:Nat):Bool:=nthD false met k
theorem z13t:∀ (l:List Bool) (k:Nat),nthD false l k=l[k]?.getD false
 | [],k=>by simp [nthD]
 | a::l,0=>by simp [nthD]
 | a::l,k+1=>by simpa [nthD] using z13t l k
theorem z1bx {met:List Bool} (h:met.length=8) {k:Nat} (hk:k<8):rdT zq3 (met.map PV.bool) k 0=some (.bool (metB met k)):=by
 unfold rdT metB
 rw [List.getElem?_map,z13t,List.getElem?_eq_getElem (by omega)]
 rfl
theorem z1bw {met:List Bool} (h:met.length=8) {k:Nat} (hk:k<8):stC (met.map PV.bool) k 0 [.bool true]=some ((met.set k true).map PV.bool):=by
 unfold stC
 rw [List.getElem?_map,List.getElem?_eq_getElem (by omega)]
 simp [List.map_set]
def zlb:Nat→List (List UInt8)→List Bool→SumS→Option SumS
 | 0,_,_,_=>none
 | _+1,[],_,st=>some st
 | n+1,w::ws,met,(m,d,u,ov)=>match timeF w u ov with
  | none=>none
  | some (some q)=>if metB met 5=false∧metB met 6=false∧metB met 7=false then zlb n ws (((met.set 5 true).set 6 true).set 7 true) (m,d,q.1,q.2) else none
  | some none=>match sgn w true with
   | none=>none
   | some q=>match ws with
    | []=>none
    | t::ws'=>if 0<(unitT (lowS t)).2.2.2∧metB met (unitT (lowS t)).2.2.2.toNat=false then
      zlb n ws' (met.set (unitT (lowS t)).2.2.2.toNat true)
       ((moreF m q.1 (unitT (lowS t)).1 (ov||q.2)).1,(moreF d q.1 (unitT (lowS t)).2.1 (moreF m q.1 (unitT (lowS t)).1 (ov||q.2)).2).1,
        (moreF u q.1 (unitT (lowS t)).2.2.1 (moreF d q.1 (unitT (lowS t)).2.1 (moreF m q.1 (unitT (lowS t)).1 (ov||q.2)).2).2).1,
        (moreF u q.1 (unitT (lowS t)).2.2.1 (moreF d q.1 (unitT (lowS t)).2.1 (moreF m q.1 (unitT (lowS t)).1 (ov||q.2)).2).2).2)
     else none
def sumV (st:SumS):PV:=if st.2.2.2=true then .tuple [.agg [.int .i64 0,.int .i64 0,.int .i64 0,.int .i64 0],.int .i64 10]
 else if spanR 0 st.1 st.2.1 st.2.2.1=true then .tuple [.agg [.int .i64 0,.int .i64 st.1,.int .i64 st.2.1,.int .i64 st.2.2.1],.int .i64 0]
 else .tuple [.agg [.int .i64 0,.int .i64 0,.int .i64 0,.int .i64 0],.int .i64 10]
def agoF (st:SumS):SumS:=if spanR 0 st.1 st.2.1 st.2.2.1=true then (-st.1,-st.2.1,-st.2.2.1,st.2.2.2) else (0,0,0,true)
section
variable (c5 c6 c7 c8:Int) (L:List PV)
theorem try_n (m d u:Int) (ov:Bool) (hu:In64 u):z46 0 0 0 0 0 0 m d u ov c5 c6 c7 c8 L=some (sumV (m,d,u,ov)):=by
 rw [zg6]
 unfold sumV
 cases ov with
 | true=>rfl
 | false =>
  simp only [cond_false,Bool.false_eq_true,if_false]
  rw [zkv,zxg hu.1 hu.2]
  simp only [oB,z16]
  cases spanR 0 m d u <;> rfl
theorem end_n (ago:Bool) (s1:List UInt8) (m d u:Int) (ov:Bool) (l met:List PV) (N:Nat) (hm:In64 m) (hd:In64 d) (hu:In64 u) :
  z2x ago s1 false 0 m d u ov l met N 0 0 0 0 0 c5 c6 c7 c8 L=some (sumV (bif ago then agoF (m,d,u,ov) else (m,d,u,ov))):=by
 rw [z71]
 simp only [Bool.not_false,cond_true]
 cases ago with
 | false=>exact try_n c5 c6 c7 c8 L m d u ov hu
 | true =>
  simp only [cond_true]
  rw [z19t,zxg hu.1 hu.2]
  simp only [oB,z16]
  unfold agoF
  cases hr:spanR 0 m d u with
  | false =>
   simp only [Bool.not_false,cond_true,oB,tn0,tn1,zv,ag0,ag1,ag2,ag3,Bool.false_eq_true,if_false]
   rw [z5w]
   have:(!eqB (1:Int) 0)=true:=rfl
   rw [this]
   cases ov <;> simp only [cond_true,cond_false] <;> rw [z5v] <;> exact try_n c5 c6 c7 c8 L 0 0 0 true ⟨by omega,by omega⟩
  | true =>
   have h:-2147483647≤m∧m≤2147483647∧-2147483647≤d∧d≤2147483647∧-9223372036854775807≤u∧u≤9223372036854775807:=by
    unfold spanR at hr; rw [if_pos rfl] at hr; exact of_decide_eq_true hr
   simp only [Bool.not_true,cond_false,oB,tn0,tn1,zv,ag0,ag1,ag2,ag3,if_true]
   rw [w64 (n:=0-0) (by omega) (by omega),w64 (n:=0-m) (by omega) (by omega),w64 (n:=0-d) (by omega) (by omega),w64 (n:=0-u) (by omega) (by omega),z5w]
   have:(!eqB (0:Int) 0)=false:=rfl
   rw [this,show (0:Int)-m=-m by omega,show (0:Int)-d=-d by omega,show (0:Int)-u=-u by omega,show (0:Int)-0=0 by omega]
   cases ov <;> simp only [cond_true,cond_false] <;> rw [z5v] <;> exact try_n c5 c6 c7 c8 L (-m) (-d) (-u) _ ⟨by omega,by omega⟩
theorem loop_n (ago:Bool):∀ (n:Nat) (ws:List (List UInt8)) (met:List Bool) (m d u:Int) (ov:Bool),ws.length<n→n≤1000000→(∀ w∈ws,w.length≤100000)→met.length=8→In64 m→In64 d→In64 u →
  z19 ago 0 m d u ov (ws.map PV.str) (met.map PV.bool) 8 0 0 0 0 0 c5 c6 c7 c8 L =
   some (match zlb n ws met (m,d,u,ov) with | none=>failV | some st=>sumV (bif ago then agoF st else st))
 | 0,ws,met,m,d,u,ov,hn,_,_,_,_,_,_=>by omega
 | n+1,[],met,m,d,u,ov,hn,hn2,hw,hmet,hm,hd,hu=>by
  rw [z72]
  have e:((((([]:List (List UInt8)).map PV.str)).length:Nat):Int)=0:=rfl
  rw [e,c_eqT rfl]
  exact end_n c5 c6 c7 c8 L ago [] m d u ov _ _ _ hm hd hu
 | n+1,w::ws,met,m,d,u,ov,hn,hn2,hw,hmet,hm,hd,hu=>by
  have hwl:=hw w (by simp)
  have hwr:∀ x∈ws,x.length≤100000:=fun x hx=>hw x (by simp [hx])
  have hlen:ws.length<n:=by simpa using hn
  have t0:rdI tiStr (List.map PV.str (w::ws)) 0=some (.str w):=rfl
  have d1:∀ x (xs:List (List UInt8)),dropS (List.map PV.str (x::xs)) 1=some (List.map PV.str xs):=by
   intro x xs
   rw [znj (by omega) (by simp; omega)]; rfl
  rw [z72,c_eqF (by simp; omega),t0]
  simp only [oB,zq]
  rw [d1 w ws]
  simp only [oB]
  rw [z71]
  simp only [Bool.not_true,cond_false]
  rw [time_n (hs:=hwl) (hu:=hu)]
  show _=some (match (match timeF w u ov with | none=>_ | some (some q)=>_ | some none=>_) with | none=>failV | some st=>sumV (bif ago then agoF st else st))
  cases ht:timeF w u ov with
  | none=>rfl
  | some o =>
  cases o with
  | some q =>
   have hq:In64 q.1:=by
    unfold timeF at ht
    split at ht
    ·split at ht
     ·cases ht
     ·split at ht
      ·cases ht
      ·simp only [oJ] at ht
       rw [← ht]
       exact moreF_in (moreF_in hu)
    ·cases ht
   simp only
   rw [zdu,z1bx hmet (by omega),z1bx hmet (by omega),z1bx hmet (by omega)]
   simp only [oB,z16]
   cases h5:metB met 5 with
   | true=>rw [if_neg (by simp)]; rfl
   | false =>
   cases h6:metB met 6 with
   | true=>rw [if_neg (by simp)]; rfl
   | false =>
   cases h7:metB met 7 with
   | true=>rw [if_neg (by simp)]; rfl
   | false =>
   rw [if_pos ⟨rfl,rfl,rfl⟩]
   simp only [Bool.not_false,cond_true,Bool.not_true,cond_false]
   rw [zct,z1bw hmet (by omega)]
   simp only [oB]
   rw [z1bw (by simp [hmet]) (by omega)]
   simp only [oB]
   rw [z1bw (by simp [hmet]) (by omega)]
   simp only [oB]
   exact loop_n ago n ws _ m d q.1 q.2 hlen (by omega) hwr (by simp [hmet]) hm hd hq
  | none =>
   simp only
   rw [zcs,spSg_2 (hs:=by omega)]
   cases hs:sgn w true with
   | none=>rfl
   | some q =>
   have hqi:=z114 hs
   simp only
   rw [zcr]
   match ws,hlen,hwr,d1,hn with
   | [],_,_,_,_ =>
    have e:((((([]:List (List UInt8)).map PV.str)).length:Nat):Int)=0:=rfl
    rw [e,c_eqT rfl,z5y,unit_s [] (by simp)]
    simp only [oB]
    rw [z5x]
    rfl
   | t::ws',hlen,hwr,d1,hn =>
    have htl:=hwr t (by simp)
    have t1:rdI tiStr (List.map PV.str (t::ws')) 0=some (.str t):=rfl
    obtain ⟨k0,k8,hM,hD,hU⟩:=unit_rng (lowS t)
    rw [c_eqF (by simp; omega),t1]
    simp only [oB,zq]
    rw [d1 t ws']
    simp only [oB]
    rw [z5y,unit_s t (by omega)]
    simp only [oB]
    generalize unitT (lowS t)=v at k0 k8 hM hD hU
    obtain ⟨M,D,U,k⟩:=v
    simp only at k0 k8 hM hD hU ⊢
    show z4c ago true q.1 k 0 m d u (ov||q.2) (List.map PV.str ws') (List.map PV.bool met) 8 0 M D U 0 0 0 0 0 c5 c6 c7 c8 L=_
    rw [z5x]
    simp only [cond_true]
    by_cases hk:0<k
    ·have hin:inB 0 k ((8:Nat):Int)=true:=decide_eq_true ⟨k0,by omega⟩
     rw [c_ltT hk,hin,cond_true,z1bx hmet (by omega)]
     simp only [oB,z16]
     cases hmk:metB met k.toNat with
     | true=>rw [if_neg (fun h=>by cases h.2)]; rfl
     | false =>
      rw [if_pos ⟨hk,rfl⟩]
      simp only [Bool.not_false,Bool.not_true,cond_false]
      rw [zcq,hin,cond_true,z1bw hmet (by omega)]
      simp only [oB]
      rw [spMo_2 (h0:=hqi) (h1:=hM) (ht:=hm),zcp,spMo_4 (h0:=hqi) (h1:=hD) (ht:=hd),zco,spMo_6 (h0:=hqi) (h1:=hU) (ht:=hu)]
      exact loop_n ago n ws' _ _ _ _ _ (by simp at hlen; omega) (by omega) (fun x hx=>hwr x (by simp [hx])) (by simp [hmet]) (moreF_in hm) (moreF_in hd) (moreF_in hu)
    ·rw [c_ltF hk,if_neg (fun h=>hk h.1)]
end
end Dv

set_option maxRecDepth 20000
namespace Dv
open Go
noncomputable def tab1:Tab:=[
 (zgn,[.str [49,32,121,101,97,114,32,45,50,32,109,111,110,115,32,48,51,58,48,48,58,48,48,32,97,103,111]],.sl 1 [.str [49],.str [121,101,97,114],.str [45,50],.str [109,111,110,115],.str [48,51,58,48,48,58,48,48],.str [97,103,111]]),
 (ze3,[.sl 1 [.str [49],.str [121,101,97,114],.str [45,50],.str [109,111,110,115],.str [48,51,58,48,48,58,48,48],.str [97,103,111]]],.tuple [.agg [.int .i64 0,.int .i64 0],.bool false]),
 (z9r,[.str [49]],.str [49]),
 (ze4,[.sl 1 [.str [49],.str [121,101,97,114],.str [45,50],.str [109,111,110,115],.str [48,51,58,48,48,58,48,48],.str [97,103,111]]],.bool false),
 (zlg,[.str [97,103,111],.str [97,103,111]],.bool true),
 (z8z,[.str [49],.str [58]],.sl 1 [.str [49]]),
 (z8z,[.str [45,50],.str [58]],.sl 1 [.str [45,50]]),
 (z8z,[.str [48,51,58,48,48,58,48,48],.str [58]],.sl 1 [.str [48,51],.str [48,48],.str [48,48]]),
 (z1u,[.str [49],.str [45]],.tuple [.str [49],.bool false]),
 (z75,[.str [49],.str [43]],.str [49]),
 (z2o,[.str [49]],.tuple [.int .i64 (1),.int .i64 (0)]),
 (z57,[.str [121,101,97,114]],.tuple [.agg [.int .i64 (0),.int .i64 (12),.int .i64 (0),.int .i64 (0)],.int .i64 (1)]),
 (z6e,[.int .i64 (1),.int .i64 (12)],.tuple [.int .i64 (12),.int .i64 (0)]),
 (z8a,[.int .i64 (0),.int .i64 (12)],.tuple [.int .i64 (12),.int .i64 (0)]),
 (z6e,[.int .i64 (1),.int .i64 (0)],.tuple [.int .i64 (0),.int .i64 (0)]),
 (z8a,[.int .i64 (0),.int .i64 (0)],.tuple [.int .i64 (0),.int .i64 (0)]),
 (z1u,[.str [45,50],.str [45]],.tuple [.str [50],.bool true]),
 (z2o,[.str [50]],.tuple [.int .i64 (2),.int .i64 (0)]),
 (z57,[.str [109,111,110,115]],.tuple [.agg [.int .i64 (0),.int .i64 (1),.int .i64 (0),.int .i64 (0)],.int .i64 (2)]),
 (z6e,[.int .i64 (-2),.int .i64 (1)],.tuple [.int .i64 (-2),.int .i64 (0)]),
 (z8a,[.int .i64 (12),.int .i64 (-2)],.tuple [.int .i64 (10),.int .i64 (0)]),
 (z6e,[.int .i64 (-2),.int .i64 (0)],.tuple [.int .i64 (0),.int .i64 (0)]),
 (z1u,[.str [48,51],.str [45]],.tuple [.str [48,51],.bool false]),
 (z75,[.str [48,51],.str [43]],.str [48,51]),
 (z2o,[.str [48,51]],.tuple [.int .i64 (3),.int .i64 (0)]),
 (z5l,[.str [48,48],.str [46]],.tuple [.str [48,48],.str [],.bool false]),
 (zie,[.str [48,48],.int .i64 (2),.int .i64 (2)],.bool true),
 (zid,[.str [48,48]],.int .i64 (0)),
 (z6e,[.int .i64 (3),.int .i64 (3600000000)],.tuple [.int .i64 (10800000000),.int .i64 (0)]),
 (z8a,[.int .i64 (0),.int .i64 (10800000000)],.tuple [.int .i64 (10800000000),.int .i64 (0)]),
 (z6e,[.int .i64 (0),.int .i64 (1)],.tuple [.int .i64 (0),.int .i64 (0)]),
 (z8a,[.int .i64 (10800000000),.int .i64 (0)],.tuple [.int .i64 (10800000000),.int .i64 (0)]),
 (zp8,[.agg [.int .i64 (0),.int .i64 (10),.int .i64 (0),.int .i64 (10800000000)]],.tuple [.agg [.int .i64 (0),.int .i64 (-10),.int .i64 (0),.int .i64 (-10800000000)],.int .i64 (0)]),
 (zhw,[.int .i64 (-10),.int .i64 (0),.int .i64 (-10800000000)],.tuple [.agg [.int .i64 (0),.int .i64 (-10),.int .i64 (0),.int .i64 (-10800000000)],.int .i64 (0)])]
noncomputable def tab2:Tab:=[
 (zgn,[.str [80,49,89,50,77,51,68,84,52,72]],.sl 1 [.str [80,49,89,50,77,51,68,84,52,72]]),
 (ze3,[.sl 1 [.str [80,49,89,50,77,51,68,84,52,72]]],.tuple [.agg [.int .i64 0,.int .i64 0],.bool false]),
 (z9r,[.str [80,49,89,50,77,51,68,84,52,72]],.str [112,49,121,50,109,51,100,116,52,104]),
 (z5l,[.str [49,121,50,109,51,100,116,52,104],.str [116]],.tuple [.str [49,121,50,109,51,100],.str [52,104],.bool true]),
 (z5l,[.str [121,109,119,100],.str [121]],.tuple [.str [],.str [109,119,100],.bool true]),
 (z1u,[.str [49],.str [45]],.tuple [.str [49],.bool false]),
 (z2o,[.str [49]],.tuple [.int .i64 (1),.int .i64 (0)]),
 (z6e,[.int .i64 (1),.int .i64 (12)],.tuple [.int .i64 (12),.int .i64 (0)]),
 (z8a,[.int .i64 (0),.int .i64 (12)],.tuple [.int .i64 (12),.int .i64 (0)]),
 (z5l,[.str [109,119,100],.str [109]],.tuple [.str [],.str [119,100],.bool true]),
 (z1u,[.str [50],.str [45]],.tuple [.str [50],.bool false]),
 (z2o,[.str [50]],.tuple [.int .i64 (2),.int .i64 (0)]),
 (z6e,[.int .i64 (2),.int .i64 (1)],.tuple [.int .i64 (2),.int .i64 (0)]),
 (z8a,[.int .i64 (12),.int .i64 (2)],.tuple [.int .i64 (14),.int .i64 (0)]),
 (z5l,[.str [119,100],.str [100]],.tuple [.str [119],.str [],.bool true]),
 (z1u,[.str [51],.str [45]],.tuple [.str [51],.bool false]),
 (z2o,[.str [51]],.tuple [.int .i64 (3),.int .i64 (0)]),
 (z6e,[.int .i64 (3),.int .i64 (1)],.tuple [.int .i64 (3),.int .i64 (0)]),
 (z8a,[.int .i64 (0),.int .i64 (3)],.tuple [.int .i64 (3),.int .i64 (0)]),
 (z5l,[.str [104,109,115],.str [104]],.tuple [.str [],.str [109,115],.bool true]),
 (z1u,[.str [52],.str [45]],.tuple [.str [52],.bool false]),
 (z2o,[.str [52]],.tuple [.int .i64 (4),.int .i64 (0)]),
 (z6e,[.int .i64 (4),.int .i64 (3600000000)],.tuple [.int .i64 (14400000000),.int .i64 (0)]),
 (z8a,[.int .i64 (0),.int .i64 (14400000000)],.tuple [.int .i64 (14400000000),.int .i64 (0)]),
 (zhw,[.int .i64 (14),.int .i64 (3),.int .i64 (14400000000)],.tuple [.agg [.int .i64 (0),.int .i64 (14),.int .i64 (3),.int .i64 (14400000000)],.int .i64 (0)])]
end Dv

set_option maxRecDepth 20000
namespace Dv
open Go
def noMet:List Bool:=[false,false,false,false,false,false,false,false]
def agoB (ws:List (List UInt8)):Bool:=decide (1<ws.length)&&sameB ws.getLast! [97,103,111]
def zu5 (ws:List (List UInt8)):PV :=
 if (if agoB ws=true then ws.dropLast else ws)=[] then failV
 else match zlb ((if agoB ws=true then ws.dropLast else ws).length+1) (if agoB ws=true then ws.dropLast else ws) noMet (0,0,0,false) with
 | none=>failV
 | some st=>sumV (bif agoB ws then agoF st else st)
theorem last_rd {ws:List (List UInt8)} (h:ws≠[]) (hl:ws.length≤1000000):rdI tiStr (ws.map PV.str) (IntKind.i64.wrap ((((ws.map PV.str).length:Nat):Int)-1))=some (.str ws.getLast!) ∧
  takeS (ws.map PV.str) (IntKind.i64.wrap ((((ws.map PV.str).length:Nat):Int)-1))=some (ws.dropLast.map PV.str):=by
 have hp:1≤ws.length:=by cases ws with | nil=>exact absurd rfl h | cons a r=>simp
 have hw:IntKind.i64.wrap ((((ws.map PV.str).length:Nat):Int)-1)=((ws.length-1:Nat):Int):=by rw [List.length_map,w64 (by omega) (by omega)]; omega
 rw [hw]
 constructor
 ·unfold rdI rdT
  rw [decide_eq_true (by omega),cond_true,Int.toNat_natCast,List.getElem?_map,List.getElem?_eq_getElem (by omega)]
  have:ws.getLast!=ws[ws.length-1]:=by rw [List.getLast!_eq_getLast?_getD,List.getLast?_eq_getElem?,List.getElem?_eq_getElem (by omega)]; rfl
  rw [this]; rfl
 ·rw [z130 (by simp),List.dropLast_eq_take,List.map_take]
theorem named_s (ws:List (List UInt8)) (c5 c6 c7 c8:Int) (hl:ws.length≤100000) (hw:∀ w∈ws,w.length≤100000):zgk (ws.map PV.str) c5 c6 c7 c8=some (zu5 ws):=by
 rw [zv9,zg7,zdx]
 have z:In64 0:=⟨by omega,by omega⟩
 have tail:∀ (ago:Bool) (l:List (List UInt8)),l.length≤100000→(∀ w∈l,w.length≤100000)→z2y ago 0 0 0 0 false (l.map PV.str) 0 0 0 0 0 c5 c6 c7 c8 (ws.map PV.str) =
   some (if l=[] then failV else match zlb (l.length+1) l noMet (0,0,0,false) with | none=>failV | some st=>sumV (bif ago then agoF st else st)):=by
  intro ago l hl hw
  rw [zdw]
  by_cases h:l=[]
  ·subst h; rfl
  ·have:1≤l.length:=by cases l with | nil=>exact absurd rfl h | cons a r=>simp
   rw [c_not,c_ltT (by simp; omega),if_neg h,zdv]
   exact loop_n c5 c6 c7 c8 (ws.map PV.str) ago (l.length+1) l noMet 0 0 0 false (Nat.lt_succ_self _) (by omega) hw rfl z z z
 unfold zu5 agoB
 by_cases h1:1<ws.length
 ·have hne:ws≠[]:=by intro e; subst e; simp at h1
  obtain ⟨r1,r2⟩:=last_rd hne (by omega)
  have hlast:(ws.getLast!).length≤100000:=hw _ (by rw [List.getLast!_eq_getLast?_getD,List.getLast?_eq_some_getLast hne]; simp)
  rw [c_ltT (by simp; omega),r1]
  simp only [oB,zq]
  rw [wsame_s _ _ (by show _≤70368744177664; omega) (by decide)]
  simp only [oB,z16]
  rw [z73,decide_eq_true h1,Bool.true_and]
  cases hs:sameB ws.getLast! [97,103,111] with
  | true =>
   simp only [cond_true,if_true]
   rw [r2]
   simp only [oB]
   exact tail true ws.dropLast (by simp; omega) (fun w h=>hw w (List.dropLast_subset _ h))
  | false =>
   simp only [cond_false,Bool.false_eq_true,if_false]
   exact tail false ws hl hw
 ·rw [c_ltF (by simp; omega),z73,decide_eq_false h1,Bool.false_and]
  simp only [cond_false,Bool.false_eq_true,if_false]
  exact tail false ws hl hw
theorem z19s (s:List UInt8) (hs:s.length≤2048) (h0:z29 s≠[]) (h1:spcI (z29 s)≠1∧spcI (z29 s)≠-1) (h2:spcI (z29 s)=0∨spcI (z29 s)=2):z8y s=zhs ((z29 s).map PV.str) 0 0 0 0:=by
 have hw:=z12d (s:=s) (by show s.length≤10000000000; omega)
 have hne:((z29 s).map PV.str).length≠0:=by simpa using h0
 rw [zts,zl6,z1b1 s (by show s.length≤10000000000; omega)]
 simp only [oB,PV.toL]
 rw [zl5,z10l _ hw]
 simp only [oB]
 rw [zl4,c_ltF (by omega),c_eqF (by omega),zl3]
 unfold spcV
 rcases h2 with h | h <;> rw [h] <;> rfl
theorem z110 (s:List UInt8) (hs:s.length≤2048) (h2:spcI (z29 s)=0∨spcI (z29 s)=2) {w:List UInt8} {c:UInt8} {r:List UInt8} {ws:List (List UInt8)} (hw:z29 s=w::ws) (hc:lowS w=c::r) (hp:ws≠[]∨c≠112)
  (hsg:zez ((z29 s).map PV.str)=some (.bool false)):z8y s=some (zu5 (z29 s)):=by
 have hlw:=z12d (s:=s) (by show s.length≤10000000000; omega)
 have hll:(z29 s).length≤s.length+1:=by unfold z29; exact zrv s []
 have hlen:∀ x∈z29 s,x.length≤100000:=fun x hx=>by
  have:=zih s [] s.length (by simp) x hx
  omega
 rw [z19s s hs (by rw [hw]; simp) (by rcases h2 with h | h <;> rw [h] <;> decide) h2,zh6]
 have t0:rdI tiStr ((z29 s).map PV.str) 0=some (.str w):=by rw [hw]; rfl
 have hwl:w.length≤100000:=hlen w (by rw [hw]; simp)
 rw [t0]
 simp only [oB,zq]
 rw [zwp w (by show _≤70368744177664; omega)]
 simp only [oB,zq]
 have h10:zgl ((z29 s).map PV.str) 0 0 0 0=some (zu5 (z29 s)):=by
  rw [zjw,hsg]
  simp only [oB,z16,cond_false]
  exact named_s _ 0 0 0 0 (by omega) hlen
 rw [zh5]
 by_cases h1:(((((z29 s).map PV.str)).length:Nat):Int)=1
 ·rw [c_eqT h1,hc,atS_z (c:=c) rfl]
  simp only [oB]
  have hws:ws=[]:=by
   rw [hw] at h1; simp at h1
   exact List.eq_nil_of_length_eq_zero (by omega)
  have hne:c≠112:=hp.resolve_left (fun h=>h hws)
  rw [c_eqF (by
   intro e
   apply hne
   have e:c.toNat=112:=by omega
   rw [← UInt8.ofNat_toNat (x:=c),e]; rfl)]
  exact h10
 ·rw [c_eqF h1]; exact h10
end Dv

set_option maxRecDepth 20000
namespace Dv
open Go
section
variable (i m d u:Int) (ov:Bool) (c0 c1 c2 c3 c4 c5 c6 c7 c8:Int) (L:List PV)
theorem tq_c12 (s:List UInt8) (h us a b:Int) (hh:In64 h) (hu:In64 u) (hs:s≠[]) (ha:0≤a∧a<60) (hb:0≤b∧b<60) (hus:0≤us∧us<1000000) :
  z43 s h us a b i m d u ov c0 c1 c2 c3 c4 c5 c6 c7 c8 L =
   z1i c0 c1 c2 c3 c4 i m d (moreF (moreF u h 3600000000 ov).1 (if preB 45 s=true then -(us+(a*60000000+b*1000000)) else us+(a*60000000+b*1000000)) 1 (moreF u h 3600000000 ov).2).1
    (moreF (moreF u h 3600000000 ov).1 (if preB 45 s=true then -(us+(a*60000000+b*1000000)) else us+(a*60000000+b*1000000)) 1 (moreF u h 3600000000 ov).2).2 c5 c6 c7 c8 L:=by
 have key:∀ w:Int,In64 w→z2e h w i m d u ov c0 c1 c2 c3 c4 c5 c6 c7 c8 L =
   z1i c0 c1 c2 c3 c4 i m d (moreF (moreF u h 3600000000 ov).1 w 1 (moreF u h 3600000000 ov).2).1 (moreF (moreF u h 3600000000 ov).1 w 1 (moreF u h 3600000000 ov).2).2 c5 c6 c7 c8 L:=by
  intro w hw
  rw [zbs,spMo_8 (h0:=hh) (h1:=⟨by omega,by omega⟩) (ht:=hu),zbr,spMo_9 (h0:=hw) (h1:=⟨by omega,by omega⟩) (ht:=moreF_in hu),zbq]
 obtain ⟨c,r,rfl⟩:∃ c r,s=c::r:=by cases s with | nil=>exact absurd rfl hs | cons c r=>exact ⟨c,r,rfl⟩
 rw [zbt,atS_z (c:=c) rfl]
 simp only [oB]
 rw [w64 (n:=a*60000000) (by omega) (by omega),w64 (n:=b*1000000) (by omega) (by omega),w64 (n:=a*60000000+b*1000000) (by omega) (by omega),w64 (n:=us+(a*60000000+b*1000000)) (by omega) (by omega),w64 (by omega) (by omega)]
 by_cases h45:c=45
 ·subst h45
  rw [c_eqT (by decide),key _ ⟨by omega,by omega⟩,if_pos (by simp [preB])]
  have:∀ x:Int,0-x=-x:=fun x=>by omega
  rw [this]
 ·have h1:¬ (c.toNat:Int)=45:=by
   intro e
   apply h45
   have e:c.toNat=45:=by omega
   rw [← UInt8.ofNat_toNat (x:=c),e]
   rfl
  rw [c_eqF h1,key _ ⟨by omega,by omega⟩,if_neg (by simpa [preB] using h45)]
theorem time_q (s:List UInt8) (hs:s.length≤100000) (hu:In64 u):z48 s i m d u ov c0 c1 c2 c3 c4 c5 c6 c7 c8 L =
  match timeF s u ov with
  | none=>z10 L 13 c5 c6 c7 c8 0 0 0 0
  | some none=>z10 L 13 c5 c6 c7 c8 0 0 0 0
  | some (some q)=>z1i c0 c1 c2 c3 c4 i m d q.1 q.2 c5 c6 c7 c8 L:=by
 rw [zcg,split_s s 58 (by omega)]
 simp only [oB,PV.toL]
 rw [zcf]
 unfold timeF
 have hpl:=zte 58 s
 generalize hp:z3z 58 s=ps at hpl
 match ps with
 | []=>rw [z25]; rfl
 | [a]=>rw [z25]; rfl
 | [a,b]=>rw [z25]; rfl
 | a::b::c::e::r =>
  have h3:¬ (((List.map PV.str (a::b::c::e::r)).length:Nat):Int)=3:=by simp; omega
  rw [c_not,c_eqF h3,z25]
 | [a,b,c] =>
  have ha:=hpl a (by simp)
  have hb:=hpl b (by simp)
  have hc:=hpl c (by simp)
  have t0:rdI tiStr (List.map PV.str [a,b,c]) 0=some (.str a):=rfl
  have t1:rdI tiStr (List.map PV.str [a,b,c]) 1=some (.str b):=rfl
  have t2:rdI tiStr (List.map PV.str [a,b,c]) 2=some (.str c):=rfl
  have h3:(((List.map PV.str [a,b,c]).length:Nat):Int)=3:=rfl
  rw [c_not,c_eqT h3,zce,t0]
  simp only [oB,zq]
  rw [spSg_5 (hs:=by omega)]
  cases hq:sgn a true with
  | none=>rfl
  | some q =>
  have hqi:=z114 hq
  simp only
  rw [zcd,t2]
  simp only [oB,zq]
  rw [cut_s c 46 (by omega)]
  simp only [oB,tn0,tn1,tn2,zq,z16]
  rw [zcc,t1]
  have hcl:=zgr 46 c
  simp only [oB,zq]
  rw [zi6 b (by show b.length≤10000000000; omega) (by omega)]
  simp only [oB,z16]
  unfold usF
  cases hdb:dgs b 2 2 with
  | false=>rw [if_neg (by simp)]; rfl
  | true =>
  simp only [cond_true]
  rw [zi6 _ (by show (cutF 46 c).1.length≤10000000000; omega) (by omega)]
  simp only [oB,z16]
  cases hdc:dgs (cutF 46 c).1 2 2 with
  | false=>rw [if_neg (by simp)]; rfl
  | true =>
  rw [if_pos ⟨trivial,rfl⟩]
  simp only [Bool.not_true,cond_false]
  obtain ⟨b1,b2,b3⟩:=zjo hdb
  obtain ⟨c1',c2',c3'⟩:=zjo hdc
  have rb:=zqo (k:=2) b3 (by omega) (by omega) (by intro e; rw [e] at b1; simp at b1)
  have rc:=zqo (k:=2) c3' (by omega) (by omega) (by intro e; rw [e] at c1'; simp at c1')
  have hsne:s≠[]:=by intro e; subst e; cases hp
  have k10:∀ us:Int,0≤us∧us<1000000→z2f s (List.map PV.str [a,b,c]) q.1 (cutF 46 c).1 us i m d u (ov||q.2) c0 c1 c2 c3 c4 c5 c6 c7 c8 L =
    match (if numN b<60∧numN (cutF 46 c).1<60 then some (us+(numN b*60000000+numN (cutF 46 c).1*1000000)) else none:Option Int) with
    | none=>z10 L 13 c5 c6 c7 c8 0 0 0 0
    | some us=>z1i c0 c1 c2 c3 c4 i m d (moreF (moreF u q.1 3600000000 (ov||q.2)).1 (if preB 45 s=true then -us else us) 1 (moreF u q.1 3600000000 (ov||q.2)).2).1
     (moreF (moreF u q.1 3600000000 (ov||q.2)).1 (if preB 45 s=true then -us else us) 1 (moreF u q.1 3600000000 (ov||q.2)).2).2 c5 c6 c7 c8 L:=by
   intro us hus
   rw [zbv,t1]
   simp only [oB,zq]
   rw [zkd b (by show b.length≤10000000000; omega),zkd _ (by show (cutF 46 c).1.length≤10000000000; omega)]
   simp only [oB,zv]
   rw [zbu]
   by_cases h1:numN b<60
   ·rw [c_ltT h1]
    by_cases h2:numN (cutF 46 c).1<60
    ·rw [c_not,c_ltT h2,if_pos ⟨h1,h2⟩]
     exact tq_c12 i m d u (ov||q.2) c0 c1 c2 c3 c4 c5 c6 c7 c8 L s q.1 us _ _ hqi hu hsne ⟨rb.1,h1⟩ ⟨rc.1,h2⟩ hus
    ·rw [c_not,c_ltF h2,if_neg (fun h=>h2 h.2)]
   ·rw [c_ltF h1,if_neg (fun h=>h1 h.1)]
  rw [zcb]
  cases hpt:(cutF 46 c).2.2 with
  | false =>
   simp only [cond_false,Bool.false_eq_true,if_false,oB]
   rw [k10 0 (by omega)]
   by_cases h60:numN b<60∧numN (cutF 46 c).1<60
   ·simp only [if_pos h60]
   ·simp only [if_neg h60]
  | true =>
   simp only [cond_true,if_true]
   rw [zde,zi6 _ (by show (cutF 46 c).2.1.length≤10000000000; omega) (by omega)]
   simp only [oB,z16]
   unfold fracF
   cases hf:dgs (cutF 46 c).2.1 1 6 with
   | false=>rfl
   | true =>
    obtain ⟨f1,f2,f3⟩:=zjo hf
    simp only [Bool.not_true,cond_false,if_true,oB]
    rw [zdd,w64 (by omega) (by omega),show (6:Int)-(((cutF 46 c).2.1.length:Nat):Int)=((6-(cutF 46 c).2.1.length:Nat):Int) by omega,rep_s _ (by omega)]
    simp only [oB,zq]
    rw [zfh (by simp; omega)]
    simp only [oB]
    rw [zkd _ (by show (_++_:List UInt8).length≤10000000000; simp; omega)]
    simp only [oB,zv]
    rw [k10 _ (zw6 hf)]
    by_cases h60:numN b<60∧numN (cutF 46 c).1<60
    ·simp only [if_pos h60]
    ·simp only [if_neg h60]
end
def sqlF (a b c:List UInt8):Option SumS :=
 if (cutF 45 (a.drop 1)).2.2=true∧dgs (cutF 45 (a.drop 1)).1 1 a.length=true∧dgs (cutF 45 (a.drop 1)).2.1 1 a.length=true then
  match sgn (a.take 1++(cutF 45 (a.drop 1)).1) true with
  | none=>none
  | some q1=>match sgn (a.take 1++(cutF 45 (a.drop 1)).2.1) true with
   | none=>none
   | some q2=>match sgn b true with
    | none=>none
    | some q3=>match timeF c 0 (moreF 0 q3.1 1 ((moreF (moreF 0 q1.1 12 q1.2).1 q2.1 1 ((moreF 0 q1.1 12 q1.2).2||q2.2)).2||q3.2)).2 with
     | some (some q)=>some ((moreF (moreF 0 q1.1 12 q1.2).1 q2.1 1 ((moreF 0 q1.1 12 q1.2).2||q2.2)).1,
       (moreF 0 q3.1 1 ((moreF (moreF 0 q1.1 12 q1.2).1 q2.1 1 ((moreF 0 q1.1 12 q1.2).2||q2.2)).2||q3.2)).1,q.1,q.2)
     | _=>none
 else none
theorem try_q (m d u:Int) (ov:Bool) (hu:In64 u) (L:List PV):z1i 0 0 0 0 0 0 m d u ov 0 0 0 0 L=some (sumV (m,d,u,ov)):=by
 rw [zg5]
 unfold sumV
 cases ov with
 | true =>
  simp only [cond_true,if_true]
  rw [zbi,c_not,c_eqF (by omega)]
 | false =>
  simp only [cond_false,Bool.false_eq_true,if_false]
  rw [zkv,zxg hu.1 hu.2]
  simp only [oB,z16]
  cases spanR 0 m d u with
  | true =>
   simp only [Bool.not_true,cond_false,oB,tn0,tn1,zv,ag0,ag1,ag2,ag3,if_true]
   rw [zbi,c_not,c_eqF (by omega)]
  | false =>
   simp only [Bool.not_false,cond_true,oB,tn0,tn1,zv,ag0,ag1,ag2,ag3,Bool.false_eq_true,if_false]
   rw [zbi,c_not,c_eqF (by omega)]
theorem fail_q (a b c:List UInt8) (ha:a.length≤100000) (hb:b.length≤100000) (hc:c.length≤100000):z10 ([a,b,c].map PV.str) 13 0 0 0 0 0 0 0 0=some (zu5 [a,b,c]):=by
 rw [zbi,c_not,c_eqT rfl]
 exact named_s [a,b,c] 0 0 0 0 (by simp) (fun w hw=>by
  simp at hw
  rcases hw with rfl | rfl | rfl <;> assumption)
theorem sql_r (a b c:List UInt8) (hne:a≠[]) (ha:a.length≤100000) (hb:b.length≤100000) (hc:c.length≤100000) :
  zjf ([a,b,c].map PV.str) 0 0 0 0=some (match sqlF a b c with | none=>zu5 [a,b,c] | some st=>sumV st):=by
 have z:In64 0:=⟨by omega,by omega⟩
 have hf:=fail_q a b c ha hb hc
 have t0:rdI tiStr ([a,b,c].map PV.str) 0=some (.str a):=rfl
 have t1:rdI tiStr ([a,b,c].map PV.str) 1=some (.str b):=rfl
 have t2:rdI tiStr ([a,b,c].map PV.str) 2=some (.str c):=rfl
 have hal:1≤a.length:=by cases a with | nil=>exact absurd rfl hne | cons x r=>simp
 have htk:(a.take 1).length≤1:=by rw [List.length_take]; omega
 have hcl:=zgr 45 (a.drop 1)
 have hdl:(a.drop 1).length≤a.length:=by rw [List.length_drop]; omega
 rw [zva,zg8,zf5,t0]
 generalize hL:[a,b,c].map PV.str=L at hf t0 t1 t2
 simp only [oB,zq]
 rw [zvs (by omega) (by omega)]
 simp only [oB,zq]
 rw [znj (by omega) (by omega)]
 simp only [oB]
 rw [show (1:Int).toNat=1 from rfl,cut_s _ 45 (by omega)]
 simp only [oB,tn0,tn1,tn2,zq,z16]
 rw [zf4,t0]
 simp only [oB,zq]
 unfold sqlF
 cases hok:(cutF 45 (a.drop 1)).2.2 with
 | false=>rw [if_neg (by simp)]; exact hf
 | true =>
 simp only [cond_true]
 rw [zi6 _ (by show _≤10000000000; omega) (by omega)]
 simp only [oB,z16]
 cases hdy:dgs (cutF 45 (a.drop 1)).1 1 a.length with
 | false=>rw [if_neg (by simp)]; exact hf
 | true =>
 simp only [cond_true]
 rw [zi6 _ (by show _≤10000000000; omega) (by omega)]
 simp only [oB,z16]
 cases hdm:dgs (cutF 45 (a.drop 1)).2.1 1 a.length with
 | false=>rw [if_neg (by simp)]; exact hf
 | true =>
 rw [if_pos ⟨trivial,trivial,rfl⟩]
 simp only [Bool.not_true,cond_false]
 rw [zf3,zfh (by omega)]
 simp only [oB]
 rw [spSg (hs:=by rw [List.length_append]; omega)]
 cases h1:sgn (a.take 1++(cutF 45 (a.drop 1)).1) true with
 | none=>exact hf
 | some q1 =>
 have i1:=z114 h1
 simp only [Bool.false_or]
 rw [spMo (h0:=i1) (h1:=⟨by omega,by omega⟩) (ht:=z)]
 have j1:In64 (moreF 0 q1.1 12 q1.2).1:=moreF_in z
 generalize moreF 0 q1.1 12 q1.2=r1 at j1
 rw [zf2,zfh (by omega)]
 simp only [oB]
 rw [spSg_3 (hs:=by rw [List.length_append]; omega)]
 cases h2:sgn (a.take 1++(cutF 45 (a.drop 1)).2.1) true with
 | none=>exact hf
 | some q2 =>
 have i2:=z114 h2
 simp only
 rw [spMo_1 (h0:=i2) (h1:=⟨by omega,by omega⟩) (ht:=j1)]
 have j2:In64 (moreF r1.1 q2.1 1 (r1.2||q2.2)).1:=moreF_in j1
 generalize moreF r1.1 q2.1 1 (r1.2||q2.2)=r2 at j2
 rw [zf1,t1]
 simp only [oB,zq]
 rw [spSg_4 (hs:=by omega)]
 cases h3:sgn b true with
 | none=>exact hf
 | some q3 =>
 have i3:=z114 h3
 simp only
 rw [spMo_7 (h0:=i3) (h1:=⟨by omega,by omega⟩) (ht:=z)]
 have j3:In64 (moreF 0 q3.1 1 (r2.2||q3.2)).1:=moreF_in z
 generalize moreF 0 q3.1 1 (r2.2||q3.2)=r3 at j3
 rw [zf0,t2]
 simp only [oB,zq]
 rw [time_q (hs:=hc) (hu:=z)]
 cases ht:timeF c 0 r3.2 with
 | none=>exact hf
 | some o =>
 cases o with
 | none=>exact hf
 | some q =>
  have hq:In64 q.1:=by
   unfold timeF at ht
   split at ht
   ·split at ht
    ·cases ht
    ·split at ht
     ·cases ht
     ·simp only [oJ] at ht
      rw [← ht]
      exact moreF_in (moreF_in z)
   ·cases ht
  exact try_q r2.1 r3.1 q.1 q.2 hq L
end Dv

namespace Dv
open Go
theorem low_dig {c:UInt8} (h:digB c=true):lowB c=c:=by
 have:=(zbl c).1 h
 unfold lowB
 rw [if_neg (by omega)]
theorem bl_no {c:UInt8} (h:33≤c.toNat):blB c=false:=decide_eq_false (by omega)
theorem zpq {s:List UInt8} (hne:s≠[]) (h:∀ c∈s,blB c=false):z29 s=[s]:=by
 have:=zbm s [] [] h
 rw [List.append_nil,List.nil_append] at this
 unfold z29
 rw [this,z47,if_neg hne]
theorem zwi {s t:List UInt8} (hne:s≠[]) (h:∀ c∈s,blB c=false):z29 (s++32::t)=s::z29 t:=by
 have:=zbm s [] (32::t) h
 rw [List.nil_append] at this
 unfold z29
 rw [this,za3 (by decide),if_neg hne]
theorem zq9 {g:UInt8}:∀ {a:List UInt8},g∉a→z3z g a=[a]
 | [],_=>rfl
 | c::a,h=>by
  rw [z3z,if_neg (by intro e; subst e; simp at h),zq9 (by intro e; exact h (List.mem_cons_of_mem _ e))]
theorem zin {g:UInt8} {r:List UInt8}:∀ {a:List UInt8},g∉a→z3z g (a++g::r)=a::z3z g r
 | [],_=>by rw [List.nil_append,z3z,if_pos rfl]
 | c::a,h=>by
  rw [List.cons_append,z3z,if_neg (by intro e; subst e; simp at h),zin (by intro e; exact h (List.mem_cons_of_mem _ e))]
theorem zc0 {g:UInt8} {a:List UInt8} (ha:a.all digB=true) (hg:digB g=false):g∉a:=by
 intro h
 rw [List.all_eq_true] at ha
 rw [ha g h] at hg; cases hg
def okC (c:UInt8):Prop:=digB c=true∨c=45∨c=47∨c=58∨c=46
def bcN (y:Int):List UInt8:=if y<1 then [32,66,67] else []
def absY (y:Int):Int:=if y<1 then 1-y else y
end Dv

set_option maxRecDepth 20000
namespace Dv
open Go
def decD:Nat→Nat→List UInt8→List UInt8
 | 0,_,acc=>acc
 | f+1,k,acc=>if 9<k then decD f (k / 10) (UInt8.ofNat (48+k % 10)::acc) else UInt8.ofNat (48+k)::acc
theorem valD_ge:∀ (s:List UInt8) (n:Int),0≤n→s.all digB=true→n≤valD n s
 | [],n,_,_=>Int.le_refl _
 | c::r,n,h,ha=>by
  rw [List.all_cons,Bool.and_eq_true] at ha
  have hd:=(zbl c).1 ha.1
  simp only [valD]
  have:=valD_ge r (10*n+dgt c) (by unfold dgt; omega) ha.2
  unfold dgt at this ⊢
  omega
theorem z13s:∀ (s:List UInt8) (n:Int),0≤n→s.all digB=true→valD n s≤9223372036854775807→numG s n false=.tuple [.int .i64 (valD n s),.int .i64 0]
 | [],n,_,_,_=>rfl
 | c::r,n,h,ha,hv=>by
  rw [List.all_cons,Bool.and_eq_true] at ha
  have hd:=(zbl c).1 ha.1
  simp only [valD] at hv ⊢
  have hge:=valD_ge r (10*n+dgt c) (by unfold dgt; omega) ha.2
  rw [numG,ha.1,cond_true,cond_false,show 10*n+((c.toNat:Int)-48)=10*n+dgt c from rfl,c_leT (by omega)]
  exact z13s r _ (by unfold dgt; omega) ha.2 hv
def decN (k:Nat):List UInt8:=decD 20 k []
def natO (n:Int):Nat:=if n<0 then (-(n+1)).toNat else n.toNat
abbrev yearsB:List UInt8:=[121,101,97,114,115]
abbrev daysB:List UInt8:=[100,97,121,115]
abbrev secsB:List UInt8:=[115,101,99,111,110,100,115]
abbrev agoT:List UInt8:=[97,103,111]
theorem zha {s:List UInt8} (h:s.all digB=true):∀ c∈s,blB c=false:=fun c hc=>bl_no (by have:=(zbl c).1 (List.all_eq_true.1 h c hc); omega)
theorem z13n {s:List UInt8} (h:s.all digB=true) {c:UInt8} (hc:digB c=false):preB c s=false:=by
 cases s with
 | nil=>rfl
 | cons d r =>
  rw [List.all_cons,Bool.and_eq_true] at h
  unfold preB
  have:d≠c:=by intro e; subst e; rw [h.1] at hc; cases hc
  simpa using this
def yF (a:Nat):Int×Bool:=moreF 0 (a:Int) 12 false
def sF (a c:Nat):Int×Bool:=moreF 0 (c:Int) 1000000 (yF a).2
def agoText (a b c:Nat):List UInt8:=decN a++32::(yearsB++32::(decN b++32::(daysB++32::(decN c++32::secsB))))
end Dv

namespace Dv
open Go
end Dv

set_option maxRecDepth 20000
namespace Dv
open Go
theorem zgq {n:Nat} (h:(n:Int)≤9223372036854775807):(digN n).all digB=true∧digN n≠[]∧(digN n).length≤20∧numV (digN n)=.tuple [.int .i64 (n:Int),.int .i64 0]:=by
 have ha:(digN n).all digB=true:=z3x 20 n 1
 have hp:=digN_pos' n
 have hne:digN n≠[]:=by intro e; rw [e] at hp; simp at hp
 have hv:valD 0 (digN n)=(n:Int):=zra 20 n 1 (by omega)
 refine ⟨ha,hne,z9e n,?_⟩
 unfold numV eqS
 rw [decide_eq_false hne,cond_false,z13s _ 0 (Int.le_refl _) ha (by rw [hv]; exact h),hv]
where
 digN_pos' (n:Nat):1≤(digN n).length:=by
  unfold digN
  rw [digC,if_neg (by omega),List.length_append]
  simp
theorem zjd {s:List UInt8} {v:Int} (ha:s.all digB=true) (hv:numV s=.tuple [.int .i64 v,.int .i64 0]) :
  sgn (43::s) true=some (v,false)∧(∀ p,sgn (45::s) p=some (-v,false))∧(∀ p,sgn s p=some (v,false)):=by
 have p1:=z13n ha (c:=45) (by decide)
 have p2:=z13n ha (c:=43) (by decide)
 have e1:preT 43 s=s:=by unfold preT; rw [p2]; rfl
 have e2:preT 45 s=s:=by unfold preT; rw [p1]; rfl
 have hE:numE s=0:=by unfold numE; rw [hv]; rfl
 have hN:numN s=v:=by unfold numN; rw [hv]; rfl
 refine ⟨?_,fun p=>?_,fun p=>?_⟩
 ·unfold sgn
  have q1:preB 45 (43::s)=false:=rfl
  have q2:preT 43 (43::s)=s:=rfl
  rw [q1,q2]
  simp only [Bool.not_false,Bool.and_self,cond_true]
  unfold sgT
  rw [hE,hN]; rfl
 ·unfold sgn
  have q1:preB 45 (45::s)=true:=rfl
  have q2:preT 45 (45::s)=s:=rfl
  rw [q1,q2]
  simp only [Bool.not_true,Bool.false_and,cond_false]
  unfold sgT
  rw [hE,hN]; rfl
 ·unfold sgn
  rw [p1,e1,e2]
  unfold sgT
  cases p <;> simp only [Bool.not_false,Bool.and_true,Bool.and_false,cond_true,cond_false] <;> rw [hE,hN] <;> rfl
theorem sgn_int {a:Int} (h:InS a):sgn (sgnB a++digN (absI a).toNat) true=some (a,false):=by
 have hb:(((absI a).toNat:Nat):Int)≤9223372036854775807:=by unfold absI; split <;> omega
 obtain ⟨d1,d2,d3,d4⟩:=zgq hb
 obtain ⟨s1,s2,s3⟩:=zjd d1 d4
 unfold sgnB
 by_cases ha:a<0
 ·rw [if_pos ha]
  have:(((absI a).toNat:Nat):Int)=-a:=by unfold absI; rw [if_pos ha]; omega
  have h2:=s2 true
  rw [this,Int.neg_neg] at h2
  exact h2
 ·rw [if_neg ha]
  have:(((absI a).toNat:Nat):Int)=a:=by unfold absI; rw [if_neg ha]; omega
  rw [this] at s1
  exact s1
theorem z138 (a:Int) {n:Nat} (h:(n:Int)≤9223372036854775807):sgn (sgnB a++digN n) true=some (if a<0 then -(n:Int) else (n:Int),false):=by
 obtain ⟨d1,d2,d3,d4⟩:=zgq h
 obtain ⟨s1,s2,s3⟩:=zjd d1 d4
 unfold sgnB
 by_cases ha:a<0
 ·rw [if_pos ha,if_pos ha]; exact s2 true
 ·rw [if_neg ha,if_neg ha]; exact s1
theorem zrd {c:UInt8} {q:List UInt8}:∀ {p:List UInt8},c∉p→cutF c (p++c::q)=(p,q,true)
 | [],_=>by show cutF c (c::q)=_; unfold cutF; rw [if_pos rfl]
 | d::p,h=>by
  have hd:d≠c:=fun e=>h (by rw [e]; simp)
  have:=zrd (q:=q) (p:=p) (fun hc=>h (List.mem_cons_of_mem _ hc))
  show cutF c (d::(p++c::q))=_
  unfold cutF
  rw [if_neg hd,this]
theorem zwd {c:UInt8}:∀ {p:List UInt8},c∉p→cutF c p=(p,[],false)
 | [],_=>rfl
 | d::p,h=>by
  have hd:d≠c:=fun e=>h (by rw [e]; simp)
  have:=zwd (p:=p) (fun hc=>h (List.mem_cons_of_mem _ hc))
  unfold cutF
  rw [if_neg hd,this]
theorem z10v:∀ s:List UInt8,z3y s++List.replicate (s.length-(z3y s).length) 48=s
 | []=>rfl
 | c::r=>by
  have ih:=z10v r
  have hl:=zx0 r
  unfold z3y
  by_cases h:z3y r=[]∧c=48
  ·rw [if_pos h]
   rw [h.1] at ih
   simp only [List.nil_append,List.length_nil,Nat.sub_zero,List.length_cons] at ih ⊢
   rw [List.replicate_succ,ih,h.2]
  ·rw [if_neg h]
   simp only [List.cons_append,List.length_cons]
   rw [show r.length+1-((z3y r).length+1)=r.length-(z3y r).length by omega,ih]
theorem z11l {f:Nat} (h0:f≠0) (h:f<1000000):fracF (z3y (digC 20 f 6))=some (f:Int):=by
 have hl6:=z180 6 20 f (by omega) (by omega)
 have hsa:=zdi _ (z3x 20 f 6)
 have hs6:=zx0 (digC 20 f 6)
 have hv:=zra 20 f 6 (by omega)
 have hb:=z10v (digC 20 f 6)
 have hne:1≤(z3y (digC 20 f 6)).length:=by
  rcases Nat.eq_zero_or_pos (z3y (digC 20 f 6)).length with h1 | h1
  ·exact absurd (z17z 20 f 6 (by omega) (List.eq_nil_of_length_eq_zero h1)) h0
  ·exact h1
 unfold fracF
 rw [z181 hsa (by omega) (by omega),if_pos rfl]
 rw [hl6] at hb
 rw [hb,z13r (by intro e; rw [e] at hl6; simp at hl6) (z3x 20 f 6) (by omega),hv]
theorem us_back {a b f:Nat} (ha:a<60) (hb:b<60) (hf:f<1000000):usF (twoN a) (twoN b++fracN f)=some ((f:Int)+((a:Int)*60000000+(b:Int)*1000000)):=by
 have l1:=z19l (n:=a) (by omega)
 have l2:=z19l (n:=b) (by omega)
 have v1:=two_val (n:=a) (by omega)
 have v2:=two_val (n:=b) (by omega)
 have n46:(46:UInt8)∉twoN b:=zc0 (z9w b) (by decide)
 have d1:dgs (twoN a) 2 2=true:=z181 (z9w a) (by omega) (by omega)
 have d2:dgs (twoN b) 2 2=true:=z181 (z9w b) (by omega) (by omega)
 by_cases h0:f=0
 ·have hfr:fracN f=[]:=by unfold fracN; rw [if_pos (.inl h0)]
  unfold usF
  rw [hfr,List.append_nil,zwd n46,d1,d2,if_pos ⟨rfl,rfl⟩]
  simp only [Bool.false_eq_true,if_false,oB]
  rw [v1,v2,if_pos ⟨by omega,by omega⟩,h0]; rfl
 ·have hfr:fracN f=46::z3y (digC 20 f 6):=by unfold fracN; rw [if_neg (by omega)]
  unfold usF
  rw [hfr,zrd n46,d1,d2,if_pos ⟨rfl,rfl⟩]
  simp only [if_true]
  rw [z11l h0 hf]
  simp only [oB]
  rw [v1,v2,if_pos ⟨by omega,by omega⟩]
abbrev sqlA (m:Int):List UInt8:=sgnB m++(digN ((absI m).toNat / 12)++(45::digN ((absI m).toNat % 12)))
abbrev sqlB (d:Int):List UInt8:=sgnB d++digN (absI d).toNat
abbrev sqlC (u:Int):List UInt8:=sgnB u++zoh (absI u).toNat
theorem zqd (a:Int):∃ c,sgnB a=[c]∧(c=43∨c=45)∧(c=45↔a<0):=by
 unfold sgnB
 by_cases h:a<0
 ·rw [if_pos h]; exact ⟨45,rfl,.inr rfl,by simp [h]⟩
 ·rw [if_neg h]; exact ⟨43,rfl,.inl rfl,by simp [h]⟩
theorem z1at (c:UInt8) (hc:c≠58) (n:Nat):z3z 58 (c::zoh n)=[c::digN (n / 3600000000),twoN (n / 60000000 % 60),twoN (n / 1000000 % 60)++fracN (n % 1000000)]:=by
 have h1:(58:UInt8)∉c::digN (n / 3600000000):=by
  intro h
  rcases List.mem_cons.1 h with h | h
  ·exact hc h.symm
  ·exact zc0 (z3x 20 _ 1) (by decide) h
 have h2:(58:UInt8)∉twoN (n / 60000000 % 60):=zc0 (z9w _) (by decide)
 have h3:(58:UInt8)∉twoN (n / 1000000 % 60)++fracN (n % 1000000):=by
  intro h
  rcases List.mem_append.1 h with h | h
  ·exact zc0 (z9w _) (by decide) h
  ·unfold fracN at h
   split at h
   ·cases h
   ·rcases List.mem_cons.1 h with h | h
    ·exact absurd h (by decide)
    ·exact zc0 (zdi _ (z3x 20 _ 6)) (by decide) h
 unfold zoh
 rw [show c::(digN (n / 3600000000)++58::(twoN (n / 60000000 % 60)++58::(twoN (n / 1000000 % 60)++fracN (n % 1000000))))=(c::digN (n / 3600000000))++58::(twoN (n / 60000000 % 60)++58::(twoN (n / 1000000 % 60)++fracN (n % 1000000))) from rfl,
  zin h1,zin h2,zq9 h3]
theorem z5k {t n b:Int} {ov:Bool} (h1:In64 (n*b)) (h2:In64 (t+n*b)):moreF t n b ov=(t+n*b,ov):=by
 unfold moreF; rw [if_pos ⟨h1,h2⟩]
theorem time_sql {u:Int} (hu:InS u):timeF (sqlC u) 0 false=some (some (u,false)):=by
 obtain ⟨c,hc,hcs,hcn⟩:=zqd u
 have h58:c≠58:=by rcases hcs with rfl | rfl <;> decide
 have hA:(((absI u).toNat:Nat):Int)=if u<0 then -u else u:=by unfold absI; split <;> omega
 have hb:(((absI u).toNat / 3600000000:Nat):Int)≤9223372036854775807:=by split at hA <;> omega
 unfold timeF
 rw [show sqlC u=c::zoh (absI u).toNat by unfold sqlC; rw [hc]; rfl,z1at c h58]
 simp only
 have hs:=z138 u hb
 rw [hc] at hs
 rw [show c::digN ((absI u).toNat / 3600000000)=[c]++digN ((absI u).toNat / 3600000000) from rfl,hs]
 simp only
 rw [us_back (by omega) (by omega) (by omega)]
 simp only [Bool.or_false]
 have hp:preB 45 (c::zoh (absI u).toNat)=decide (u<0):=by
  unfold preB
  rw [Bool.eq_iff_iff]
  simpa using hcn
 rw [hp]
 generalize (absI u).toNat=N at hA hb
 by_cases hn:u<0
 ·rw [if_pos hn] at hA
  have hi:moreF 0 (-((N / 3600000000:Nat):Int)) 3600000000 false=(-((N / 3600000000:Nat):Int)*3600000000,false):=by
   rw [z5k ⟨by omega,by omega⟩ ⟨by omega,by omega⟩]; congr 1; omega
  rw [if_pos hn,decide_eq_true hn,if_pos rfl,hi]
  simp only
  rw [z5k ⟨by omega,by omega⟩ ⟨by omega,by omega⟩]
  congr 3
  omega
 ·rw [if_neg hn] at hA
  have hi:moreF 0 ((N / 3600000000:Nat):Int) 3600000000 false=(((N / 3600000000:Nat):Int)*3600000000,false):=by
   rw [z5k ⟨by omega,by omega⟩ ⟨by omega,by omega⟩]; congr 1; omega
  rw [if_neg hn,decide_eq_false hn,if_neg (by simp),hi]
  simp only
  rw [z5k ⟨by omega,by omega⟩ ⟨by omega,by omega⟩]
  congr 3
  omega
theorem sqlF_back {m d u:Int} (hm:-2147483647≤m∧m≤2147483647) (hd:-2147483647≤d∧d≤2147483647) (hu:InS u):sqlF (sqlA m) (sqlB d) (sqlC u)=some (m,d,u,false):=by
 obtain ⟨c,hc,hcs,hcn⟩:=zqd m
 have hA:(((absI m).toNat:Nat):Int)=if m<0 then -m else m:=by unfold absI; split <;> omega
 have hY:((((absI m).toNat / 12:Nat)):Int)≤9223372036854775807:=by split at hA <;> omega
 have hM:((((absI m).toNat % 12:Nat)):Int)≤9223372036854775807:=by omega
 obtain ⟨y1,y2,y3,_⟩:=zgq hY
 obtain ⟨m1,m2,m3,_⟩:=zgq hM
 have y0:1≤(digN ((absI m).toNat / 12)).length:=by cases h:digN ((absI m).toNat / 12) with | nil=>exact absurd h y2 | cons x r=>simp
 have m0:1≤(digN ((absI m).toNat % 12)).length:=by cases h:digN ((absI m).toNat % 12) with | nil=>exact absurd h m2 | cons x r=>simp
 have e:sqlA m=c::(digN ((absI m).toNat / 12)++45::digN ((absI m).toNat % 12)):=by unfold sqlA; rw [hc]; rfl
 have el:(sqlA m).length=1+((digN ((absI m).toNat / 12)).length+(1+(digN ((absI m).toNat % 12)).length)):=by rw [e]; simp; omega
 have ec:cutF 45 ((sqlA m).drop 1)=(digN ((absI m).toNat / 12),digN ((absI m).toNat % 12),true):=by
  rw [e,List.drop_succ_cons,List.drop_zero]
  exact zrd (zc0 y1 (by decide))
 have et:(sqlA m).take 1=sgnB m:=by rw [e,hc]; rfl
 unfold sqlF
 rw [ec,et]
 simp only
 rw [z181 y1 (by omega) (by omega),z181 m1 (by omega) (by omega),if_pos ⟨trivial,rfl,rfl⟩,z138 m hY,z138 m hM,sgn_int (a:=d) ⟨by omega,by omega⟩]
 simp only [Bool.or_false]
 generalize (absI m).toNat=N at hA hY hM
 have h1:moreF 0 (if m<0 then -((N / 12:Nat):Int) else ((N / 12:Nat):Int)) 12 false=((if m<0 then -((N / 12:Nat):Int) else ((N / 12:Nat):Int))*12,false):=by
  rw [z5k] <;> split <;> first | (constructor <;> omega) | (congr 1; omega)
 rw [h1]
 simp only [Bool.or_false]
 have h2:moreF ((if m<0 then -((N / 12:Nat):Int) else ((N / 12:Nat):Int))*12) (if m<0 then -((N % 12:Nat):Int) else ((N % 12:Nat):Int)) 1 false=(m,false):=by
  by_cases hn:m<0
  ·rw [if_pos hn] at hA ⊢
   rw [if_pos hn,z5k ⟨by omega,by omega⟩ ⟨by omega,by omega⟩]
   congr 1; omega
  ·rw [if_neg hn] at hA ⊢
   rw [if_neg hn,z5k ⟨by omega,by omega⟩ ⟨by omega,by omega⟩]
   congr 1; omega
 rw [h2]
 simp only [Bool.or_false]
 have h3:moreF 0 d 1 false=(d,false):=by rw [z5k ⟨by omega,by omega⟩ ⟨by omega,by omega⟩]; congr 1; omega
 rw [h3]
 simp only
 rw [time_sql hu]
end Dv

set_option maxRecDepth 20000
namespace Dv
open Go
theorem mogen (K:Int→Bool→Option PV) (t n by_:Int) (o:Bool) (hn:In64 n) (hb:In64 by_) (ht:In64 t) :
  ((zd n by_).bind fun v=>(bif (eqB (PV.toI (PV.tnth v 1)) 0) then ((ze t (PV.toI (PV.tnth v 0))).bind fun v'=>(bif (!(eqB (PV.toI (PV.tnth v' 1)) 0)) then (K t true) else (K (PV.toI (PV.tnth v' 0)) o))) else (bif (!(eqB (PV.toI (PV.tnth v 1)) 0)) then (K t true) else (K (PV.toI (PV.tnth v 0)) o))))=K (moreF t n by_ o).1 (moreF t n by_ o).2:=by
 rw [mul_s hn hb]
 unfold moreF limV
 by_cases hm:In64 (n*by_)
 ·rw [if_pos hm]
  simp only [oB,tn0,tn1,zv]
  rw [c_eqT rfl,add_s ht hm]
  unfold limV
  by_cases ha:In64 (t+n*by_)
  ·rw [if_pos ha,if_pos ⟨hm,ha⟩]; rfl
  ·rw [if_neg ha,if_neg (fun h=>ha h.2)]; rfl
 ·rw [if_neg hm,if_neg (fun h=>hm h.1)]; rfl
theorem sgmo (K:Int→Bool→Option PV) (s:List UInt8) (t by_:Int) (ov:Bool) (hs:s.length≤100000000) (ht:In64 t) (hb:In64 by_) :
  ((zr s [45]).bind fun v1=>(bif (!(PV.toB (PV.tnth v1 1))) then ((zu (PV.toS (PV.tnth v1 0))).bind fun v2=>(bif (!(!(eqB (PV.toI (PV.tnth v2 1)) 13))) then some failV else (bif ov then (bif (PV.toB (PV.tnth v1 1)) then ((zd (IntKind.wrap IntKind.i64 (0-(PV.toI (PV.tnth v2 0)))) by_).bind fun v3=>(bif (eqB (PV.toI (PV.tnth v3 1)) 0) then ((ze t (PV.toI (PV.tnth v3 0))).bind fun v4=>(bif (!(eqB (PV.toI (PV.tnth v4 1)) 0)) then (K t true) else (K (PV.toI (PV.tnth v4 0)) true))) else (bif (!(eqB (PV.toI (PV.tnth v3 1)) 0)) then (K t true) else (K (PV.toI (PV.tnth v3 0)) true)))) else ((zd (PV.toI (PV.tnth v2 0)) by_).bind fun v5=>(bif (eqB (PV.toI (PV.tnth v5 1)) 0) then ((ze t (PV.toI (PV.tnth v5 0))).bind fun v6=>(bif (!(eqB (PV.toI (PV.tnth v6 1)) 0)) then (K t true) else (K (PV.toI (PV.tnth v6 0)) true))) else (bif (!(eqB (PV.toI (PV.tnth v5 1)) 0)) then (K t true) else (K (PV.toI (PV.tnth v5 0)) true))))) else (bif (PV.toB (PV.tnth v1 1)) then ((zd (IntKind.wrap IntKind.i64 (0-(PV.toI (PV.tnth v2 0)))) by_).bind fun v7=>(bif (eqB (PV.toI (PV.tnth v7 1)) 0) then ((ze t (PV.toI (PV.tnth v7 0))).bind fun v8=>(bif (!(eqB (PV.toI (PV.tnth v8 1)) 0)) then (K t true) else (K (PV.toI (PV.tnth v8 0)) (!(eqB (PV.toI (PV.tnth v2 1)) 0))))) else (bif (!(eqB (PV.toI (PV.tnth v7 1)) 0)) then (K t true) else (K (PV.toI (PV.tnth v7 0)) (!(eqB (PV.toI (PV.tnth v2 1)) 0)))))) else ((zd (PV.toI (PV.tnth v2 0)) by_).bind fun v9=>(bif (eqB (PV.toI (PV.tnth v9 1)) 0) then ((ze t (PV.toI (PV.tnth v9 0))).bind fun v10=>(bif (!(eqB (PV.toI (PV.tnth v10 1)) 0)) then (K t true) else (K (PV.toI (PV.tnth v10 0)) (!(eqB (PV.toI (PV.tnth v2 1)) 0))))) else (bif (!(eqB (PV.toI (PV.tnth v9 1)) 0)) then (K t true) else (K (PV.toI (PV.tnth v9 0)) (!(eqB (PV.toI (PV.tnth v2 1)) 0)))))))))) else ((zu (PV.toS (PV.tnth v1 0))).bind fun v11=>(bif (!(!(eqB (PV.toI (PV.tnth v11 1)) 13))) then some failV else (bif ov then (bif (PV.toB (PV.tnth v1 1)) then ((zd (IntKind.wrap IntKind.i64 (0-(PV.toI (PV.tnth v11 0)))) by_).bind fun v12=>(bif (eqB (PV.toI (PV.tnth v12 1)) 0) then ((ze t (PV.toI (PV.tnth v12 0))).bind fun v13=>(bif (!(eqB (PV.toI (PV.tnth v13 1)) 0)) then (K t true) else (K (PV.toI (PV.tnth v13 0)) true))) else (bif (!(eqB (PV.toI (PV.tnth v12 1)) 0)) then (K t true) else (K (PV.toI (PV.tnth v12 0)) true)))) else ((zd (PV.toI (PV.tnth v11 0)) by_).bind fun v14=>(bif (eqB (PV.toI (PV.tnth v14 1)) 0) then ((ze t (PV.toI (PV.tnth v14 0))).bind fun v15=>(bif (!(eqB (PV.toI (PV.tnth v15 1)) 0)) then (K t true) else (K (PV.toI (PV.tnth v15 0)) true))) else (bif (!(eqB (PV.toI (PV.tnth v14 1)) 0)) then (K t true) else (K (PV.toI (PV.tnth v14 0)) true))))) else (bif (PV.toB (PV.tnth v1 1)) then ((zd (IntKind.wrap IntKind.i64 (0-(PV.toI (PV.tnth v11 0)))) by_).bind fun v16=>(bif (eqB (PV.toI (PV.tnth v16 1)) 0) then ((ze t (PV.toI (PV.tnth v16 0))).bind fun v17=>(bif (!(eqB (PV.toI (PV.tnth v17 1)) 0)) then (K t true) else (K (PV.toI (PV.tnth v17 0)) (!(eqB (PV.toI (PV.tnth v11 1)) 0))))) else (bif (!(eqB (PV.toI (PV.tnth v16 1)) 0)) then (K t true) else (K (PV.toI (PV.tnth v16 0)) (!(eqB (PV.toI (PV.tnth v11 1)) 0)))))) else ((zd (PV.toI (PV.tnth v11 0)) by_).bind fun v18=>(bif (eqB (PV.toI (PV.tnth v18 1)) 0) then ((ze t (PV.toI (PV.tnth v18 0))).bind fun v19=>(bif (!(eqB (PV.toI (PV.tnth v19 1)) 0)) then (K t true) else (K (PV.toI (PV.tnth v19 0)) (!(eqB (PV.toI (PV.tnth v11 1)) 0))))) else (bif (!(eqB (PV.toI (PV.tnth v18 1)) 0)) then (K t true) else (K (PV.toI (PV.tnth v18 0)) (!(eqB (PV.toI (PV.tnth v11 1)) 0)))))))))))) =
  match sgn s false with | none=>some failV | some q=>K (moreF t q.1 by_ (ov||q.2)).1 (moreF t q.1 by_ (ov||q.2)).2:=by
 rw [zyt s 45 (by omega)]
 simp only [oB,tn0,tn1,zq,z16]
 have hsg:sgn s false=sgT (preT 45 s) (preB 45 s):=by unfold sgn; rw [Bool.and_false]; rfl
 rw [hsg]
 have hpl:=z5j 45 s
 obtain ⟨e1,e2,e3,_⟩:=zu2 (preT 45 s)
 rw [zps _ (by show (preT 45 s).length≤70368744177664; omega),e1]
 simp only [oB,tn0,tn1,zv]
 unfold sgT
 by_cases h13:numE (preT 45 s)=13
 ·rw [if_pos h13,h13]; cases preB 45 s <;> rfl
 ·rw [if_neg h13]
  have hb13:(!(!eqB (numE (preT 45 s)) 13))=false:=by unfold eqB; rw [decide_eq_false h13]; rfl
  have hw:IntKind.i64.wrap (0-numN (preT 45 s))=-numN (preT 45 s):=by rw [w64 (by omega) (by omega)]; omega
  rw [hb13,hw]
  have key:=fun (n:Int) (o:Bool) (hn:In64 n)=>mogen K t n by_ o hn hb ht
  have i1:In64 (numN (preT 45 s)):=⟨by omega,e3⟩
  have i2:In64 (-numN (preT 45 s)):=⟨by omega,by omega⟩
  cases preB 45 s <;> cases ov <;> simp only [Bool.not_true,Bool.not_false,cond_true,cond_false,Bool.true_or,Bool.false_or] <;> first | exact key _ _ i1 | exact key _ _ i2
def letF (s:List UInt8) (c:Int) (time:Bool) (st:SumS):Option SumS :=
 if c=115 then
  match sgn (cutF 46 s).1 false with
  | none=>none
  | some q=>if (cutF 46 s).2.2=true then
    match fracF (cutF 46 s).2.1 with
    | none=>none
    | some n=>some (st.1,st.2.1,(moreF (moreF st.2.2.1 q.1 1000000 (st.2.2.2||q.2)).1 (if preB 45 (cutF 46 s).1=true then -n else n) 1 (moreF st.2.2.1 q.1 1000000 (st.2.2.2||q.2)).2).1,
      (moreF (moreF st.2.2.1 q.1 1000000 (st.2.2.2||q.2)).1 (if preB 45 (cutF 46 s).1=true then -n else n) 1 (moreF st.2.2.1 q.1 1000000 (st.2.2.2||q.2)).2).2)
   else some (st.1,st.2.1,(moreF st.2.2.1 q.1 1000000 (st.2.2.2||q.2)).1,(moreF st.2.2.1 q.1 1000000 (st.2.2.2||q.2)).2)
 else if c=121 then match sgn s false with | none=>none | some q=>some ((moreF st.1 q.1 12 (st.2.2.2||q.2)).1,st.2.1,st.2.2.1,(moreF st.1 q.1 12 (st.2.2.2||q.2)).2)
 else if c=109∧time=false then match sgn s false with | none=>none | some q=>some ((moreF st.1 q.1 1 (st.2.2.2||q.2)).1,st.2.1,st.2.2.1,(moreF st.1 q.1 1 (st.2.2.2||q.2)).2)
 else if c=119 then match sgn s false with | none=>none | some q=>some (st.1,(moreF st.2.1 q.1 7 (st.2.2.2||q.2)).1,st.2.2.1,(moreF st.2.1 q.1 7 (st.2.2.2||q.2)).2)
 else if c=100 then match sgn s false with | none=>none | some q=>some (st.1,(moreF st.2.1 q.1 1 (st.2.2.2||q.2)).1,st.2.2.1,(moreF st.2.1 q.1 1 (st.2.2.2||q.2)).2)
 else if c=104 then match sgn s false with | none=>none | some q=>some (st.1,st.2.1,(moreF st.2.2.1 q.1 3600000000 (st.2.2.2||q.2)).1,(moreF st.2.2.1 q.1 3600000000 (st.2.2.2||q.2)).2)
 else match sgn s false with | none=>none | some q=>some (st.1,st.2.1,(moreF st.2.2.1 q.1 60000000 (st.2.2.2||q.2)).1,(moreF st.2.2.1 q.1 60000000 (st.2.2.2||q.2)).2)
theorem sgn_ne {s:List UInt8} {q:Int×Bool} (h:sgn s false=some q):s≠[]:=by
 intro e; subst e
 have:sgn [] false=none:=by decide
 rw [this] at h; cases h
theorem l8 (x0:Int) (x1:Int) (x2:Int) (x3:Int) (x4:Int) (x5:Bool) (x6:List UInt8) (x7:Nat) (x8:Int) (x9:Int) (xA:Int) (xB:Int) (xC:Int) (xD:Int) (xE:Int) (xF:Int) (xG:Int) (xH:List UInt8) (xI:Bool) (xJ:Int) (xK:Int) (xL:Int) (xM:List UInt8) (xN:List UInt8) (xO:Bool) (xP:List PV) (h0:In64 x0) (ht:In64 x4):z2r x0 x1 x2 x3 x4 x5 x6 x7 x8 x9 xA xB xC xD xE xF xG xH xI xJ xK xL xM xN xO xP=z7 xH xI xJ xK xL xM x1 x2 x3 (moreF x4 x0 1 x5).1 (moreF x4 x0 1 x5).2 x6 x7 x8 x9 xA xB xC xD xE xF xG xN xO xP:=by
 rw [zd3]
 exact mogen (fun t o=>z7 xH xI xJ xK xL xM x1 x2 x3 t o x6 x7 x8 x9 xA xB xC xD xE xF xG xN xO xP) x4 x0 1 x5 h0 ⟨by omega,by omega⟩ ht
theorem l3 (x0:List UInt8) (x1:List UInt8) (x2:Bool) (x3:Int) (x4:Int) (x5:Int) (x6:Int) (x7:Bool) (x8:List UInt8) (x9:Nat) (xA:Int) (xB:Int) (xC:Int) (xD:Int) (xE:Int) (xF:Int) (xG:Int) (xH:Int) (xI:Int) (xJ:List UInt8) (xK:Bool) (xL:Int) (xM:Int) (xN:Int) (xO:List UInt8) (xP:List UInt8) (xQ:Bool) (xR:List PV) (hs:x0.length≤100000000) (ht:In64 x6):z4v x0 x1 x2 x3 x4 x5 x6 x7 x8 x9 xA xB xC xD xE xF xG xH xI xJ xK xL xM xN xO xP xQ xR=match sgn x0 false with | none=>some failV | some q=>z9 x0 x1 x2 x3 x4 x5 (moreF x6 q.1 1000000 (x7||q.2)).1 (moreF x6 q.1 1000000 (x7||q.2)).2 x8 x9 xA xB xC xD xE xF xG xH xI xJ xK xL xM xN xO xP xQ xR:=by
 rw [zd6]
 exact sgmo (fun t o=>(z9 x0 x1 x2 x3 x4 x5 t o x8 x9 xA xB xC xD xE xF xG xH xI xJ xK xL xM xN xO xP xQ xR)) x0 x6 1000000 x7 (by omega) ht ⟨by omega,by omega⟩
theorem l12 (x0:List UInt8) (x1:Int) (x2:Int) (x3:Int) (x4:Int) (x5:Bool) (x6:List UInt8) (x7:Nat) (x8:Int) (x9:Int) (xA:Int) (xB:Int) (xC:Int) (xD:Int) (xE:Int) (xF:Int) (xG:Int) (xH:List UInt8) (xI:Bool) (xJ:Int) (xK:Int) (xL:Int) (xM:List UInt8) (xN:List UInt8) (xO:Bool) (xP:List PV) (hs:x0.length≤100000000) (ht:In64 x2):z45 x0 x1 x2 x3 x4 x5 x6 x7 x8 x9 xA xB xC xD xE xF xG xH xI xJ xK xL xM xN xO xP=match sgn x0 false with | none=>some failV | some q=>z7 xH xI xJ xK xL xM x1 (moreF x2 q.1 1 (x5||q.2)).1 x3 x4 (moreF x2 q.1 1 (x5||q.2)).2 x6 x7 x8 x9 xA xB xC xD xE xF xG xN xO xP:=by
 rw [zbx]
 exact sgmo (fun t o=>(z7 xH xI xJ xK xL xM x1 t x3 x4 o x6 x7 x8 x9 xA xB xC xD xE xF xG xN xO xP)) x0 x2 1 x5 (by omega) ht ⟨by omega,by omega⟩
theorem l13 (x0:List UInt8) (x1:Int) (x2:Int) (x3:Int) (x4:Int) (x5:Int) (x6:Bool) (x7:List UInt8) (x8:Nat) (x9:Int) (xA:Int) (xB:Int) (xC:Int) (xD:Int) (xE:Int) (xF:Int) (xG:Int) (xH:Int) (xI:List UInt8) (xJ:Bool) (xK:Int) (xL:Int) (xM:Int) (xN:List UInt8) (xO:List UInt8) (xP:Bool) (xQ:List PV) (hs:x0.length≤100000000) (hd:In64 x4) (hu:In64 x5):z2g x0 x1 x2 x3 x4 x5 x6 x7 x8 x9 xA xB xC xD xE xF xG xH xI xJ xK xL xM xN xO xP xQ=if x1=119 then (match sgn x0 false with | none=>some failV | some q=>z7 xI xJ xK xL xM xN x2 x3 (moreF x4 q.1 7 (x6||q.2)).1 x5 (moreF x4 q.1 7 (x6||q.2)).2 x7 x8 x9 xA xB xC xD xE xF xG xH xO xP xQ) else if x1=100 then (match sgn x0 false with | none=>some failV | some q=>z7 xI xJ xK xL xM xN x2 x3 (moreF x4 q.1 1 (x6||q.2)).1 x5 (moreF x4 q.1 1 (x6||q.2)).2 x7 x8 x9 xA xB xC xD xE xF xG xH xO xP xQ) else if x1=104 then (match sgn x0 false with | none=>some failV | some q=>z7 xI xJ xK xL xM xN x2 x3 x4 (moreF x5 q.1 3600000000 (x6||q.2)).1 (moreF x5 q.1 3600000000 (x6||q.2)).2 x7 x8 x9 xA xB xC xD xE xF xG xH xO xP xQ) else (match sgn x0 false with | none=>some failV | some q=>z7 xI xJ xK xL xM xN x2 x3 x4 (moreF x5 q.1 60000000 (x6||q.2)).1 (moreF x5 q.1 60000000 (x6||q.2)).2 x7 x8 x9 xA xB xC xD xE xF xG xH xO xP xQ):=by
 rw [zbw]
 by_cases h119:x1=119
 ·rw [c_eqT h119,if_pos h119]
  exact sgmo (fun t o=>(z7 xI xJ xK xL xM xN x2 x3 t x5 o x7 x8 x9 xA xB xC xD xE xF xG xH xO xP xQ)) x0 x4 7 x6 (by omega) hd ⟨by omega,by omega⟩
 rw [c_eqF h119,if_neg h119]
 by_cases h100:x1=100
 ·rw [c_eqT h100,if_pos h100]
  exact sgmo (fun t o=>(z7 xI xJ xK xL xM xN x2 x3 t x5 o x7 x8 x9 xA xB xC xD xE xF xG xH xO xP xQ)) x0 x4 1 x6 (by omega) hd ⟨by omega,by omega⟩
 rw [c_eqF h100,if_neg h100]
 by_cases h104:x1=104
 ·rw [c_eqT h104,if_pos h104]
  exact sgmo (fun t o=>(z7 xI xJ xK xL xM xN x2 x3 x4 t o x7 x8 x9 xA xB xC xD xE xF xG xH xO xP xQ)) x0 x5 3600000000 x6 (by omega) hu ⟨by omega,by omega⟩
 rw [c_eqF h104,if_neg h104]
 exact sgmo (fun t o=>(z7 xI xJ xK xL xM xN x2 x3 x4 t o x7 x8 x9 xA xB xC xD xE xF xG xH xO xP xQ)) x0 x5 60000000 x6 (by omega) hu ⟨by omega,by omega⟩
theorem lt (x0:List UInt8) (x1:Int) (x2:Bool) (x3:Int) (x4:Int) (x5:Int) (x6:Int) (x7:Bool) (x8:List UInt8) (x9:Nat) (xA:Int) (xB:Int) (xC:Int) (xD:Int) (xE:Int) (xF:Int) (xG:Int) (xH:Int) (xI:Int) (xJ:List UInt8) (xK:Bool) (xL:Int) (xM:Int) (xN:Int) (xO:List UInt8) (xP:List UInt8) (xQ:Bool) (xR:List PV) (hs:x0.length≤100000) (hm:In64 x4) (hd:In64 x5) (hu:In64 x6) :
  z4w x0 x1 x2 x3 x4 x5 x6 x7 x8 x9 xA xB xC xD xE xF xG xH xI xJ xK xL xM xN xO xP xQ xR=match letF x0 x1 x2 (x4,x5,x6,x7) with | none=>some failV | some st=>z7 xJ xK xL xM xN xO x3 st.1 st.2.1 st.2.2.1 st.2.2.2 x8 x9 xA xB xC xD xE xF xG xH xI xP xQ xR:=by
 rw [zd7]
 unfold letF
 by_cases h115:x1=115
 ·rw [c_eqT h115,if_pos h115,cut_s x0 46 (by omega)]
  have hcl:=zgr 46 x0
  simp only [oB,tn0,tn1,tn2,zq,z16]
  rw [l3 (hs:=by omega) (ht:=hu)]
  cases hq:sgn (cutF 46 x0).1 false with
  | none=>rfl
  | some q =>
  have hmi:In64 (moreF x6 q.1 1000000 (x7||q.2)).1:=moreF_in hu
  simp only
  generalize moreF x6 q.1 1000000 (x7||q.2)=r at hmi
  rw [zd5]
  cases hpt:(cutF 46 x0).2.2 with
  | false=>rfl
  | true =>
  simp only [cond_true,if_true]
  rw [zi6 _ (by show (cutF 46 x0).2.1.length≤10000000000; omega) (by omega)]
  simp only [oB,z16]
  unfold fracF
  cases hf:dgs (cutF 46 x0).2.1 1 6 with
  | false=>rfl
  | true =>
  obtain ⟨f1,f2,f3⟩:=zjo hf
  have hfr:=zw6 hf
  simp only [Bool.not_true,cond_false,if_true]
  rw [w64 (by omega) (by omega),show (6:Int)-(((cutF 46 x0).2.1.length:Nat):Int)=((6-(cutF 46 x0).2.1.length:Nat):Int) by omega,rep_s _ (by omega)]
  simp only [oB,zq]
  rw [zfh (by simp; omega)]
  simp only [oB]
  rw [zkd _ (by show (_++_:List UInt8).length≤10000000000; simp; omega)]
  simp only [oB,zv]
  generalize numN ((cutF 46 x0).2.1++List.replicate (6-(cutF 46 x0).2.1.length) 48)=n at hfr
  have hne:=sgn_ne hq
  generalize (cutF 46 x0).1=wh at hne
  rw [zd4]
  obtain ⟨c,rr,rfl⟩:∃ c rr,wh=c::rr:=by cases wh with | nil=>exact absurd rfl hne | cons c rr=>exact ⟨c,rr,rfl⟩
  rw [atS_z (c:=c) rfl]
  simp only [oB]
  rw [w64 (by omega) (by omega)]
  by_cases h45:c=45
  ·subst h45
   rw [c_eqT (by decide),l8 (h0:=⟨by omega,by omega⟩) (ht:=hmi),if_pos (by simp [preB])]
   have:(0:Int)-n=-n:=by omega
   rw [this]
  ·have h1:¬ (c.toNat:Int)=45:=by
    intro e
    apply h45
    have e:c.toNat=45:=by omega
    rw [← UInt8.ofNat_toNat (x:=c),e]
    rfl
   rw [c_eqF h1,l8 (h0:=⟨by omega,by omega⟩) (ht:=hmi),if_neg (by simpa [preB] using h45)]
 rw [c_eqF h115,if_neg h115]
 by_cases h121:x1=121
 ·rw [c_eqT h121,if_pos h121]
  refine (sgmo (fun t o=>(z7 xJ xK xL xM xN xO x3 t x5 x6 o x8 x9 xA xB xC xD xE xF xG xH xI xP xQ xR)) x0 x4 12 x7 (by omega) hm ⟨by omega,by omega⟩).trans ?_
  cases sgn x0 false <;> rfl
 rw [c_eqF h121,if_neg h121]
 by_cases h109:x1=109
 ·rw [c_eqT h109]
  cases hx2:x2 with
  | false =>
   rw [if_pos ⟨h109,rfl⟩]
   simp only [Bool.not_false,cond_true]
   rw [l12 (hs:=by omega) (ht:=hm)]
   cases sgn x0 false <;> rfl
  | true =>
   rw [if_neg (fun h=>by cases h.2)]
   simp only [Bool.not_true,cond_false]
   rw [l13 (hs:=by omega) (hd:=hd) (hu:=hu)]
   by_cases h119:x1=119
   ·simp only [if_pos h119]; cases sgn x0 false <;> rfl
   simp only [if_neg h119]
   by_cases h100:x1=100
   ·simp only [if_pos h100]; cases sgn x0 false <;> rfl
   simp only [if_neg h100]
   by_cases h104:x1=104
   ·simp only [if_pos h104]; cases sgn x0 false <;> rfl
   simp only [if_neg h104]
   cases sgn x0 false <;> rfl
 ·rw [c_eqF h109,if_neg (fun h=>h109 h.1),l13 (hs:=by omega) (hd:=hd) (hu:=hu)]
  by_cases h119:x1=119
  ·simp only [if_pos h119]; cases sgn x0 false <;> rfl
  simp only [if_neg h119]
  by_cases h100:x1=100
  ·simp only [if_pos h100]; cases sgn x0 false <;> rfl
  simp only [if_neg h100]
  by_cases h104:x1=104
  ·simp only [if_pos h104]; cases sgn x0 false <;> rfl
  simp only [if_neg h104]
  cases sgn x0 false <;> rfl
theorem l8_1 (x0:Int) (x1:Int) (x2:Int) (x3:Int) (x4:Int) (x5:Bool) (x6:List UInt8) (x7:Nat) (x8:Int) (x9:Int) (xA:Int) (xB:Int) (xC:Int) (xD:Int) (xE:Int) (xF:Int) (xG:Int) (xH:List UInt8) (xI:Bool) (xJ:Int) (xK:Int) (xL:Int) (xM:List UInt8) (xN:List UInt8) (xO:Bool) (xP:Int) (xQ:List PV) (h0:In64 x0) (ht:In64 x4):z27 x0 x1 x2 x3 x4 x5 x6 x7 x8 x9 xA xB xC xD xE xF xG xH xI xJ xK xL xM xN xO xP xQ=z6 xH xI xJ xK xL xM x1 x2 x3 (moreF x4 x0 1 x5).1 (moreF x4 x0 1 x5).2 x6 x7 x8 x9 xA xB xC xD xE xF xG xN xO xP xQ:=by
 rw [zb6]
 exact mogen (fun t o=>z6 xH xI xJ xK xL xM x1 x2 x3 t o x6 x7 x8 x9 xA xB xC xD xE xF xG xN xO xP xQ) x4 x0 1 x5 h0 ⟨by omega,by omega⟩ ht
theorem l3_1 (x0:List UInt8) (x1:List UInt8) (x2:Bool) (x3:Int) (x4:Int) (x5:Int) (x6:Int) (x7:Bool) (x8:List UInt8) (x9:Nat) (xA:Int) (xB:Int) (xC:Int) (xD:Int) (xE:Int) (xF:Int) (xG:Int) (xH:Int) (xI:Int) (xJ:List UInt8) (xK:Bool) (xL:Int) (xM:Int) (xN:Int) (xO:List UInt8) (xP:List UInt8) (xQ:Bool) (xR:Int) (xS:List PV) (hs:x0.length≤100000000) (ht:In64 x6):z3v x0 x1 x2 x3 x4 x5 x6 x7 x8 x9 xA xB xC xD xE xF xG xH xI xJ xK xL xM xN xO xP xQ xR xS=match sgn x0 false with | none=>some failV | some q=>z8 x0 x1 x2 x3 x4 x5 (moreF x6 q.1 1000000 (x7||q.2)).1 (moreF x6 q.1 1000000 (x7||q.2)).2 x8 x9 xA xB xC xD xE xF xG xH xI xJ xK xL xM xN xO xP xQ xR xS:=by
 rw [zb9]
 exact sgmo (fun t o=>(z8 x0 x1 x2 x3 x4 x5 t o x8 x9 xA xB xC xD xE xF xG xH xI xJ xK xL xM xN xO xP xQ xR xS)) x0 x6 1000000 x7 (by omega) ht ⟨by omega,by omega⟩
theorem l12_1 (x0:List UInt8) (x1:Int) (x2:Int) (x3:Int) (x4:Int) (x5:Bool) (x6:List UInt8) (x7:Nat) (x8:Int) (x9:Int) (xA:Int) (xB:Int) (xC:Int) (xD:Int) (xE:Int) (xF:Int) (xG:Int) (xH:List UInt8) (xI:Bool) (xJ:Int) (xK:Int) (xL:Int) (xM:List UInt8) (xN:List UInt8) (xO:Bool) (xP:Int) (xQ:List PV) (hs:x0.length≤100000000) (ht:In64 x2):z3j x0 x1 x2 x3 x4 x5 x6 x7 x8 x9 xA xB xC xD xE xF xG xH xI xJ xK xL xM xN xO xP xQ=match sgn x0 false with | none=>some failV | some q=>z6 xH xI xJ xK xL xM x1 (moreF x2 q.1 1 (x5||q.2)).1 x3 x4 (moreF x2 q.1 1 (x5||q.2)).2 x6 x7 x8 x9 xA xB xC xD xE xF xG xN xO xP xQ:=by
 rw [za1]
 exact sgmo (fun t o=>(z6 xH xI xJ xK xL xM x1 t x3 x4 o x6 x7 x8 x9 xA xB xC xD xE xF xG xN xO xP xQ)) x0 x2 1 x5 (by omega) ht ⟨by omega,by omega⟩
theorem l13_1 (x0:List UInt8) (x1:Int) (x2:Int) (x3:Int) (x4:Int) (x5:Int) (x6:Bool) (x7:List UInt8) (x8:Nat) (x9:Int) (xA:Int) (xB:Int) (xC:Int) (xD:Int) (xE:Int) (xF:Int) (xG:Int) (xH:Int) (xI:List UInt8) (xJ:Bool) (xK:Int) (xL:Int) (xM:Int) (xN:List UInt8) (xO:List UInt8) (xP:Bool) (xQ:Int) (xR:List PV) (hs:x0.length≤100000000) (hd:In64 x4) (hu:In64 x5):z26 x0 x1 x2 x3 x4 x5 x6 x7 x8 x9 xA xB xC xD xE xF xG xH xI xJ xK xL xM xN xO xP xQ xR=if x1=119 then (match sgn x0 false with | none=>some failV | some q=>z6 xI xJ xK xL xM xN x2 x3 (moreF x4 q.1 7 (x6||q.2)).1 x5 (moreF x4 q.1 7 (x6||q.2)).2 x7 x8 x9 xA xB xC xD xE xF xG xH xO xP xQ xR) else if x1=100 then (match sgn x0 false with | none=>some failV | some q=>z6 xI xJ xK xL xM xN x2 x3 (moreF x4 q.1 1 (x6||q.2)).1 x5 (moreF x4 q.1 1 (x6||q.2)).2 x7 x8 x9 xA xB xC xD xE xF xG xH xO xP xQ xR) else if x1=104 then (match sgn x0 false with | none=>some failV | some q=>z6 xI xJ xK xL xM xN x2 x3 x4 (moreF x5 q.1 3600000000 (x6||q.2)).1 (moreF x5 q.1 3600000000 (x6||q.2)).2 x7 x8 x9 xA xB xC xD xE xF xG xH xO xP xQ xR) else (match sgn x0 false with | none=>some failV | some q=>z6 xI xJ xK xL xM xN x2 x3 x4 (moreF x5 q.1 60000000 (x6||q.2)).1 (moreF x5 q.1 60000000 (x6||q.2)).2 x7 x8 x9 xA xB xC xD xE xF xG xH xO xP xQ xR):=by
 rw [za0]
 by_cases h119:x1=119
 ·rw [c_eqT h119,if_pos h119]
  exact sgmo (fun t o=>(z6 xI xJ xK xL xM xN x2 x3 t x5 o x7 x8 x9 xA xB xC xD xE xF xG xH xO xP xQ xR)) x0 x4 7 x6 (by omega) hd ⟨by omega,by omega⟩
 rw [c_eqF h119,if_neg h119]
 by_cases h100:x1=100
 ·rw [c_eqT h100,if_pos h100]
  exact sgmo (fun t o=>(z6 xI xJ xK xL xM xN x2 x3 t x5 o x7 x8 x9 xA xB xC xD xE xF xG xH xO xP xQ xR)) x0 x4 1 x6 (by omega) hd ⟨by omega,by omega⟩
 rw [c_eqF h100,if_neg h100]
 by_cases h104:x1=104
 ·rw [c_eqT h104,if_pos h104]
  exact sgmo (fun t o=>(z6 xI xJ xK xL xM xN x2 x3 x4 t o x7 x8 x9 xA xB xC xD xE xF xG xH xO xP xQ xR)) x0 x5 3600000000 x6 (by omega) hu ⟨by omega,by omega⟩
 rw [c_eqF h104,if_neg h104]
 exact sgmo (fun t o=>(z6 xI xJ xK xL xM xN x2 x3 x4 t o x7 x8 x9 xA xB xC xD xE xF xG xH xO xP xQ xR)) x0 x5 60000000 x6 (by omega) hu ⟨by omega,by omega⟩
theorem lt_1 (x0:List UInt8) (x1:Int) (x2:Bool) (x3:Int) (x4:Int) (x5:Int) (x6:Int) (x7:Bool) (x8:List UInt8) (x9:Nat) (xA:Int) (xB:Int) (xC:Int) (xD:Int) (xE:Int) (xF:Int) (xG:Int) (xH:Int) (xI:Int) (xJ:List UInt8) (xK:Bool) (xL:Int) (xM:Int) (xN:Int) (xO:List UInt8) (xP:List UInt8) (xQ:Bool) (xR:Int) (xS:List PV) (hs:x0.length≤100000) (hm:In64 x4) (hd:In64 x5) (hu:In64 x6) :
  z3w x0 x1 x2 x3 x4 x5 x6 x7 x8 x9 xA xB xC xD xE xF xG xH xI xJ xK xL xM xN xO xP xQ xR xS=match letF x0 x1 x2 (x4,x5,x6,x7) with | none=>some failV | some st=>z6 xJ xK xL xM xN xO x3 st.1 st.2.1 st.2.2.1 st.2.2.2 x8 x9 xA xB xC xD xE xF xG xH xI xP xQ xR xS:=by
 rw [zba]
 unfold letF
 by_cases h115:x1=115
 ·rw [c_eqT h115,if_pos h115,cut_s x0 46 (by omega)]
  have hcl:=zgr 46 x0
  simp only [oB,tn0,tn1,tn2,zq,z16]
  rw [l3_1 (hs:=by omega) (ht:=hu)]
  cases hq:sgn (cutF 46 x0).1 false with
  | none=>rfl
  | some q =>
  have hmi:In64 (moreF x6 q.1 1000000 (x7||q.2)).1:=moreF_in hu
  simp only
  generalize moreF x6 q.1 1000000 (x7||q.2)=r at hmi
  rw [zb8]
  cases hpt:(cutF 46 x0).2.2 with
  | false=>rfl
  | true =>
  simp only [cond_true,if_true]
  rw [zi6 _ (by show (cutF 46 x0).2.1.length≤10000000000; omega) (by omega)]
  simp only [oB,z16]
  unfold fracF
  cases hf:dgs (cutF 46 x0).2.1 1 6 with
  | false=>rfl
  | true =>
  obtain ⟨f1,f2,f3⟩:=zjo hf
  have hfr:=zw6 hf
  simp only [Bool.not_true,cond_false,if_true]
  rw [w64 (by omega) (by omega),show (6:Int)-(((cutF 46 x0).2.1.length:Nat):Int)=((6-(cutF 46 x0).2.1.length:Nat):Int) by omega,rep_s _ (by omega)]
  simp only [oB,zq]
  rw [zfh (by simp; omega)]
  simp only [oB]
  rw [zkd _ (by show (_++_:List UInt8).length≤10000000000; simp; omega)]
  simp only [oB,zv]
  generalize numN ((cutF 46 x0).2.1++List.replicate (6-(cutF 46 x0).2.1.length) 48)=n at hfr
  have hne:=sgn_ne hq
  generalize (cutF 46 x0).1=wh at hne
  rw [zb7]
  obtain ⟨c,rr,rfl⟩:∃ c rr,wh=c::rr:=by cases wh with | nil=>exact absurd rfl hne | cons c rr=>exact ⟨c,rr,rfl⟩
  rw [atS_z (c:=c) rfl]
  simp only [oB]
  rw [w64 (by omega) (by omega)]
  by_cases h45:c=45
  ·subst h45
   rw [c_eqT (by decide),l8_1 (h0:=⟨by omega,by omega⟩) (ht:=hmi),if_pos (by simp [preB])]
   have:(0:Int)-n=-n:=by omega
   rw [this]
  ·have h1:¬ (c.toNat:Int)=45:=by
    intro e
    apply h45
    have e:c.toNat=45:=by omega
    rw [← UInt8.ofNat_toNat (x:=c),e]
    rfl
   rw [c_eqF h1,l8_1 (h0:=⟨by omega,by omega⟩) (ht:=hmi),if_neg (by simpa [preB] using h45)]
 rw [c_eqF h115,if_neg h115]
 by_cases h121:x1=121
 ·rw [c_eqT h121,if_pos h121]
  refine (sgmo (fun t o=>(z6 xJ xK xL xM xN xO x3 t x5 x6 o x8 x9 xA xB xC xD xE xF xG xH xI xP xQ xR xS)) x0 x4 12 x7 (by omega) hm ⟨by omega,by omega⟩).trans ?_
  cases sgn x0 false <;> rfl
 rw [c_eqF h121,if_neg h121]
 by_cases h109:x1=109
 ·rw [c_eqT h109]
  cases hx2:x2 with
  | false =>
   rw [if_pos ⟨h109,rfl⟩]
   simp only [Bool.not_false,cond_true]
   rw [l12_1 (hs:=by omega) (ht:=hm)]
   cases sgn x0 false <;> rfl
  | true =>
   rw [if_neg (fun h=>by cases h.2)]
   simp only [Bool.not_true,cond_false]
   rw [l13_1 (hs:=by omega) (hd:=hd) (hu:=hu)]
   by_cases h119:x1=119
   ·simp only [if_pos h119]; cases sgn x0 false <;> rfl
   simp only [if_neg h119]
   by_cases h100:x1=100
   ·simp only [if_pos h100]; cases sgn x0 false <;> rfl
   simp only [if_neg h100]
   by_cases h104:x1=104
   ·simp only [if_pos h104]; cases sgn x0 false <;> rfl
   simp only [if_neg h104]
   cases sgn x0 false <;> rfl
 ·rw [c_eqF h109,if_neg (fun h=>h109 h.1),l13_1 (hs:=by omega) (hd:=hd) (hu:=hu)]
  by_cases h119:x1=119
  ·simp only [if_pos h119]; cases sgn x0 false <;> rfl
  simp only [if_neg h119]
  by_cases h100:x1=100
  ·simp only [if_pos h100]; cases sgn x0 false <;> rfl
  simp only [if_neg h100]
  by_cases h104:x1=104
  ·simp only [if_pos h104]; cases sgn x0 false <;> rfl
  simp only [if_neg h104]
  cases sgn x0 false <;> rfl
end Dv

set_option maxRecDepth 20000
namespace Dv
open Go
def isn (c:UInt8):Bool:=c == 45||c == 46||digB c
def halfF (time:Bool):List UInt8→List UInt8→List UInt8→Int→SumS→Option (Int×SumS)
 | [],cur,_,many,st=>if cur=[] then some (many,st) else none
 | c::r,cur,order,many,st=>if isn c=true then halfF time r (cur++[c]) order many st
  else if (cutF c order).2.2=true then
   match letF cur (c.toNat:Int) time st with
   | none=>none
   | some st'=>halfF time r [] (cutF c order).2.1 (many+1) st'
  else none
abbrev In3 (st:SumS):Prop:=In64 st.1∧In64 st.2.1∧In64 st.2.2.1
theorem z1af {s:List UInt8} {c:Int} {time:Bool} {st st':SumS} (h:letF s c time st=some st') (hi:In3 st):In3 st':=by
 obtain ⟨h1,h2,h3⟩:=hi
 have key:∀ {f:Int×Bool→SumS},(match sgn s false with | none=>none | some q=>some (f q):Option SumS)=some st'→(∀ q,In3 (f q))→In3 st':=by
  intro f h hf
  cases hq:sgn s false with
  | none=>rw [hq] at h; cases h
  | some q=>rw [hq] at h; simp only [oJ] at h; rw [← h]; exact hf q
 unfold letF at h
 split at h
 ·split at h
  ·cases h
  ·split at h
   ·split at h
    ·cases h
    ·simp only [oJ] at h; rw [← h]; exact ⟨h1,h2,moreF_in (moreF_in h3)⟩
   ·simp only [oJ] at h; rw [← h]; exact ⟨h1,h2,moreF_in h3⟩
 split at h
 ·exact key h (fun q=>⟨moreF_in h1,h2,h3⟩)
 split at h
 ·exact key h (fun q=>⟨moreF_in h1,h2,h3⟩)
 split at h
 ·exact key h (fun q=>⟨h1,moreF_in h2,h3⟩)
 split at h
 ·exact key h (fun q=>⟨h1,moreF_in h2,h3⟩)
 split at h
 ·exact key h (fun q=>⟨h1,h2,moreF_in h3⟩)
 ·exact key h (fun q=>⟨h1,h2,moreF_in h3⟩)
theorem enc_lowN:∀ n:Fin 128,encR ((n.val:Nat):Int)=[UInt8.ofNat n.val]:=by decide +kernel
theorem z14m {c:UInt8} (h:c.toNat<128):encR ((c.toNat:Nat):Int)=[c]:=by
 have:=enc_lowN ⟨c.toNat,h⟩
 rw [this]
 simp
theorem zw4 (time:Bool):∀ (r cur order:List UInt8) (many:Int) (st:SumS) {x:Int×SumS},halfF time r cur order many st=some x→In3 st→In3 x.2∧many≤x.1∧x.1≤many+r.length
 | [],cur,order,many,st,x,h,hi=>by
  unfold halfF at h
  split at h
  ·cases h; exact ⟨hi,by simp,by simp⟩
  ·cases h
 | c::r,cur,order,many,st,x,h,hi=>by
  unfold halfF at h
  split at h
  ·have:=zw4 time r _ _ _ _ h hi; simp; exact ⟨this.1,this.2.1,by omega⟩
  ·split at h
   ·split at h
    ·cases h
    ·rename_i st' hl
     have:=zw4 time r _ _ _ _ h (z1af hl hi); simp; exact ⟨this.1,by omega,by omega⟩
   ·cases h
section
variable (c0 c1 c2 c3 c4 c5 c6 c7 c8:Int) (S:List UInt8) (B:Bool) (L:List PV)
theorem half (time:Bool) (i:Int) (s:List UInt8) (hs:s.length≤10000) (hA:∀ c∈s,c.toNat<128):∀ (r:List UInt8) (k f:Nat) (order:List UInt8) (many m d u:Int) (ov:Bool),s.drop k=r→f≤k→k≤s.length→order.length≤100→0≤many→many≤k→In64 m→In64 d→In64 u →
  z15 s order time many (f:Int) i m d u ov s k c0 c1 c2 c3 c4 c5 c6 c7 c8 S B L =
   match halfF time r ((s.drop f).take (k-f)) order many (m,d,u,ov) with
   | none=>some failV
   | some x=>z20 x.1 i x.2.1 x.2.2.1 x.2.2.2.1 x.2.2.2.2 c0 c1 c2 c3 c4 c5 c6 c7 c8 S B L
 | [],k,f,order,many,m,d,u,ov,hr,hf,hkl,ho,hm0,hm1,hm,hd,hu=>by
  have hk:s.length≤k:=zyp hr
  rw [z7d,show ltN k s.length=false from decide_eq_false (by omega),cond_false,c_not]
  unfold halfF
  by_cases he:(f:Int)=((s.length:Nat):Int)
  ·rw [c_eqT he]
   have:(s.drop f).take (k-f)=[]:=by
    rw [List.drop_eq_nil_of_le (by omega)]; simp
   rw [if_pos this]
  ·rw [c_eqF he]
   have hne:¬ ((s.drop f).take (k-f)=[]):=by
    intro h
    have:=congrArg List.length h
    rw [List.length_take,List.length_drop,List.length_nil] at this
    omega
   rw [if_neg hne]
 | c::r,k,f,order,many,m,d,u,ov,hr,hf,hkl,ho,hm0,hm1,hm,hd,hu=>by
  obtain ⟨hk,hck,hr1⟩:=zgu hr
  have hc:c.toNat<128:=hA c (List.mem_of_getElem? hck)
  have hdec:=zhb hck hc
  have hcol:=zgr c order
  rw [z7d,show ltN k s.length=true from decide_eq_true hk,cond_true,hdec]
  simp only
  have htk:(s.drop f).take (k+1-f)=(s.drop f).take (k-f)++[c]:=by
   rw [show k+1-f=(k-f)+1 by omega,List.take_add_one,List.getElem?_drop,show f+(k-f)=k by omega,hck]; rfl
  have go:isn c=true→z15 s order time many (f:Int) i m d u ov s (k+1) c0 c1 c2 c3 c4 c5 c6 c7 c8 S B L=match halfF time (c::r) ((s.drop f).take (k-f)) order many (m,d,u,ov) with | none=>some failV | some x=>z20 x.1 i x.2.1 x.2.2.1 x.2.2.2.1 x.2.2.2.2 c0 c1 c2 c3 c4 c5 c6 c7 c8 S B L:=by
   intro hi
   rw [half time i s hs hA r (k+1) f order many m d u ov hr1 (by omega) (by omega) ho hm0 (by omega) hm hd hu,htk]
   conv=>rhs; unfold halfF
   rw [if_pos hi]
  have stop:isn c=false→z32 s order time many (f:Int) ((k:Nat):Int) ((c.toNat:Nat):Int) i m d u ov s (k+1) c0 c1 c2 c3 c4 c5 c6 c7 c8 S B L=match halfF time (c::r) ((s.drop f).take (k-f)) order many (m,d,u,ov) with | none=>some failV | some x=>z20 x.1 i x.2.1 x.2.2.1 x.2.2.2.1 x.2.2.2.2 c0 c1 c2 c3 c4 c5 c6 c7 c8 S B L:=by
   intro hi
   rw [zel,z14m hc,cut_s order c (by omega)]
   simp only [oB,tn1,tn2,zq,z16]
   rw [zek]
   conv=>rhs; unfold halfF
   rw [if_neg (by rw [hi]; simp)]
   cases hfo:(cutF c order).2.2 with
   | false=>rw [if_neg (by simp)]; rfl
   | true =>
   rw [if_pos rfl]
   simp only [Bool.not_true,cond_false]
   rw [zej,subS_n hf (by omega)]
   simp only [oB]
   rw [lt (hs:=by simp; omega) (hm:=hm) (hd:=hd) (hu:=hu)]
   cases hl:letF ((s.drop f).take (k-f)) ((c.toNat:Nat):Int) time (m,d,u,ov) with
   | none=>rfl
   | some st =>
   have h3:=z1af hl ⟨hm,hd,hu⟩
   simp only
   rw [zei,z14m hc,zdz]
   have e1:(((List.length [c]:Nat)):Int)=1:=rfl
   rw [e1,w64 (n:=(k:Int)+1) (by omega) (by omega),w64 (n:=many+1) (by omega) (by omega),show (k:Int)+1=((k+1:Nat):Int) by omega,
    half time i s hs hA r (k+1) (k+1) _ (many+1) st.1 st.2.1 st.2.2.1 st.2.2.2 hr1 (Nat.le_refl _) (by omega) (by omega) (by omega) (by omega) h3.1 h3.2.1 h3.2.2]
   rw [show k+1-(k+1)=0 by omega,List.take_zero]
  have hsp:isn c=(decide ((c.toNat:Int)=45)||decide ((c.toNat:Int)=46)||(decide (48≤(c.toNat:Int))&&decide ((c.toNat:Int)≤57))):=by
   unfold isn digB
   rw [Bool.eq_iff_iff]
   simp only [Bool.or_eq_true,beq_iff_eq,Bool.and_eq_true,decide_eq_true_eq]
   constructor
   ·rintro ((rfl | rfl) | h)
    ·exact .inl (.inl (by decide))
    ·exact .inl (.inr (by decide))
    ·exact .inr (by omega)
   ·rintro ((h | h) | h)
    ·exact .inl (.inl (by rw [← UInt8.ofNat_toNat (x:=c),show c.toNat=45 by omega]; rfl))
    ·exact .inl (.inr (by rw [← UInt8.ofNat_toNat (x:=c),show c.toNat=46 by omega]; rfl))
    ·exact .inr (by omega)
  by_cases h45:(c.toNat:Int)=45
  ·rw [c_eqT h45]; exact go (by rw [hsp,decide_eq_true h45]; rfl)
  rw [c_eqF h45]
  by_cases h46:(c.toNat:Int)=46
  ·rw [c_eqT h46]; exact go (by rw [hsp,decide_eq_true h46]; simp)
  rw [c_eqF h46]
  by_cases h48:48≤(c.toNat:Int)
  ·rw [c_leT h48]
   by_cases h57:(c.toNat:Int)≤57
   ·rw [c_leT h57]; exact go (by rw [hsp,decide_eq_true h48,decide_eq_true h57]; simp)
   ·rw [c_leF h57]; exact stop (by rw [hsp,decide_eq_false h45,decide_eq_false h46,decide_eq_false h57]; simp)
  ·rw [c_leF h48]; exact stop (by rw [hsp,decide_eq_false h45,decide_eq_false h46,decide_eq_false h48]; simp)
end
section
variable (c0 c1 c2 c3 c4 c5 c6 c7 c8:Int) (S:List UInt8) (B:Bool) (E:Int) (L:List PV)
theorem half_1 (time:Bool) (i:Int) (s:List UInt8) (hs:s.length≤10000) (hA:∀ c∈s,c.toNat<128):∀ (r:List UInt8) (k f:Nat) (order:List UInt8) (many m d u:Int) (ov:Bool),s.drop k=r→f≤k→k≤s.length→order.length≤100→0≤many→many≤k→In64 m→In64 d→In64 u →
  z12 s order time many (f:Int) i m d u ov s k c0 c1 c2 c3 c4 c5 c6 c7 c8 S B E L =
   match halfF time r ((s.drop f).take (k-f)) order many (m,d,u,ov) with
   | none=>some failV
   | some x=>z1t x.1 i x.2.1 x.2.2.1 x.2.2.2.1 x.2.2.2.2 c0 c1 c2 c3 c4 c5 c6 c7 c8 S B E L
 | [],k,f,order,many,m,d,u,ov,hr,hf,hkl,ho,hm0,hm1,hm,hd,hu=>by
  have hk:s.length≤k:=zyp hr
  rw [z68,show ltN k s.length=false from decide_eq_false (by omega),cond_false,c_not]
  unfold halfF
  by_cases he:(f:Int)=((s.length:Nat):Int)
  ·rw [c_eqT he]
   have:(s.drop f).take (k-f)=[]:=by
    rw [List.drop_eq_nil_of_le (by omega)]; simp
   rw [if_pos this]
  ·rw [c_eqF he]
   have hne:¬ ((s.drop f).take (k-f)=[]):=by
    intro h
    have:=congrArg List.length h
    rw [List.length_take,List.length_drop,List.length_nil] at this
    omega
   rw [if_neg hne]
 | c::r,k,f,order,many,m,d,u,ov,hr,hf,hkl,ho,hm0,hm1,hm,hd,hu=>by
  obtain ⟨hk,hck,hr1⟩:=zgu hr
  have hc:c.toNat<128:=hA c (List.mem_of_getElem? hck)
  have hdec:=zhb hck hc
  have hcol:=zgr c order
  rw [z68,show ltN k s.length=true from decide_eq_true hk,cond_true,hdec]
  simp only
  have htk:(s.drop f).take (k+1-f)=(s.drop f).take (k-f)++[c]:=by
   rw [show k+1-f=(k-f)+1 by omega,List.take_add_one,List.getElem?_drop,show f+(k-f)=k by omega,hck]; rfl
  have go:isn c=true→z12 s order time many (f:Int) i m d u ov s (k+1) c0 c1 c2 c3 c4 c5 c6 c7 c8 S B E L=match halfF time (c::r) ((s.drop f).take (k-f)) order many (m,d,u,ov) with | none=>some failV | some x=>z1t x.1 i x.2.1 x.2.2.1 x.2.2.2.1 x.2.2.2.2 c0 c1 c2 c3 c4 c5 c6 c7 c8 S B E L:=by
   intro hi
   rw [half_1 time i s hs hA r (k+1) f order many m d u ov hr1 (by omega) (by omega) ho hm0 (by omega) hm hd hu,htk]
   conv=>rhs; unfold halfF
   rw [if_pos hi]
  have stop:isn c=false→z2s s order time many (f:Int) ((k:Nat):Int) ((c.toNat:Nat):Int) i m d u ov s (k+1) c0 c1 c2 c3 c4 c5 c6 c7 c8 S B E L=match halfF time (c::r) ((s.drop f).take (k-f)) order many (m,d,u,ov) with | none=>some failV | some x=>z1t x.1 i x.2.1 x.2.2.1 x.2.2.2.1 x.2.2.2.2 c0 c1 c2 c3 c4 c5 c6 c7 c8 S B E L:=by
   intro hi
   rw [zdb,z14m hc,cut_s order c (by omega)]
   simp only [oB,tn1,tn2,zq,z16]
   rw [zda]
   conv=>rhs; unfold halfF
   rw [if_neg (by rw [hi]; simp)]
   cases hfo:(cutF c order).2.2 with
   | false=>rw [if_neg (by simp)]; rfl
   | true =>
   rw [if_pos rfl]
   simp only [Bool.not_true,cond_false]
   rw [zd9,subS_n hf (by omega)]
   simp only [oB]
   rw [lt_1 (hs:=by simp; omega) (hm:=hm) (hd:=hd) (hu:=hu)]
   cases hl:letF ((s.drop f).take (k-f)) ((c.toNat:Nat):Int) time (m,d,u,ov) with
   | none=>rfl
   | some st =>
   have h3:=z1af hl ⟨hm,hd,hu⟩
   simp only
   rw [zd8,z14m hc,zbz]
   have e1:(((List.length [c]:Nat)):Int)=1:=rfl
   rw [e1,w64 (n:=(k:Int)+1) (by omega) (by omega),w64 (n:=many+1) (by omega) (by omega),show (k:Int)+1=((k+1:Nat):Int) by omega,
    half_1 time i s hs hA r (k+1) (k+1) _ (many+1) st.1 st.2.1 st.2.2.1 st.2.2.2 hr1 (Nat.le_refl _) (by omega) (by omega) (by omega) (by omega) h3.1 h3.2.1 h3.2.2]
   rw [show k+1-(k+1)=0 by omega,List.take_zero]
  have hsp:isn c=(decide ((c.toNat:Int)=45)||decide ((c.toNat:Int)=46)||(decide (48≤(c.toNat:Int))&&decide ((c.toNat:Int)≤57))):=by
   unfold isn digB
   rw [Bool.eq_iff_iff]
   simp only [Bool.or_eq_true,beq_iff_eq,Bool.and_eq_true,decide_eq_true_eq]
   constructor
   ·rintro ((rfl | rfl) | h)
    ·exact .inl (.inl (by decide))
    ·exact .inl (.inr (by decide))
    ·exact .inr (by omega)
   ·rintro ((h | h) | h)
    ·exact .inl (.inl (by rw [← UInt8.ofNat_toNat (x:=c),show c.toNat=45 by omega]; rfl))
    ·exact .inl (.inr (by rw [← UInt8.ofNat_toNat (x:=c),show c.toNat=46 by omega]; rfl))
    ·exact .inr (by omega)
  by_cases h45:(c.toNat:Int)=45
  ·rw [c_eqT h45]; exact go (by rw [hsp,decide_eq_true h45]; rfl)
  rw [c_eqF h45]
  by_cases h46:(c.toNat:Int)=46
  ·rw [c_eqT h46]; exact go (by rw [hsp,decide_eq_true h46]; simp)
  rw [c_eqF h46]
  by_cases h48:48≤(c.toNat:Int)
  ·rw [c_leT h48]
   by_cases h57:(c.toNat:Int)≤57
   ·rw [c_leT h57]; exact go (by rw [hsp,decide_eq_true h48,decide_eq_true h57]; simp)
   ·rw [c_leF h57]; exact stop (by rw [hsp,decide_eq_false h45,decide_eq_false h46,decide_eq_false h57]; simp)
  ·rw [c_leF h48]; exact stop (by rw [hsp,decide_eq_false h45,decide_eq_false h46,decide_eq_false h48]; simp)
end
def isoF (s:List UInt8):Option SumS :=
 match halfF false (cutF 116 s).1 [] [121,109,119,100] 0 (0,0,0,false) with
 | none=>none
 | some x=>if (cutF 116 s).2.2=true then
   match halfF true (cutF 116 s).2.1 [] [104,109,115] 0 x.2 with
   | none=>none
   | some y=>if 0<y.1 then some y.2 else none
  else if 0<x.1 then some x.2 else none
theorem z1cs (c:UInt8):∀ s:List UInt8,(∀ x∈(cutF c s).1,x∈s)∧(∀ x∈(cutF c s).2.1,x∈s)
 | []=>⟨fun x h=>h,fun x h=>h⟩
 | d::r=>by
  have:=z1cs c r
  unfold cutF
  split
  ·exact ⟨fun x h=>by (simp at h),fun x h=>List.mem_cons_of_mem _ h⟩
  ·refine ⟨fun x h=>?_,fun x h=>List.mem_cons_of_mem _ (this.2 x h)⟩
   rcases List.mem_cons.1 h with rfl | h
   ·simp
   ·exact List.mem_cons_of_mem _ (this.1 x h)
section
variable (c5 c6 c7 c8:Int) (L:List PV)
theorem try_i (m d u:Int) (ov:Bool) (hu:In64 u):z7i 0 0 0 0 0 0 m d u ov c5 c6 c7 c8 L=some (sumV (m,d,u,ov)):=by
 rw [zh3]
 unfold sumV
 cases ov with
 | true=>rfl
 | false =>
  simp only [cond_false,Bool.false_eq_true,if_false]
  rw [zkv,zxg hu.1 hu.2]
  simp only [oB,z16]
  cases spanR 0 m d u <;> rfl
theorem isoP_s (s:List UInt8) (hs:s.length≤10000) (hA:∀ c∈s,c.toNat<128) :
  z5i s 0 0 0 0 false 0 0 0 0 0 c5 c6 c7 c8 L=some (match isoF s with | none=>failV | some st=>sumV st):=by
 have hcl:=zgr 116 s
 have hcm:=z1cs 116 s
 have z:In64 0:=⟨by omega,by omega⟩
 rw [zfb,cut_s s 116 (by omega)]
 simp only [oB,tn0,tn1,tn2,zq,z16]
 rw [zfa,zem]
 have h1:=half 0 0 0 0 0 c5 c6 c7 c8 (cutF 116 s).2.1 (cutF 116 s).2.2 L false 0 (cutF 116 s).1 (by omega) (fun c hc=>hA c (hcm.1 c hc)) (cutF 116 s).1 0 0 [121,109,119,100] 0 0 0 0 false rfl (Nat.le_refl _) (by omega) (by simp) (by omega) (by omega) z z z
 rw [show ((0:Nat):Int)=0 from rfl] at h1
 rw [h1]
 unfold isoF
 rw [List.take_zero]
 cases hx:halfF false (cutF 116 s).1 [] [121,109,119,100] 0 (0,0,0,false) with
 | none=>rfl
 | some x =>
 obtain ⟨n,m,d,u,ov⟩:=x
 obtain ⟨hi3,hn0,hn1⟩:=zw4 _ _ _ _ _ _ hx ⟨z,z,z⟩
 simp only at hi3 hn0 hn1 ⊢
 rw [zdy,zf9]
 have fin:∀ (n m d u:Int) (ov:Bool),In64 u→z39 n 0 0 0 0 0 0 m d u ov c5 c6 c7 c8 L=some (match (if 0<n then some (m,d,u,ov) else none:Option SumS) with | none=>failV | some st=>sumV st):=by
  intro n m d u ov hu
  rw [zf6]
  by_cases h:0<n
  ·rw [c_not,c_ltT h,if_pos h]; exact try_i c5 c6 c7 c8 L m d u ov hu
  ·rw [c_not,c_ltF h,if_neg h]
 cases hpt:(cutF 116 s).2.2 with
 | false =>
  simp only [cond_false,Bool.false_eq_true,if_false]
  exact fin n m d u ov hi3.2.2
 | true =>
  simp only [cond_true,if_true]
  rw [zdc]
  have h2:=half_1 0 0 0 0 0 c5 c6 c7 c8 (cutF 116 s).2.1 true n L true 0 (cutF 116 s).2.1 (by omega) (fun c hc=>hA c (hcm.2 c hc)) (cutF 116 s).2.1 0 0 [104,109,115] 0 m d u ov rfl (Nat.le_refl _) (by omega) (by simp) (by omega) (by omega) hi3.1 hi3.2.1 hi3.2.2
  rw [show ((0:Nat):Int)=0 from rfl] at h2
  rw [h2,List.take_zero]
  cases hy:halfF true (cutF 116 s).2.1 [] [104,109,115] 0 (m,d,u,ov) with
  | none=>rfl
  | some y =>
  obtain ⟨k,m2,d2,u2,ov2⟩:=y
  obtain ⟨hj3,hk0,hk1⟩:=zw4 _ _ _ _ _ _ hy hi3
  simp only at hj3 hk0 hk1 ⊢
  rw [zby,zf8]
  by_cases h:0<k
  ·rw [c_not,c_ltT h,if_pos h,zf7,w64 (by omega) (by omega),fin _ _ _ _ _ hj3.2.2,if_pos (by omega)]
  ·rw [c_not,c_ltF h,if_neg h]
end
end Dv

set_option maxRecDepth 20000
namespace Dv
open Go
theorem span_iso (s:List UInt8) (hs:s.length≤2048) {w r:List UInt8} (h2:spcI (z29 s)=0∨spcI (z29 s)=2) (hw:z29 s=[w]) (hc:lowS w=112::r) (hA:∀ c∈r,c.toNat<128) :
  z8y s=some (match isoF r with | none=>failV | some st=>sumV st):=by
 have hwl:w.length≤2048:=by
  have:=zih s [] s.length (by simp) w (by show w∈z29 s; rw [hw]; simp)
  omega
 have hrl:r.length≤2048:=by
  have:=congrArg List.length hc
  unfold lowS at this
  simp at this; omega
 rw [z19s s hs (by rw [hw]; simp) (by rcases h2 with h | h <;> rw [h] <;> decide) h2,zh6,hw]
 have t0:rdI tiStr ([w].map PV.str) 0=some (.str w):=rfl
 rw [t0]
 simp only [oB,zq]
 rw [zwp w (by show _≤70368744177664; omega)]
 simp only [oB,zq]
 have e1:((([w].map PV.str).length:Nat):Int)=1:=rfl
 rw [zh5,e1,c_eqT rfl,hc,atS_z (c:=112) rfl]
 simp only [oB]
 rw [c_eqT (by decide),zxm,zh4,znj (by omega) (by simp; omega)]
 exact isoP_s 0 0 0 0 _ r (by omega) hA
end Dv

set_option maxRecDepth 20000
namespace Dv
open Go
theorem zfd (a b:List UInt8):lowS (a++b)=lowS a++lowS b:=by unfold lowS; rw [List.map_append]
theorem zw3 {s:List UInt8} (h:s.all digB=true):lowS s=s:=by
 unfold lowS
 conv=>rhs; rw [← List.map_id s]
 exact List.map_congr_left fun c hc=>low_dig (List.all_eq_true.1 h c hc)
theorem ziz {n:Int} (h:InS n):(∀ p,sgn (decI n) p=some (n,false))∧lowS (decI n)=decI n∧(decI n).all isn=true∧decI n≠[]∧(decI n).length≤21∧46∉decI n∧(preB 45 (decI n)=decide (n<0)):=by
 have isd:∀ {s:List UInt8},s.all digB=true→s.all isn=true:=fun h=>List.all_eq_true.2 fun c hc=>by unfold isn; rw [List.all_eq_true.1 h c hc]; simp
 unfold decI
 by_cases hn:n<0
 ·rw [if_pos hn]
  have hb:(((-n).toNat:Nat):Int)≤9223372036854775807:=by omega
  obtain ⟨d1,d2,d3,d4⟩:=zgq hb
  obtain ⟨s1,s2,s3⟩:=zjd d1 d4
  refine ⟨fun p=>?_,?_,?_,by simp,by simp; omega,?_,?_⟩
  ·rw [s2 p]; congr 2; omega
  ·show lowS ([45]++digN (-n).toNat)=_
   rw [zfd,zw3 d1]; rfl
  ·rw [List.all_cons,isd d1]; rfl
  ·intro h
   rcases List.mem_cons.1 h with h | h
   ·exact absurd h (by decide)
   ·exact zc0 d1 (by decide) h
  ·rw [decide_eq_true hn]; rfl
 ·rw [if_neg hn]
  have hb:((n.toNat:Nat):Int)≤9223372036854775807:=by omega
  obtain ⟨d1,d2,d3,d4⟩:=zgq hb
  obtain ⟨s1,s2,s3⟩:=zjd d1 d4
  refine ⟨fun p=>?_,zw3 d1,isd d1,d2,by omega,zc0 d1 (by decide),?_⟩
  ·rw [s3 p]; congr 2; omega
  ·rw [decide_eq_false hn]; exact z13n d1 (by decide)
theorem z1ce (time:Bool) (r order:List UInt8) (many:Int) (st:SumS):∀ (s cur:List UInt8),s.all isn=true→halfF time (s++r) cur order many st=halfF time r (cur++s) order many st
 | [],cur,_=>by simp
 | c::s,cur,h=>by
  rw [List.all_cons,Bool.and_eq_true] at h
  rw [List.cons_append,halfF,if_pos h.1,z1ce time r order many st s _ h.2]
  simp
theorem ziw {time:Bool} {s r order rest:List UInt8} {c:UInt8} {many:Int} {st st':SumS} (hs:s.all isn=true) (hc:isn c=false) (ho:cutF c order=([],rest,true)∨∃ p,cutF c order=(p,rest,true)) (hl:letF s (c.toNat:Int) time st=some st') :
  halfF time (s++c::r) [] order many st=halfF time r [] rest (many+1) st':=by
 obtain ⟨p,hp⟩:∃ p,cutF c order=(p,rest,true):=by rcases ho with h | h; exact ⟨_,h⟩; exact h
 rw [z1ce time _ order many st s [] hs,halfF,if_neg (by rw [hc]; simp),hp]
 simp only [List.nil_append,if_true]
 rw [hl]
def partL (n:Int) (c:UInt8):List UInt8:=if n=0 then [] else decI n++[c]
def cntI (n:Int):Int:=if n=0 then 0 else 1
theorem zxr (c:UInt8):partL 0 c=[]:=rfl
theorem zxq {n:Int} (h:n≠0) (c:UInt8):partL n c=decI n++[c]:=if_neg h
theorem let_y {n:Int} (h:InS n) (st:SumS):letF (decI n) ((121:UInt8).toNat:Int) false st=some ((moreF st.1 n 12 st.2.2.2).1,st.2.1,st.2.2.1,(moreF st.1 n 12 st.2.2.2).2):=by
 show (match sgn (decI n) false with | none=>none | some q=>some ((moreF st.1 q.1 12 (st.2.2.2||q.2)).1,st.2.1,st.2.2.1,(moreF st.1 q.1 12 (st.2.2.2||q.2)).2):Option SumS)=_
 rw [(ziz h).1]; simp only [Bool.or_false]
theorem let_m {n:Int} (h:InS n) (st:SumS):letF (decI n) ((109:UInt8).toNat:Int) false st=some ((moreF st.1 n 1 st.2.2.2).1,st.2.1,st.2.2.1,(moreF st.1 n 1 st.2.2.2).2):=by
 show (match sgn (decI n) false with | none=>none | some q=>some ((moreF st.1 q.1 1 (st.2.2.2||q.2)).1,st.2.1,st.2.2.1,(moreF st.1 q.1 1 (st.2.2.2||q.2)).2):Option SumS)=_
 rw [(ziz h).1]; simp only [Bool.or_false]
theorem let_d {n:Int} (h:InS n) (st:SumS):letF (decI n) ((100:UInt8).toNat:Int) false st=some (st.1,(moreF st.2.1 n 1 st.2.2.2).1,st.2.2.1,(moreF st.2.1 n 1 st.2.2.2).2):=by
 show (match sgn (decI n) false with | none=>none | some q=>some (st.1,(moreF st.2.1 q.1 1 (st.2.2.2||q.2)).1,st.2.2.1,(moreF st.2.1 q.1 1 (st.2.2.2||q.2)).2):Option SumS)=_
 rw [(ziz h).1]; simp only [Bool.or_false]
theorem let_h {n:Int} (h:InS n) (st:SumS):letF (decI n) ((104:UInt8).toNat:Int) true st=some (st.1,st.2.1,(moreF st.2.2.1 n 3600000000 st.2.2.2).1,(moreF st.2.2.1 n 3600000000 st.2.2.2).2):=by
 show (match sgn (decI n) false with | none=>none | some q=>some (st.1,st.2.1,(moreF st.2.2.1 q.1 3600000000 (st.2.2.2||q.2)).1,(moreF st.2.2.1 q.1 3600000000 (st.2.2.2||q.2)).2):Option SumS)=_
 rw [(ziz h).1]; simp only [Bool.or_false]
theorem let_i {n:Int} (h:InS n) (st:SumS):letF (decI n) ((109:UInt8).toNat:Int) true st=some (st.1,st.2.1,(moreF st.2.2.1 n 60000000 st.2.2.2).1,(moreF st.2.2.1 n 60000000 st.2.2.2).2):=by
 show (match sgn (decI n) false with | none=>none | some q=>some (st.1,st.2.1,(moreF st.2.2.1 q.1 60000000 (st.2.2.2||q.2)).1,(moreF st.2.2.1 q.1 60000000 (st.2.2.2||q.2)).2):Option SumS)=_
 rw [(ziz h).1]; simp only [Bool.or_false]
theorem half_d {d:Int} (hd:InS d) {order p:List UInt8} (ho:cutF 100 order=(p,[],true)) (many M:Int):halfF false (partL d 100) [] order many (M,0,0,false)=some (many+cntI d,(M,d,0,false)):=by
 by_cases h:d=0
 ·subst h; rw [zxr,halfF,if_pos rfl]; show some (many,_)=_; unfold cntI; rw [if_pos rfl,Int.add_zero]
 ·rw [zxq h,ziw (ziz hd).2.2.1 (by decide) (.inr ⟨p,ho⟩) (let_d hd _),halfF,if_pos rfl]
  simp only
  rw [z5k ⟨by omega,by omega⟩ ⟨by omega,by omega⟩]
  unfold cntI; rw [if_neg h]
  congr 3; simp only; congr 1; omega
theorem half_md {y mo d:Int} (hy:-178956970≤y∧y≤178956970) (hm:-11≤mo∧mo≤11) (hd:InS d) {order p p2:List UInt8} (ho:cutF 109 order=(p,[119,100],true)) (ho2:cutF 100 order=(p2,[],true)) (many:Int) :
  halfF false (partL mo 109++partL d 100) [] order many (y*12,0,0,false)=some (many+cntI mo+cntI d,(y*12+mo,d,0,false)):=by
 have hmi:InS mo:=⟨by omega,by omega⟩
 by_cases h:mo=0
 ·subst h
  rw [zxr,List.nil_append,half_d hd ho2]
  unfold cntI; rw [if_pos rfl,Int.add_zero,Int.add_zero]
 ·rw [zxq h,List.append_assoc]
  show halfF false (decI mo++109::partL d 100) [] order many _=_
  rw [ziw (ziz hmi).2.2.1 (by decide) (.inr ⟨p,ho⟩) (let_m hmi _)]
  simp only
  rw [z5k ⟨by omega,by omega⟩ ⟨by omega,by omega⟩]
  simp only
  rw [half_d hd (order:=[119,100]) (p:=[119]) rfl]
  have:cntI mo=1:=if_neg h
  rw [this,Int.mul_one]
theorem half_date {y mo d:Int} (hy:-178956970≤y∧y≤178956970) (hm:-11≤mo∧mo≤11) (hd:InS d) :
  halfF false (partL y 121++(partL mo 109++partL d 100)) [] [121,109,119,100] 0 (0,0,0,false)=some (cntI y+cntI mo+cntI d,(y*12+mo,d,0,false)):=by
 have hyi:InS y:=⟨by omega,by omega⟩
 by_cases h:y=0
 ·subst h
  rw [zxr,List.nil_append]
  have:=half_md (y:=0) (mo:=mo) (d:=d) (by omega) hm hd (order:=[121,109,119,100]) (p:=[121]) (p2:=[121,109,119]) rfl rfl 0
  rw [Int.zero_mul] at this ⊢
  rw [this]
  rfl
 ·rw [zxq h,List.append_assoc]
  show halfF false (decI y++121::(partL mo 109++partL d 100)) [] _ 0 _=_
  rw [ziw (ziz hyi).2.2.1 (by decide) (.inr ⟨[],rfl⟩) (let_y hyi _)]
  simp only
  rw [z5k ⟨by omega,by omega⟩ ⟨by omega,by omega⟩]
  simp only
  rw [Int.zero_add,Int.zero_add,half_md hy hm hd (order:=[109,119,100]) (p:=[]) (p2:=[109,119]) rfl rfl]
  have:cntI y=1:=if_neg h
  rw [this]
def secL (u:Int):List UInt8:=if u=0 then [] else (if u<0 then [45] else [])++(digN ((absI u).toNat / 1000000)++(fracN ((absI u).toNat % 1000000)++[115]))
theorem let_s {u:Int} (hu:-60000000<u∧u<60000000) {w f:List UInt8} (hw:w=(if u<0 then [45] else [])++digN ((absI u).toNat / 1000000)) (hf:f=fracN ((absI u).toNat % 1000000)) {M D U:Int} (hU:In64 U) (h1:In64 (U+u)) :
  letF (w++f) ((115:UInt8).toNat:Int) true (M,D,U,false)=some (M,D,U+u,false):=by
 have hA:(((absI u).toNat:Nat):Int)=if u<0 then -u else u:=by unfold absI; split <;> omega
 generalize (absI u).toNat=N at hA hw hf
 have hN:N<60000000:=by split at hA <;> omega
 obtain ⟨d1,d2,d3,d4⟩:=zgq (n:=N / 1000000) (by omega)
 obtain ⟨s1,s2,s3⟩:=zjd d1 d4
 have hs:sgn w false=some (if u<0 then -((N / 1000000:Nat):Int) else ((N / 1000000:Nat):Int),false):=by
  rw [hw]
  by_cases hn:u<0
  ·rw [if_pos hn,if_pos hn]; exact s2 false
  ·rw [if_neg hn,if_neg hn]; exact s3 false
 have h46:(46:UInt8)∉w:=by
  rw [hw]
  intro h
  rcases List.mem_append.1 h with h | h
  ·split at h
   ·simp at h
   ·cases h
  ·exact zc0 d1 (by decide) h
 have hp:preB 45 w=decide (u<0):=by
  rw [hw]
  by_cases hn:u<0
  ·rw [if_pos hn,decide_eq_true hn]; rfl
  ·rw [if_neg hn,decide_eq_false hn]; exact z13n d1 (by decide)
 unfold letF
 rw [if_pos (by decide)]
 simp only [Bool.false_or]
 have hq:moreF U (if u<0 then -((N / 1000000:Nat):Int) else ((N / 1000000:Nat):Int)) 1000000 false=(U+(if u<0 then -((N / 1000000:Nat):Int) else ((N / 1000000:Nat):Int))*1000000,false):=by
  obtain ⟨u1,u2⟩:=hU
  obtain ⟨u3,u4⟩:=h1
  split at hA <;> rename_i hn
  ·rw [if_pos hn,z5k ⟨by omega,by omega⟩ ⟨by omega,by omega⟩]
  ·rw [if_neg hn,z5k ⟨by omega,by omega⟩ ⟨by omega,by omega⟩]
 by_cases h0:N % 1000000=0
 ·have hfr:f=[]:=by rw [hf]; unfold fracN; rw [if_pos (.inl h0)]
  rw [hfr,List.append_nil,zwd h46]
  simp only
  rw [hs]
  simp only [Bool.false_eq_true,if_false]
  rw [hq]
  simp only
  congr 4
  split at hA <;> rename_i hn
  ·rw [if_pos hn]; omega
  ·rw [if_neg hn]; omega
 ·have hfr:f=46::z3y (digC 20 (N % 1000000) 6):=by rw [hf]; unfold fracN; rw [if_neg (by omega)]
  rw [hfr,zrd h46]
  simp only
  rw [hs]
  simp only [if_true]
  rw [z11l h0 (by omega)]
  simp only
  rw [hq,hp]
  simp only
  by_cases hn:u<0
  ·rw [if_pos hn] at hA
   rw [if_pos hn,decide_eq_true hn,if_pos rfl,z5k ⟨by omega,by omega⟩ ⟨by omega,by omega⟩]
   simp only
   congr 4; omega
  ·rw [if_neg hn] at hA
   rw [if_neg hn,decide_eq_false hn,if_neg (by simp),z5k ⟨by omega,by omega⟩ ⟨by omega,by omega⟩]
   simp only
   congr 4; omega
theorem half_s {s:Int} (hs:-60000000<s∧s<60000000) {order p:List UInt8} (ho:cutF 115 order=(p,[],true)) (many M D U:Int) (hU:In64 U) (h1:In64 (U+s)) :
  halfF true (secL s) [] order many (M,D,U,false)=some (many+cntI s,(M,D,U+s,false)):=by
 by_cases h:s=0
 ·subst h
  show halfF true [] [] order many _=_
  rw [halfF,if_pos rfl]; unfold cntI; rw [if_pos rfl,Int.add_zero,Int.add_zero]
 ·have hb:(((absI s).toNat / 1000000:Nat):Int)≤9223372036854775807:=by unfold absI; split <;> omega
  obtain ⟨d1,_⟩:=zgq hb
  have isd:∀ {s:List UInt8},s.all digB=true→s.all isn=true:=fun h=>List.all_eq_true.2 fun c hc=>by unfold isn; rw [List.all_eq_true.1 h c hc]; simp
  have ha:(((if s<0 then [45] else [])++digN ((absI s).toNat / 1000000))++fracN ((absI s).toNat % 1000000)).all isn=true:=by
   rw [List.all_append,List.all_append,isd d1]
   have e1:(if s<0 then ([45]:List UInt8) else []).all isn=true:=by split <;> rfl
   have e2:(fracN ((absI s).toNat % 1000000)).all isn=true:=by
    unfold fracN
    split
    ·rfl
    ·rw [List.all_cons,isd (zdi _ (z3x 20 _ 6))]; rfl
   rw [e1,e2]; rfl
  have e:secL s=(((if s<0 then [45] else [])++digN ((absI s).toNat / 1000000))++fracN ((absI s).toNat % 1000000))++115::[]:=by unfold secL; rw [if_neg h]; simp
  rw [e,ziw ha (by decide) (.inr ⟨p,ho⟩) (let_s hs rfl rfl hU h1),halfF,if_pos rfl]
  unfold cntI; rw [if_neg h]
theorem half_is {mi s:Int} (hi:-60<mi∧mi<60) (hs:-60000000<s∧s<60000000) {order p p2:List UInt8} (ho:cutF 109 order=(p,[115],true)) (ho2:cutF 115 order=(p2,[],true)) (many M D U:Int) (h0:In64 U) (h1:In64 (U+mi*60000000)) (h2:In64 (U+mi*60000000+s)) :
  halfF true (partL mi 109++secL s) [] order many (M,D,U,false)=some (many+cntI mi+cntI s,(M,D,U+mi*60000000+s,false)):=by
 have hmi:InS mi:=⟨by omega,by omega⟩
 by_cases h:mi=0
 ·subst h
  rw [Int.zero_mul,Int.add_zero] at h2
  rw [zxr,List.nil_append,half_s hs ho2 _ _ _ _ h0 h2]
  have:cntI 0=0:=rfl
  rw [this,Int.add_zero,Int.zero_mul,Int.add_zero]
 ·rw [zxq h,List.append_assoc]
  show halfF true (decI mi++109::secL s) [] order many _=_
  rw [ziw (ziz hmi).2.2.1 (by decide) (.inr ⟨p,ho⟩) (let_i hmi _)]
  simp only
  rw [z5k ⟨by omega,by omega⟩ h1]
  simp only
  rw [half_s hs (order:=[115]) (p:=[]) rfl _ _ _ _ h1 h2]
  have:cntI mi=1:=if_neg h
  rw [this]
theorem half_time {h mi s:Int} (hh:-2562047789<h∧h<2562047789) (hi:-60<mi∧mi<60) (hs:-60000000<s∧s<60000000) (hu:InS (h*3600000000+mi*60000000+s)) (hsg:(0≤h∧0≤mi∧0≤s)∨(h≤0∧mi≤0∧s≤0)) (M D:Int) :
  halfF true (partL h 104++(partL mi 109++secL s)) [] [104,109,115] 0 (M,D,0,false)=some (cntI h+cntI mi+cntI s,(M,D,h*3600000000+mi*60000000+s,false)):=by
 have hhi:InS h:=⟨by omega,by omega⟩
 have b1:In64 (h*3600000000):=⟨by omega,by omega⟩
 have b2:In64 (h*3600000000+mi*60000000):=⟨by omega,by omega⟩
 have b3:In64 (h*3600000000+mi*60000000+s):=⟨by omega,by omega⟩
 by_cases h0:h=0
 ·subst h0
  rw [Int.zero_mul] at b1 b2 b3
  rw [zxr,List.nil_append,half_is hi hs (order:=[104,109,115]) (p:=[104]) (p2:=[104,109]) rfl rfl 0 M D 0 b1 b2 b3]
  rw [Int.zero_mul]; rfl
 ·rw [zxq h0,List.append_assoc]
  show halfF true (decI h++104::(partL mi 109++secL s)) [] _ 0 _=_
  rw [ziw (ziz hhi).2.2.1 (by decide) (.inr ⟨[],rfl⟩) (let_h hhi _)]
  simp only
  rw [z5k b1 (by rw [Int.zero_add]; exact b1)]
  simp only
  rw [Int.zero_add,Int.zero_add,half_is hi hs (order:=[109,115]) (p:=[]) (p2:=[109]) rfl rfl 1 M D _ b1 b2 b3]
  have:cntI h=1:=if_neg h0
  rw [this]
end Dv

set_option maxRecDepth 20000
namespace Dv
open Go
theorem zqr {n:Int} (h:InS n) (C c:UInt8) (hc:lowB C=c):lowS (partB n C)=partL n c:=by
 unfold partB partL
 by_cases h0:n=0
 ·rw [if_pos h0,if_pos h0]; rfl
 ·rw [if_neg h0,if_neg h0,zfd,(ziz h).2.1]
  show decI n++[lowB C]=_
  rw [hc]
theorem low_frac (f:Nat):lowS (fracN f)=fracN f:=by
 unfold fracN
 split
 ·rfl
 ·show lowS ([46]++z3y (digC 20 f 6))=_
  rw [zfd,zw3 (zdi _ (z3x 20 f 6))]; rfl
theorem low_sec (u:Int):lowS (secB u)=secL u:=by
 unfold secB secL
 by_cases h0:u=0
 ·rw [if_pos h0,if_pos h0]; rfl
 ·have hdg:lowS (digN ((absI u).toNat / 1000000))=digN ((absI u).toNat / 1000000):=zw3 (z3x 20 _ 1)
  rw [if_neg h0,if_neg h0,zfd,zfd,zfd,hdg,low_frac]
  have:lowS (if u<0 then ([45]:List UInt8) else [])=if u<0 then [45] else []:=by split <;> rfl
  rw [this]; rfl
abbrev dateL (m d:Int):List UInt8:=partL (m.tdiv 12) 121++(partL (m.tmod 12) 109++partL d 100)
abbrev timeL (u:Int):List UInt8:=partL (hourI u) 104++(partL (minI' u) 109++secL (u.tmod 60000000))
def isoR (m d u:Int):List UInt8:=if isoT m d u=[80] then [116,48,115] else if u=0 then dateL m d else dateL m d++116::timeL u
theorem hms_u {u:Int} (hu:InS u):hourI u*3600000000+minI' u*60000000+u.tmod 60000000=u∧(-2562047789<hourI u∧hourI u<2562047789)∧(-60<minI' u∧minI' u<60)∧(-60000000<u.tmod 60000000∧u.tmod 60000000<60000000) ∧
  ((0≤hourI u∧0≤minI' u∧0≤u.tmod 60000000)∨(hourI u≤0∧minI' u≤0∧u.tmod 60000000≤0)):=by
 unfold hourI minI'
 obtain ⟨n,⟨hn,h0⟩ | ⟨hn,h0⟩⟩:=nat_or u
 ·subst hn
  have a1:Int.tdiv (n:Int) 3600000000=((n / 3600000000:Nat):Int):=tdivN n 3600000000
  have a2:Int.tmod (n:Int) 3600000000=((n % 3600000000:Nat):Int):=tmodN n 3600000000
  have a3:Int.tdiv ((n % 3600000000:Nat):Int) 60000000=((n % 3600000000 / 60000000:Nat):Int):=tdivN _ 60000000
  have a4:Int.tmod (n:Int) 60000000=((n % 60000000:Nat):Int):=tmodN n 60000000
  rw [a1,a2,a3,a4]
  refine ⟨by omega,⟨by omega,by omega⟩,⟨by omega,by omega⟩,⟨by omega,by omega⟩,.inl ⟨by omega,by omega,by omega⟩⟩
 ·subst hn
  have a1:Int.tdiv (-(n:Int)) 3600000000=-((n / 3600000000:Nat):Int):=zhi n 3600000000
  have a2:Int.tmod (-(n:Int)) 3600000000=-((n % 3600000000:Nat):Int):=zq1 n 3600000000
  have a3:Int.tdiv (-((n % 3600000000:Nat):Int)) 60000000=-((n % 3600000000 / 60000000:Nat):Int):=zhi _ 60000000
  have a4:Int.tmod (-(n:Int)) 60000000=-((n % 60000000:Nat):Int):=zq1 n 60000000
  rw [a1,a2,a3,a4]
  refine ⟨by omega,⟨by omega,by omega⟩,⟨by omega,by omega⟩,⟨by omega,by omega⟩,.inr ⟨by omega,by omega,by omega⟩⟩
theorem ym_m {m:Int} (hm:-2147483647≤m∧m≤2147483647):m.tdiv 12*12+m.tmod 12=m∧(-178956970≤m.tdiv 12∧m.tdiv 12≤178956970)∧(-11≤m.tmod 12∧m.tmod 12≤11):=by
 obtain ⟨n,⟨hn,h0⟩ | ⟨hn,h0⟩⟩:=nat_or m
 ·subst hn
  have a1:Int.tdiv (n:Int) 12=((n / 12:Nat):Int):=tdivN n 12
  have a2:Int.tmod (n:Int) 12=((n % 12:Nat):Int):=tmodN n 12
  rw [a1,a2]
  refine ⟨by omega,⟨by omega,by omega⟩,⟨by omega,by omega⟩⟩
 ·subst hn
  have a1:Int.tdiv (-(n:Int)) 12=-((n / 12:Nat):Int):=zhi n 12
  have a2:Int.tmod (-(n:Int)) 12=-((n % 12:Nat):Int):=zq1 n 12
  rw [a1,a2]
  refine ⟨by omega,⟨by omega,by omega⟩,⟨by omega,by omega⟩⟩
theorem iso_low {m d u:Int} (hm:-2147483647≤m∧m≤2147483647) (hd:InS d) (hu:InS u):lowS (isoB m d u)=112::isoR m d u:=by
 obtain ⟨_,y1,y2⟩:=ym_m hm
 obtain ⟨_,h1,h2,h3,_⟩:=hms_u hu
 have eH:lowS (isoH m d)=112::dateL m d:=by
  unfold isoH
  show lowS ([80]++(partB (m.tdiv 12) 89++(partB (m.tmod 12) 77++partB d 68)))=_
  rw [zfd,zfd,zfd,zqr ⟨by omega,by omega⟩ 89 121 (by decide),zqr ⟨by omega,by omega⟩ 77 109 (by decide),zqr hd 68 100 (by decide)]; rfl
 unfold isoB isoR
 by_cases h:isoT m d u=[80]
 ·rw [if_pos h,if_pos h]; rfl
 ·rw [if_neg h,if_neg h]
  unfold isoT
  by_cases h0:u=0
  ·rw [if_pos h0,if_pos h0]; exact eH
  ·rw [if_neg h0,if_neg h0,zfd,eH]
   show 112::dateL m d++lowS ([84]++(partB (hourI u) 72++(partB (minI' u) 77++secB (u.tmod 60000000))))=_
   rw [zfd,zfd,zfd,zqr ⟨by omega,by omega⟩ 72 104 (by decide),zqr ⟨by omega,by omega⟩ 77 109 (by decide),low_sec]; rfl
def isoC (c:UInt8):Bool:=isn c||c == 121||c == 109||c == 100||c == 104||c == 115
theorem z16z {n:Int} (h:InS n) {c:UInt8} (hc:isoC c=true):∀ x∈partL n c,isoC x=true:=by
 intro x hx
 unfold partL at hx
 split at hx
 ·cases hx
 ·rcases List.mem_append.1 hx with hx | hx
  ·have:=List.all_eq_true.1 (ziz h).2.2.1 x hx
   unfold isoC; rw [this]; rfl
  ·simp at hx; subst hx; exact hc
theorem sec_c (u:Int):∀ x∈secL u,isoC x=true:=by
 have dg:∀ {s:List UInt8},s.all digB=true→∀ x∈s,isoC x=true:=fun h x hx=>by
  unfold isoC isn; rw [List.all_eq_true.1 h x hx]; simp
 intro x hx
 unfold secL at hx
 split at hx
 ·cases hx
 ·rcases List.mem_append.1 hx with hx | hx
  ·split at hx
   ·simp at hx; subst hx; decide
   ·cases hx
  rcases List.mem_append.1 hx with hx | hx
  ·exact dg (z3x 20 _ 1) x hx
  rcases List.mem_append.1 hx with hx | hx
  ·unfold fracN at hx
   split at hx
   ·cases hx
   ·rcases List.mem_cons.1 hx with rfl | hx
    ·decide
    ·exact dg (zdi _ (z3x 20 _ 6)) x hx
  ·simp at hx; subst hx; decide
theorem isoF_back {m d u:Int} (hm:-2147483647≤m∧m≤2147483647) (hd:InS d) (hu:InS u):isoF (isoR m d u)=some (m,d,u,false)∧(∀ x∈isoR m d u,isoC x=true∨x=116):=by
 obtain ⟨ym,y1,y2⟩:=ym_m hm
 obtain ⟨hs,h1,h2,h3,h4⟩:=hms_u hu
 have cd:∀ x∈dateL m d,isoC x=true:=by
  intro x hx
  rcases List.mem_append.1 hx with hx | hx
  ·exact z16z ⟨by omega,by omega⟩ (by decide) x hx
  rcases List.mem_append.1 hx with hx | hx
  ·exact z16z ⟨by omega,by omega⟩ (by decide) x hx
  ·exact z16z hd (by decide) x hx
 have ct:∀ x∈timeL u,isoC x=true:=by
  intro x hx
  rcases List.mem_append.1 hx with hx | hx
  ·exact z16z ⟨by omega,by omega⟩ (by decide) x hx
  rcases List.mem_append.1 hx with hx | hx
  ·exact z16z ⟨by omega,by omega⟩ (by decide) x hx
  ·exact sec_c _ x hx
 have n116:(116:UInt8)∉dateL m d:=fun h=>absurd (cd 116 h) (by decide)
 have hdate:=half_date y1 y2 hd
 rw [ym] at hdate
 have c0:∀ n:Int,0≤cntI n∧(n≠0→cntI n=1):=fun n=>by unfold cntI; split <;> constructor <;> intros <;> first | omega | (rename_i h h'; exact absurd h h') | rfl
 unfold isoR
 by_cases h:isoT m d u=[80]
 ·rw [if_pos h]
  have hz:m=0∧d=0∧u=0:=by
   unfold isoT at h
   by_cases h0:u=0
   ·rw [if_pos h0] at h
    unfold isoH at h
    rw [List.cons.injEq] at h
    have h':=h.2
    rw [List.append_eq_nil_iff,List.append_eq_nil_iff] at h'
    have pz:∀ {n:Int} {c:UInt8},partB n c=[]→n=0:=by
     intro n c hp
     unfold partB at hp
     split at hp
     ·assumption
     ·simp at hp
    have z1:=pz h'.1
    have z2:=pz h'.2.1
    have z3:=pz h'.2.2
    rw [z1,z2] at ym
    exact ⟨by omega,z3,h0⟩
   ·rw [if_neg h0] at h
    exfalso
    have:=congrArg List.length h
    unfold isoH at this
    simp at this
  obtain ⟨rfl,rfl,rfl⟩:=hz
  exact ⟨by decide,by intro x hx; simp at hx; rcases hx with rfl | rfl | rfl <;> first | exact .inr rfl | exact .inl (by decide)⟩
 ·rw [if_neg h]
  by_cases h0:u=0
  ·rw [if_pos h0]
   refine ⟨?_,fun x hx=>.inl (cd x hx)⟩
   unfold isoF
   rw [zwd n116]
   simp only
   rw [hdate]
   simp only [Bool.false_eq_true,if_false]
   have hpos:0<cntI (m.tdiv 12)+cntI (m.tmod 12)+cntI d:=by
    have p1:=c0 (m.tdiv 12)
    have p2:=c0 (m.tmod 12)
    have p3:=c0 d
    by_cases q1:m.tdiv 12=0
    ·by_cases q2:m.tmod 12=0
     ·by_cases q3:d=0
      ·exfalso; apply h
       unfold isoT isoH partB
       rw [if_pos h0,if_pos q1,if_pos q2,if_pos q3]; rfl
      ·have:=p3.2 q3; omega
     ·have:=p2.2 q2; omega
    ·have:=p1.2 q1; omega
   rw [if_pos hpos,h0]
  ·rw [if_neg h0]
   refine ⟨?_,fun x hx=>?_⟩
   ·unfold isoF
    rw [zrd n116]
    simp only
    rw [hdate]
    simp only [if_true]
    rw [half_time h1 h2 h3 (by rw [hs]; exact hu) h4 m d,hs]
    simp only
    have hpos:0<cntI (hourI u)+cntI (minI' u)+cntI (u.tmod 60000000):=by
     have p1:=c0 (hourI u)
     have p2:=c0 (minI' u)
     have p3:=c0 (u.tmod 60000000)
     by_cases q1:hourI u=0
     ·by_cases q2:minI' u=0
      ·by_cases q3:u.tmod 60000000=0
       ·exfalso; apply h0; rw [q1,q2,q3] at hs; omega
       ·have:=p3.2 q3; omega
      ·have:=p2.2 q2; omega
     ·have:=p1.2 q1; omega
    rw [if_pos hpos]
   ·rcases List.mem_append.1 hx with hx | hx
    ·exact .inl (cd x hx)
    rcases List.mem_cons.1 hx with hx | hx
    ·exact .inr hx
    ·exact .inl (ct x hx)
theorem z1cc {c:UInt8} (h:isoC c=true∨c=116):45≤c.toNat∧c.toNat<128:=by
 rcases h with h | rfl
 ·unfold isoC isn at h
  simp only [Bool.or_eq_true,beq_iff_eq] at h
  rcases h with (((((((h | h) | h) | h) | h) | h) | h) | h)
  ·subst h; decide
  ·subst h; decide
  ·have:=(zbl c).1 h; omega
  all_goals (subst h; decide)
 ·decide
theorem span_isoB {m d u:Int} (hm:-2147483647≤m∧m≤2147483647) (hd:InS d) (hu:InS u) (hlen:(isoB m d u).length≤2048):z8y (isoB m d u)=some (sumV (m,d,u,false)):=by
 obtain ⟨hF,hC⟩:=isoF_back hm hd hu
 have hlow:=iso_low hm hd hu
 have hne:isoB m d u≠[]:=by intro e; rw [e] at hlow; cases hlow
 have hch:∀ c∈isoB m d u,33≤c.toNat:=by
  intro c hc
  have h1:lowB c∈lowS (isoB m d u):=by unfold lowS; exact List.mem_map_of_mem hc
  rw [hlow] at h1
  have h2:45≤(lowB c).toNat:=by
   rcases List.mem_cons.1 h1 with h | h
   ·rw [h]; decide
   ·exact (z1cc (hC _ h)).1
  rcases Nat.lt_or_ge c.toNat 33 with h | h
  ·exfalso
   have:lowB c=c:=by unfold lowB; rw [if_neg (by omega)]
   rw [this] at h2; omega
  ·exact h
 have hw:z29 (isoB m d u)=[isoB m d u]:=zpq hne (fun c hc=>bl_no (hch c hc))
 rw [span_iso (isoB m d u) hlen (.inl (by
  rw [hw,spc1,hlow]
  have e1:eqS (112::isoR m d u) infB=false:=by unfold eqS infB; exact decide_eq_false (by simp)
  have e2:eqS (112::isoR m d u) ninfB=false:=by unfold eqS ninfB; exact decide_eq_false (by simp)
  have e3:eqS (112::isoR m d u) epB=false:=by unfold eqS epB; exact decide_eq_false (by simp)
  rw [e1,e2,e3]; rfl)) hw hlow (fun c hc=>(z1cc (hC c hc)).2),hF]
end Dv
