/- The seat's proofs. -/
import Derived.Test.YtdniadhpgohccaaGreatDoorWP1
set_option linter.unusedVariables false
set_option linter.unusedSimpArgs false
set_option maxRecDepth 20000
namespace Dv
open Go
def sgW:List UInt8→Bool
 | []=>false
 | c::_=>c == 43||c == 45
theorem chr_ne {c d:UInt8} (h:c≠d):¬ ((c.toNat:Nat):Int)=((d.toNat:Nat):Int):=by
 intro e
 apply h
 have e:c.toNat=d.toNat:=by omega
 rw [← UInt8.ofNat_toNat (x:=c),e,UInt8.ofNat_toNat]
theorem z111 (L:List PV) (ws:List (List UInt8)) (hne:∀ w∈ws,w≠[]) (hl:ws.length≤1000000):∀ (j i:Nat),i+j=ws.length →
  zdn L (ws.map PV.str) ((ws.length:Nat):Int) (i:Int)=some (.bool (bif (ws.drop i).all sgW then eqB ((L.length:Nat):Int) 3 else false))
 | 0,i,h=>by
  rw [zjv,c_ltF (by omega),List.drop_eq_nil_of_le (by omega)]; rfl
 | j+1,i,h=>by
  have hi:i<ws.length:=by omega
  have hd:ws.drop i=ws[i]::ws.drop (i+1):=List.drop_eq_getElem_cons hi
  obtain ⟨c,r,hc⟩:∃ c r,ws[i]=c::r:=by
   cases hw:ws[i] with
   | nil=>exact absurd hw (hne _ (List.getElem_mem hi))
   | cons c r=>exact ⟨c,r,rfl⟩
  have t:rdI tiStr (ws.map PV.str) (i:Int)=some (.str (c::r)):=by
   unfold rdI rdT
   rw [decide_eq_true (by omega),cond_true,Int.toNat_natCast,List.getElem?_map,List.getElem?_eq_getElem hi,hc]
   rfl
  have e1:IntKind.i64.wrap ((i:Int)+1)=((i+1:Nat):Int):=by rw [w64 (by omega) (by omega)]; omega
  have ih:=z111 L ws hne hl j (i+1) (by omega)
  rw [zjv,c_ltT (by omega),t]
  simp only [oB,zq]
  rw [atS_z (c:=c) rfl]
  simp only [oB]
  rw [e1,ih,hd,hc,List.all_cons]
  have es:sgW (c::r)=(c == 43||c == 45):=rfl
  rw [es]
  by_cases h1:c=43
  ·subst h1; rw [c_not,c_eqT (by decide)]; rfl
  ·have n1:¬ ((c.toNat:Nat):Int)=43:=chr_ne (d:=43) h1
   rw [c_not,c_eqF n1]
   by_cases h2:c=45
   ·subst h2; rw [c_not,c_eqT (by decide)]; rfl
   ·have n2:¬ ((c.toNat:Nat):Int)=45:=chr_ne (d:=45) h2
    rw [c_not,c_eqF n2]
    have:(c == 43||c == 45)=false:=by simp [h1,h2]
    rw [this]; rfl
theorem signs_s (ws:List (List UInt8)) (hne:∀ w∈ws,w≠[]) (hl:ws.length≤1000000):zez (ws.map PV.str)=some (.bool (bif ws.all sgW then eqB ((ws.length:Nat):Int) 3 else false)):=by
 have:=z111 (ws.map PV.str) ws hne hl ws.length 0 (by omega)
 rw [List.drop_zero,List.length_map] at this
 rw [z13l,List.length_map]
 exact this
theorem dig_app {c:UInt8} {s:List UInt8} (hc:33≤c.toNat) (h:s.all digB=true):∀ x∈c::s,blB x=false:=by
 intro x hx
 rcases List.mem_cons.1 hx with rfl | hx
 ·exact bl_no hc
 ·exact zha h x hx
theorem cs_rng {c:UInt8} (h:c=43∨c=45):33≤c.toNat:=by rcases h with rfl | rfl <;> decide
theorem frac_bl (u:Nat):∀ c∈fracN u,blB c=false:=by
 intro c hc
 unfold fracN at hc
 split at hc
 ·cases hc
 ·rcases List.mem_cons.1 hc with rfl | hc
  ·decide
  ·exact zha (zdi _ (z3x 20 _ 6)) c hc
theorem clock_bl (n:Nat):∀ c∈zoh n,blB c=false:=by
 intro c hc
 unfold zoh at hc
 rcases List.mem_append.1 hc with hc | hc
 ·exact zha (z3x 20 _ 1) c hc
 rcases List.mem_cons.1 hc with rfl | hc
 ·decide
 rcases List.mem_append.1 hc with hc | hc
 ·exact zha (z9w _) c hc
 rcases List.mem_cons.1 hc with rfl | hc
 ·decide
 rcases List.mem_append.1 hc with hc | hc
 ·exact zha (z9w _) c hc
 ·exact frac_bl _ c hc
theorem spanV_ok {m d u:Int} (h:spanR 0 m d u=true):sumV (m,d,u,false)=.tuple [.agg [.int .i64 0,.int .i64 m,.int .i64 d,.int .i64 u],.int .i64 0]:=by
 unfold sumV
 rw [if_neg (by simp),if_pos h]
theorem len3 (a b c:List UInt8) (h1:a.length≤50) (h2:b.length≤50) (h3:c.length≤100):(a++32::(b++32::c)).length≤2048:=by simp; omega
theorem z1dh {m d u:Int} (hm:-2147483647≤m∧m≤2147483647) (hd:-2147483647≤d∧d≤2147483647) (hu:InS u):z8y (zpr m d u)=some (sumV (m,d,u,false)):=by
 obtain ⟨c1,e1,s1,_⟩:=zqd m
 obtain ⟨c2,e2,s2,_⟩:=zqd d
 obtain ⟨c3,e3,s3,_⟩:=zqd u
 have bA:∀ x∈sqlA m,blB x=false:=by
  intro x hx
  unfold sqlA at hx
  rw [e1] at hx
  rcases List.mem_append.1 hx with hx | hx
  ·rw [List.mem_singleton] at hx; subst hx; exact bl_no (cs_rng s1)
  rcases List.mem_append.1 hx with hx | hx
  ·exact zha (z3x 20 _ 1) x hx
  rcases List.mem_cons.1 hx with rfl | hx
  ·decide
  ·exact zha (z3x 20 _ 1) x hx
 have bB:∀ x∈sqlB d,blB x=false:=by
  intro x hx
  unfold sqlB at hx
  rw [e2] at hx
  exact dig_app (cs_rng s2) (z3x 20 _ 1) x hx
 have bC:∀ x∈sqlC u,blB x=false:=by
  intro x hx
  unfold sqlC at hx
  rw [e3] at hx
  rcases List.mem_cons.1 hx with rfl | hx
  ·exact bl_no (cs_rng s3)
  ·exact clock_bl _ x hx
 have nA:sqlA m≠[]:=by unfold sqlA; rw [e1]; simp
 have nB:sqlB d≠[]:=by unfold sqlB; rw [e2]; simp
 have nC:sqlC u≠[]:=by unfold sqlC; rw [e3]; simp
 have eW:zpr m d u=sqlA m++32::(sqlB d++32::sqlC u):=by unfold zpr sqlA sqlB sqlC; simp
 have hw:z29 (zpr m d u)=[sqlA m,sqlB d,sqlC u]:=by rw [eW,zwi nA bA,zwi nB bB,zpq nC bC]
 have lA:(sqlA m).length≤50:=by
  have:=z9e ((absI m).toNat / 12)
  have:=z9e ((absI m).toNat % 12)
  unfold sqlA; rw [e1]; simp; omega
 have lB:(sqlB d).length≤50:=by
  have:=z9e (absI d).toNat
  unfold sqlB; rw [e2]; simp; omega
 have lC:(sqlC u).length≤100:=by
  have g4:=z9e ((absI u).toNat / 3600000000)
  have g5:=zfm ((absI u).toNat / 60000000 % 60)
  have g6:=zfm ((absI u).toNat / 1000000 % 60)
  have g7:=zix ((absI u).toNat % 1000000)
  unfold sqlC zoh; rw [e3]; simp; omega
 have hsg:zez ([sqlA m,sqlB d,sqlC u].map PV.str)=some (.bool true):=by
  rw [signs_s _ (by intro w h; simp only [List.mem_cons,List.not_mem_nil,or_false] at h; rcases h with rfl | rfl | rfl <;> assumption) (by simp)]
  have hs:∀ {c:UInt8} (r:List UInt8),(c=43∨c=45)→sgW (c::r)=true:=by
   intro c r h; unfold sgW; rcases h with rfl | rfl <;> rfl
  have a1:sgW (sqlA m)=true:=by unfold sqlA; rw [e1]; exact hs _ s1
  have a2:sgW (sqlB d)=true:=by unfold sqlB; rw [e2]; exact hs _ s2
  have a3:sgW (sqlC u)=true:=by unfold sqlC; rw [e3]; exact hs _ s3
  simp only [List.all_cons,a1,a2,a3,List.all_nil,Bool.and_self,cond_true]
  rfl
 have h0:spcI (z29 (zpr m d u))=0:=by rw [hw]; rfl
 rw [z19s (zpr m d u) (by rw [eW]; exact len3 _ _ _ lA lB lC) (by rw [hw]; simp) (by rw [h0]; decide) (.inl h0),hw,zh6]
 have t0:rdI tiStr ([sqlA m,sqlB d,sqlC u].map PV.str) 0=some (.str (sqlA m)):=rfl
 rw [t0]
 simp only [oB,zq]
 rw [zwp _ (by show _≤70368744177664; omega)]
 simp only [oB,zq]
 rw [zh5,c_eqF (by simp),zjw,hsg]
 simp only [oB,z16,cond_true]
 rw [sql_r _ _ _ nA (by omega) (by omega) (by omega),sqlF_back hm hd hu]
theorem span_inf {i:Int} (h:i=1∨i=-1):z8y (if i<0 then ninfB else infB)=some (.tuple [.agg [.int .i64 i,.int .i64 0,.int .i64 0,.int .i64 0],.int .i64 0]):=by
 have key:∀ s:List UInt8,s.length≤100→z29 s=[s]→spcI [s]=i→z8y s=some (.tuple [.agg [.int .i64 i,.int .i64 0,.int .i64 0,.int .i64 0],.int .i64 0]):=by
  intro s hs hw hk
  have hws:=z12d (s:=s) (by show s.length≤10000000000; omega)
  rw [zts,zl6,z1b1 s (by show s.length≤10000000000; omega)]
  simp only [oB,PV.toL]
  rw [zl5,z10l _ hws,hw,hk]
  simp only [oB]
  rw [zl4,c_ltF (by omega),c_eqF (by simp),zl3]
  unfold spcV
  rcases h with rfl | rfl <;> simp only [tn0,tn1,ag0,ag1,z16,zv] <;> rw [zxn] <;> rfl
 rcases h with rfl | rfl
 ·rw [if_neg (by omega)]; exact key infB (by decide) (by decide) (by decide)
 ·rw [if_pos (by omega)]; exact key ninfB (by decide) (by decide) (by decide)
end Dv

set_option maxRecDepth 20000
namespace Dv
open Go
theorem zwj:∀ (s cur t:List UInt8),z47 cur (s++32::t)=z47 cur s++z47 [] t
 | [],cur,t=>by
  rw [List.nil_append,za3 (by decide),z47]
  split <;> simp
 | c::s,cur,t=>by
  rw [List.cons_append]
  cases h:blB c with
  | true=>rw [za3 h,za3 h,zwj s [] t]; split <;> simp
  | false=>rw [zkb h,zkb h,zwj s _ t]
theorem zru (t s:List UInt8):z29 (addW t s)=z29 t++z29 s:=by
 unfold addW
 split
 ·rename_i h; rw [h]; simp [z29,z47]
 ·split
  ·rename_i h; rw [h]; simp [z29,z47]
  ·exact zwj t [] s
def tmC (c:UInt8):Prop:=c=43∨c=45∨c=46∨c=58∨digB c=true
theorem z12s {c:UInt8} (h:tmC c):43≤c.toNat∧c.toNat<65:=by
 rcases h with rfl | rfl | rfl | rfl | h
 ·decide
 ·decide
 ·decide
 ·decide
 ·have:=(zbl c).1 h; omega
theorem z12t {s:List UInt8} (h:∀ c∈s,tmC c):lowS s=s:=by
 unfold lowS
 conv=>rhs; rw [← List.map_id s]
 exact List.map_congr_left fun c hc=>by
  have:=z12s (h c hc)
  show lowB c=c
  unfold lowB; rw [if_neg (by omega)]
theorem tmC_bl {s:List UInt8} (h:∀ c∈s,tmC c):∀ c∈s,blB c=false:=fun c hc=>bl_no (by have:=z12s (h c hc); omega)
theorem tmC_ago {s:List UInt8} (hne:s≠[]) (h:∀ c∈s,tmC c):sameB s [97,103,111]=false:=by
 obtain ⟨c,r,rfl⟩:∃ c r,s=c::r:=by cases s with | nil=>exact absurd rfl hne | cons c r=>exact ⟨c,r,rfl⟩
 have hc:=z12s (h c (by simp))
 have e:¬ lowS (c::r)=lowS [97,103,111]:=by
  rw [z12t h]
  intro e
  have e:c=lowB 97:=(List.cons.inj e).1
  rw [e] at hc
  exact absurd hc (by decide)
 unfold sameB eqS
 rw [decide_eq_false e]
 try simp
theorem z122 {s:List UInt8} (h:s.all digB=true):∀ c∈s,tmC c:=fun c hc=>.inr (.inr (.inr (.inr (List.all_eq_true.1 h c hc))))
def numW (n was:Int):List UInt8:=(if was<0∧0<n then [43] else [])++decI n
def nameW (n:Int) (name:List UInt8):List UInt8:=name++(if n=1 then [] else [115])
def unitW (n:Int) (name:List UInt8) (was:Int):List (List UInt8):=if n=0 then [] else [numW n was,nameW n name]
def timeW (u was:Int):List (List UInt8):=if timeB u was=[] then [] else [timeB u was]
theorem decI_tm {n:Int} (h:InS n):∀ c∈decI n,tmC c:=by
 intro c hc
 unfold decI at hc
 split at hc
 ·rcases List.mem_cons.1 hc with rfl | hc
  ·exact .inr (.inl rfl)
  ·exact z122 (z3x 20 _ 1) c hc
 ·exact z122 (z3x 20 _ 1) c hc
theorem z1bp {n:Int} (h:InS n) (was:Int):sgn (numW n was) true=some (n,false)∧(∀ c∈numW n was,tmC c)∧numW n was≠[]∧(numW n was).length≤22∧58∉numW n was:=by
 obtain ⟨h1,h2,h3,h4,h5,h6,h7⟩:=ziz h
 have htm:=decI_tm h
 have h58:(58:UInt8)∉decI n:=by
  intro hc
  unfold decI at hc
  split at hc
  ·rcases List.mem_cons.1 hc with hc | hc
   ·exact absurd hc (by decide)
   ·exact zc0 (z3x 20 _ 1) (by decide) hc
  ·exact zc0 (z3x 20 _ 1) (by decide) hc
 unfold numW
 by_cases hp:was<0∧0<n
 ·rw [if_pos hp]
  refine ⟨?_,?_,by simp,by simp; omega,?_⟩
  ·have e:decI n=digN n.toNat:=by unfold decI; rw [if_neg (by omega)]
   rw [e]
   obtain ⟨d1,d2,d3,d4⟩:=zgq (n:=n.toNat) (by omega)
   have:=(zjd d1 d4).1
   show sgn (43::digN n.toNat) true=_
   rw [this]
   congr 2; omega
  ·intro c hc
   rcases List.mem_append.1 hc with hc | hc
   ·rw [List.mem_singleton] at hc; exact .inl hc
   ·exact htm c hc
  ·intro hc
   rcases List.mem_append.1 hc with hc | hc
   ·rw [List.mem_singleton] at hc; exact absurd hc (by decide)
   ·exact h58 hc
 ·rw [if_neg hp,List.nil_append]
  exact ⟨h1 true,htm,h4,by omega,h58⟩
def namN (name:List UInt8):Prop:=name=yearN∨name=monN∨name=dayN
theorem z1ac (n:Int) {name:List UInt8} (h:namN name):(∀ c∈nameW n name,blB c=false)∧nameW n name≠[]∧sgW (nameW n name)=false∧sameB (nameW n name) [97,103,111]=false∧(nameW n name).length≤100:=by
 unfold nameW
 by_cases h1:n=1
 ·rw [if_pos h1]; rcases h with rfl | rfl | rfl <;> decide
 ·rw [if_neg h1]; rcases h with rfl | rfl | rfl <;> decide
theorem zrt {n:Int} (hn:InS n) {name:List UInt8} (h:namN name) (was:Int):z29 (unitB n name was)=unitW n name was:=by
 unfold unitB unitW
 by_cases h0:n=0
 ·rw [if_pos h0,if_pos h0]; rfl
 ·rw [if_neg h0,if_neg h0]
  obtain ⟨_,a2,a3,_⟩:=z1bp hn was
  obtain ⟨b1,b2,_⟩:=z1ac n h
  have e:(if was<0∧0<n then [43] else [])++(decI n++(32::(name++(if n=1 then [] else [115]))))=numW n was++32::nameW n name:=by unfold numW nameW; simp
  rw [e,zwi a3 (tmC_bl a2),zpq b2 b1]
theorem text_tm (n:Nat):∀ c∈textN n,tmC c:=by
 intro c hc
 have fr:∀ k,∀ c∈fracN k,tmC c:=by
  intro k c hc
  unfold fracN at hc
  split at hc
  ·cases hc
  ·rcases List.mem_cons.1 hc with rfl | hc
   ·exact .inr (.inr (.inl rfl))
   ·exact z122 (zdi _ (z3x 20 _ 6)) c hc
 unfold textN at hc
 rcases List.mem_append.1 hc with hc | hc
 ·exact z122 (z9w _) c hc
 rcases List.mem_cons.1 hc with rfl | hc
 ·exact .inr (.inr (.inr (.inl rfl)))
 rcases List.mem_append.1 hc with hc | hc
 ·exact z122 (z9w _) c hc
 rcases List.mem_cons.1 hc with rfl | hc
 ·exact .inr (.inr (.inr (.inl rfl)))
 rcases List.mem_append.1 hc with hc | hc
 ·exact z122 (z9w _) c hc
 ·exact fr _ c hc
theorem z1db {p:List UInt8} (hp:58∉p) (n:Nat):z3z 58 (p++textN n)=[p++twoN (n / 3600000000),twoN (n / 60000000 % 60),twoN (n / 1000000 % 60)++fracN (n % 1000000)]:=by
 have h1:(58:UInt8)∉p++twoN (n / 3600000000):=by
  intro h
  rcases List.mem_append.1 h with h | h
  ·exact hp h
  ·exact zc0 (z9w _) (by decide) h
 have h2:(58:UInt8)∉twoN (n / 60000000 % 60):=zc0 (z9w _) (by decide)
 have h3:(58:UInt8)∉twoN (n / 1000000 % 60)++fracN (n % 1000000):=by
  intro h
  rcases List.mem_append.1 h with h | h
  ·exact zc0 (z9w _) (by decide) h
  ·unfold fracN at h
   split at h
   ·cases h
   ·rcases List.mem_cons.1 h with h | h
    ·exact absurd h (by decide)
    ·exact zc0 (zdi _ (z3x 20 _ 6)) (by decide) h
 unfold textN
 rw [← List.append_assoc,zin h1,zin h2,zq9 h3]
theorem twoN_val {n:Nat} (h:(n:Int)≤9223372036854775807):(twoN n).all digB=true∧twoN n≠[]∧numV (twoN n)=.tuple [.int .i64 (n:Int),.int .i64 0]:=by
 have ha:(twoN n).all digB=true:=z9w n
 have hne:twoN n≠[]:=by
  intro e
  have:=congrArg List.length e
  unfold twoN at this
  rw [digC,if_neg (by omega),List.length_append] at this
  simp at this
 have hv:valD 0 (twoN n)=(n:Int):=zra 20 n 2 (by omega)
 refine ⟨ha,hne,?_⟩
 unfold numV eqS
 rw [decide_eq_false hne,cond_false,z13s _ 0 (Int.le_refl _) ha (by rw [hv]; exact h),hv]
def sgnP (u:Int) (p:List UInt8):Prop:=(p=[]∧0≤u)∨(p=[43]∧0≤u)∨(p=[45]∧u<0)
theorem time_text {u:Int} (hu:InS u) {p:List UInt8} (hp:sgnP u p):timeF (p++textN (absI u).toNat) 0 false=some (some (u,false)):=by
 have h58:(58:UInt8)∉p:=by rcases hp with ⟨rfl,_⟩ | ⟨rfl,_⟩ | ⟨rfl,_⟩ <;> decide
 have hA:(((absI u).toNat:Nat):Int)=if u<0 then -u else u:=by unfold absI; split <;> omega
 have hb:(((absI u).toNat / 3600000000:Nat):Int)≤9223372036854775807:=by split at hA <;> omega
 obtain ⟨d1,d2,d3⟩:=twoN_val hb
 obtain ⟨s1,s2,s3⟩:=zjd d1 d3
 have hs:sgn (p++twoN ((absI u).toNat / 3600000000)) true=some (if u<0 then -(((absI u).toNat / 3600000000:Nat):Int) else (((absI u).toNat / 3600000000:Nat):Int),false):=by
  rcases hp with ⟨rfl,h⟩ | ⟨rfl,h⟩ | ⟨rfl,h⟩
  ·rw [if_neg (by omega)]; exact s3 true
  ·rw [if_neg (by omega)]; exact s1
  ·rw [if_pos h]; exact s2 true
 have hpr:preB 45 (p++textN (absI u).toNat)=decide (u<0):=by
  rcases hp with ⟨rfl,h⟩ | ⟨rfl,h⟩ | ⟨rfl,h⟩
  ·rw [decide_eq_false (by omega)]
   have h1:=z9w ((absI u).toNat / 3600000000)
   unfold textN
   rw [List.nil_append]
   cases hc:twoN ((absI u).toNat / 3600000000) with
   | nil=>exact absurd hc d2
   | cons c r =>
    rw [hc,List.all_cons,Bool.and_eq_true] at h1
    show (c == 45)=false
    have:c≠45:=by intro e; subst e; exact absurd h1.1 (by decide)
    simpa using this
  ·rw [decide_eq_false (by omega)]; rfl
  ·rw [decide_eq_true h]; rfl
 unfold timeF
 rw [z1db h58]
 simp only
 rw [hs]
 simp only
 rw [us_back (by omega) (by omega) (by omega)]
 simp only [Bool.or_false]
 rw [hpr]
 generalize (absI u).toNat=N at hA hb
 by_cases hn:u<0
 ·rw [if_pos hn] at hA
  have hi:moreF 0 (-((N / 3600000000:Nat):Int)) 3600000000 false=(-((N / 3600000000:Nat):Int)*3600000000,false):=by
   rw [z5k ⟨by omega,by omega⟩ ⟨by omega,by omega⟩]; congr 1; omega
  rw [if_pos hn,decide_eq_true hn,if_pos rfl,hi]
  simp only
  rw [z5k ⟨by omega,by omega⟩ ⟨by omega,by omega⟩]
  congr 3
  omega
 ·rw [if_neg hn] at hA
  have hi:moreF 0 ((N / 3600000000:Nat):Int) 3600000000 false=(((N / 3600000000:Nat):Int)*3600000000,false):=by
   rw [z5k ⟨by omega,by omega⟩ ⟨by omega,by omega⟩]; congr 1; omega
  rw [if_neg hn,decide_eq_false hn,if_neg (by simp),hi]
  simp only
  rw [z5k ⟨by omega,by omega⟩ ⟨by omega,by omega⟩]
  congr 3
  omega
theorem z1da {u was:Int} (hu:InS u) (h:timeB u was≠[]):∃ p,sgnP u p∧timeB u was=p++textN (absI u).toNat:=by
 have hl:∃ p,sgnP u p∧longI u=p++textN (absI u).toNat:=by
  unfold longI absI
  by_cases hn:u<0
  ·rw [if_pos hn,if_pos hn]; exact ⟨[45],.inr (.inr ⟨rfl,hn⟩),rfl⟩
  ·rw [if_neg hn,if_neg hn]; exact ⟨[],.inl ⟨rfl,by omega⟩,rfl⟩
 unfold timeB at h ⊢
 split at h
 ·rename_i h0
  rw [if_pos h0]
  refine ⟨[43],.inr (.inl ⟨rfl,by omega⟩),?_⟩
  unfold longI absI
  rw [if_neg (by omega),if_neg (by omega)]; rfl
 ·rename_i h0
  split at h
  ·rename_i h1
   rw [if_neg h0,if_pos h1]; exact hl
  ·exact absurd rfl h
theorem z12z {u was:Int} (hu:InS u) (h:timeB u was≠[]):timeF (timeB u was) 0 false=some (some (u,false))∧(∀ c∈timeB u was,tmC c)∧58∈timeB u was:=by
 obtain ⟨p,hp,e⟩:=z1da hu h
 rw [e]
 refine ⟨time_text hu hp,?_,?_⟩
 ·intro c hc
  rcases List.mem_append.1 hc with hc | hc
  ·rcases hp with ⟨rfl,_⟩ | ⟨rfl,_⟩ | ⟨rfl,_⟩
   ·cases hc
   ·rw [List.mem_singleton] at hc; exact .inl hc
   ·rw [List.mem_singleton] at hc; exact .inr (.inl hc)
  ·exact text_tm _ c hc
 ·unfold textN; simp
theorem z1d1 {u was:Int} (hu:InS u):z29 (timeB u was)=timeW u was:=by
 unfold timeW
 by_cases h:timeB u was=[]
 ·rw [if_pos h,h]; rfl
 ·rw [if_neg h,zpq h (tmC_bl (z12z hu h).2.1)]
end Dv

set_option maxRecDepth 20000
namespace Dv
open Go
theorem met_other {met:List Bool} {k j:Nat} (h:j≠k):metB (met.set k true) j=metB met j:=by
 unfold metB
 rw [z13t,z13t,List.getElem?_set_ne (Ne.symm h)]
theorem z1a5 {n:Int} (hn:InS n) (was:Int) {name:List UInt8} (hname:namN name) (ws:List (List UInt8)) (met:List Bool) {M D U k:Int} (ht:unitT (lowS (nameW n name))=(M,D,U,k)) (hk:0<k)
  (hm:metB met k.toNat=false) (m d u:Int) (h1:In64 (n*M)∧In64 (m+n*M)) (h2:In64 (n*D)∧In64 (d+n*D)) (h3:In64 (n*U)∧In64 (u+n*U)) (f:Nat) (hf:(unitW n name was++ws).length<f) :
  ∃ f' met',ws.length<f'∧(∀ j,j≠k.toNat→metB met' j=metB met j)∧zlb f (unitW n name was++ws) met (m,d,u,false)=zlb f' ws met' (m+n*M,d+n*D,u+n*U,false):=by
 unfold unitW at hf ⊢
 by_cases h0:n=0
 ·rw [if_pos h0] at hf ⊢
  refine ⟨f,met,hf,fun _ _=>rfl,?_⟩
  rw [h0,Int.zero_mul,Int.zero_mul,Int.zero_mul,Int.add_zero,Int.add_zero,Int.add_zero]
  rfl
 ·rw [if_neg h0] at hf ⊢
  obtain ⟨a1,a2,a3,a4,a5⟩:=z1bp hn was
  simp only [List.cons_append,List.nil_append,List.length_cons] at hf ⊢
  obtain ⟨f0,rfl⟩:∃ f0,f=f0+1:=⟨f-1,by omega⟩
  refine ⟨f0,met.set k.toNat true,by omega,fun j hj=>met_other hj,?_⟩
  have htm:timeF (numW n was) u false=some none:=by
   unfold timeF
   rw [zq9 a5]
  rw [zlb,htm]
  simp only
  rw [a1]
  simp only [ht,Bool.or_false]
  rw [if_pos ⟨hk,hm⟩,z5k h1.1 h1.2]
  simp only
  rw [z5k h2.1 h2.2]
  simp only
  rw [z5k h3.1 h3.2]
theorem name_y (n:Int):unitT (lowS (nameW n yearN))=(12,0,0,1):=by
 unfold nameW; by_cases h:n=1
 ·rw [if_pos h]; decide
 ·rw [if_neg h]; decide
theorem name_m (n:Int):unitT (lowS (nameW n monN))=(1,0,0,2):=by
 unfold nameW; by_cases h:n=1
 ·rw [if_pos h]; decide
 ·rw [if_neg h]; decide
theorem name_d (n:Int):unitT (lowS (nameW n dayN))=(0,1,0,4):=by
 unfold nameW; by_cases h:n=1
 ·rw [if_pos h]; decide
 ·rw [if_neg h]; decide
theorem pg_time {u was:Int} (hu:InS u) (f:Nat) (met:List Bool) (h5:metB met 5=false) (h6:metB met 6=false) (h7:metB met 7=false) (hf:(timeW u was).length<f) (m d:Int):zlb f (timeW u was) met (m,d,0,false)=some (m,d,u,false):=by
 unfold timeW at hf ⊢
 obtain ⟨f0,rfl⟩:∃ f0,f=f0+1:=⟨f-1,by omega⟩
 by_cases h:timeB u was=[]
 ·rw [if_pos h,(z16b.1 h).1]; rfl
 ·rw [if_neg h] at hf ⊢
  obtain ⟨f1,rfl⟩:∃ f1,f0=f1+1:=⟨f0-1,by simp at hf; omega⟩
  rw [zlb,(z12z hu h).1]
  simp only
  rw [if_pos ⟨h5,h6,h7⟩]
  rfl
def pgW (m d u:Int):List (List UInt8) :=
 unitW (m.tdiv 12) yearN 0++(unitW (m.tmod 12) monN (m.tdiv 12)++(unitW d dayN (nextW (m.tmod 12) (m.tdiv 12))++timeW u (nextW d (nextW (m.tmod 12) (m.tdiv 12)))))
section
variable {m d u:Int} (hm:-2147483647≤m∧m≤2147483647) (hd:-2147483647≤d∧d≤2147483647) (hu:InS u)
include hm hd hu
theorem words_pg:z29 (pgB m d u)=pgW m d u:=by
 obtain ⟨_,y1,y2⟩:=ym_m hm
 unfold pgB pgW
 rw [zru,zru,zru,zrt (n:=m.tdiv 12) ⟨by omega,by omega⟩ (.inl rfl),zrt (n:=m.tmod 12) ⟨by omega,by omega⟩ (.inr (.inl rfl)),zrt (n:=d) ⟨by omega,by omega⟩ (.inr (.inr rfl)),z1d1 hu,List.append_assoc,List.append_assoc]
theorem pg_named (f:Nat) (hf:(pgW m d u).length<f):zlb f (pgW m d u) noMet (0,0,0,false)=some (m,d,u,false):=by
 obtain ⟨ym,y1,y2⟩:=ym_m hm
 unfold pgW at hf ⊢
 generalize m.tdiv 12=Y at ym y1 hf ⊢
 generalize m.tmod 12=R at ym y2 hf ⊢
 generalize nextW R Y=w2 at hf ⊢
 generalize nextW d w2=w3 at hf ⊢
 obtain ⟨f1,met1,hf1,hm1,e1⟩:=z1a5 (n:=Y) ⟨by omega,by omega⟩ 0 (.inl rfl) _ noMet (name_y Y) (by omega) rfl 0 0 0 ⟨⟨by omega,by omega⟩,⟨by omega,by omega⟩⟩ ⟨⟨by omega,by omega⟩,⟨by omega,by omega⟩⟩ ⟨⟨by omega,by omega⟩,⟨by omega,by omega⟩⟩ f hf
 obtain ⟨f2,met2,hf2,hm2,e2⟩:=z1a5 (n:=R) ⟨by omega,by omega⟩ Y (.inr (.inl rfl)) _ met1 (name_m R) (by omega) (by rw [hm1 _ (by decide)]; rfl) (0+Y*12) (0+Y*0) (0+Y*0) ⟨⟨by omega,by omega⟩,⟨by omega,by omega⟩⟩ ⟨⟨by omega,by omega⟩,⟨by omega,by omega⟩⟩ ⟨⟨by omega,by omega⟩,⟨by omega,by omega⟩⟩ f1 hf1
 obtain ⟨f3,met3,hf3,hm3,e3⟩:=z1a5 (n:=d) ⟨by omega,by omega⟩ w2 (.inr (.inr rfl)) _ met2 (name_d d) (by omega) (by rw [hm2 _ (by decide),hm1 _ (by decide)]; rfl) (0+Y*12+R*1) (0+Y*0+R*0) (0+Y*0+R*0) ⟨⟨by omega,by omega⟩,⟨by omega,by omega⟩⟩ ⟨⟨by omega,by omega⟩,⟨by omega,by omega⟩⟩ ⟨⟨by omega,by omega⟩,⟨by omega,by omega⟩⟩ f2 hf2
 rw [e1,e2,e3,show 0+Y*12+R*1+d*0=m by omega,show 0+Y*0+R*0+d*1=d by omega,show 0+Y*0+R*0+d*0=0 by omega]
 exact pg_time hu f3 met3 (by rw [hm3 _ (by decide),hm2 _ (by decide),hm1 _ (by decide)]; rfl) (by rw [hm3 _ (by decide),hm2 _ (by decide),hm1 _ (by decide)]; rfl) (by rw [hm3 _ (by decide),hm2 _ (by decide),hm1 _ (by decide)]; rfl) hf3 m d
theorem z1bl:(∀ w∈pgW m d u,w≠[]∧sameB w [97,103,111]=false∧w.length≤100) ∧
  ((∃ n was name rest,pgW m d u=numW n was::nameW n name::rest∧namN name∧InS n)∨∃ was,pgW m d u=[timeB u was]∧timeB u was≠[]):=by
 obtain ⟨ym,y1,y2⟩:=ym_m hm
 have hd':InS d:=⟨by omega,by omega⟩
 have hz:timeW u (nextW d (nextW (m.tmod 12) (m.tdiv 12)))=[]→¬ (m.tdiv 12=0∧m.tmod 12=0∧d=0):=by
  intro h ⟨h1,h2,h3⟩
  unfold timeW at h
  split at h
  ·rename_i h'
   have:=(z16b.1 h').2
   apply this
   unfold nextW
   rw [if_pos h3,if_pos h2,h1]
  ·cases h
 unfold pgW
 generalize m.tdiv 12=Y at ym y1 hz ⊢
 generalize m.tmod 12=R at ym y2 hz ⊢
 have hY:InS Y:=⟨by omega,by omega⟩
 have hR:InS R:=⟨by omega,by omega⟩
 generalize nextW R Y=w2 at hz ⊢
 generalize nextW d w2=w3 at hz ⊢
 have um:∀ {n:Int} (hn:InS n) {name:List UInt8} (h:namN name) (was:Int),∀ w∈unitW n name was,w≠[]∧sameB w [97,103,111]=false∧w.length≤100:=by
  intro n hn name h was w hw
  unfold unitW at hw
  split at hw
  ·cases hw
  ·obtain ⟨_,a2,a3,a4,_⟩:=z1bp hn was
   obtain ⟨_,b2,_,b4,b5⟩:=z1ac n h
   simp only [List.mem_cons,List.not_mem_nil,or_false] at hw
   rcases hw with rfl | rfl
   ·exact ⟨a3,tmC_ago a3 a2,by omega⟩
   ·exact ⟨b2,b4,b5⟩
 constructor
 ·intro w hw
  rcases List.mem_append.1 hw with hw | hw
  ·exact um hY (.inl rfl) _ w hw
  rcases List.mem_append.1 hw with hw | hw
  ·exact um hR (.inr (.inl rfl)) _ w hw
  rcases List.mem_append.1 hw with hw | hw
  ·exact um hd' (.inr (.inr rfl)) _ w hw
  unfold timeW at hw
  split at hw
  ·cases hw
  ·rename_i h
   rw [List.mem_singleton] at hw
   subst hw
   have:=z16c u w3
   exact ⟨h,tmC_ago h (z12z hu h).2.1,by omega⟩
 ·by_cases h1:Y=0
  ·have e1:unitW Y yearN 0=[]:=if_pos h1
   rw [e1,List.nil_append]
   by_cases h2:R=0
   ·have e2:unitW R monN Y=[]:=if_pos h2
    rw [e2,List.nil_append]
    by_cases h3:d=0
    ·have e3:unitW d dayN w2=[]:=if_pos h3
     rw [e3,List.nil_append]
     right
     have h4:timeB u w3≠[]:=by
      intro h
      exact hz (by unfold timeW; rw [if_pos h]) ⟨h1,h2,h3⟩
     exact ⟨w3,by unfold timeW; rw [if_neg h4],h4⟩
    ·have e3:unitW d dayN w2=[numW d w2,nameW d dayN]:=if_neg h3
     rw [e3]
     exact .inl ⟨d,w2,dayN,_,rfl,.inr (.inr rfl),hd'⟩
   ·have e2:unitW R monN Y=[numW R Y,nameW R monN]:=if_neg h2
    rw [e2]
    exact .inl ⟨R,Y,monN,_,rfl,.inr (.inl rfl),hR⟩
  ·have e1:unitW Y yearN 0=[numW Y 0,nameW Y yearN]:=if_neg h1
   rw [e1]
   exact .inl ⟨Y,0,yearN,_,rfl,.inl rfl,hY⟩
omit hm hd hu in
theorem pg_len (m d u:Int):(pgB m d u).length≤300∧(pgW m d u).length≤10:=by
 have l1:=zij (m.tdiv 12) yearN 0 (by decide)
 have l2:=zij (m.tmod 12) monN (m.tdiv 12) (by decide)
 have l3:=zij d dayN (nextW (m.tmod 12) (m.tdiv 12)) (by decide)
 have l4:=z16c u (nextW d (nextW (m.tmod 12) (m.tdiv 12)))
 have a2:=z14x (unitB (m.tdiv 12) yearN 0) (unitB (m.tmod 12) monN (m.tdiv 12))
 have a3:=z14x (addW (unitB (m.tdiv 12) yearN 0) (unitB (m.tmod 12) monN (m.tdiv 12))) (unitB d dayN (nextW (m.tmod 12) (m.tdiv 12)))
 have a4:=z14x (addW (addW (unitB (m.tdiv 12) yearN 0) (unitB (m.tmod 12) monN (m.tdiv 12))) (unitB d dayN (nextW (m.tmod 12) (m.tdiv 12)))) (timeB u (nextW d (nextW (m.tmod 12) (m.tdiv 12))))
 have ul:∀ n name was,(unitW n name was).length≤2:=by intro n name was; unfold unitW; split <;> simp
 have tl:∀ was,(timeW u was).length≤1:=by intro was; unfold timeW; split <;> simp
 have u1:=ul (m.tdiv 12) yearN 0
 have u2:=ul (m.tmod 12) monN (m.tdiv 12)
 have u3:=ul d dayN (nextW (m.tmod 12) (m.tdiv 12))
 have u4:=tl (nextW d (nextW (m.tmod 12) (m.tdiv 12)))
 constructor
 ·unfold pgB; omega
 ·unfold pgW; simp only [List.length_append]; omega
theorem pg_val:zu5 (pgW m d u)=sumV (m,d,u,false):=by
 obtain ⟨hall,hc⟩:=z1bl hm hd hu
 have hne:pgW m d u≠[]:=by
  rcases hc with ⟨n,was,name,rest,e,_⟩ | ⟨was,e,_⟩ <;> rw [e] <;> simp
 have hag:agoB (pgW m d u)=false:=by
  unfold agoB
  have:sameB (pgW m d u).getLast! [97,103,111]=false:=(hall _ (by rw [List.getLast!_eq_getLast?_getD,List.getLast?_eq_some_getLast hne]; simp)).2.1
  rw [this,Bool.and_false]
 unfold zu5
 rw [hag]
 simp only [Bool.false_eq_true,if_false,cond_false]
 rw [if_neg hne,pg_named hm hd hu _ (Nat.lt_succ_self _)]
theorem span_pg:z8y (pgB m d u)=some (sumV (m,d,u,false)):=by
 obtain ⟨hall,hc⟩:=z1bl hm hd hu
 have hw:=words_pg hm hd hu
 obtain ⟨l1,l2⟩:=pg_len m d u
 have hval:=pg_val hm hd hu
 have hsg:=signs_s (pgW m d u) (fun w h=>(hall w h).1) (by omega)
 rcases hc with ⟨n,was,name,rest,e,hname,hn⟩ | ⟨was,e,h⟩
 ·obtain ⟨_,a2,a3,a4,_⟩:=z1bp hn was
  obtain ⟨_,b2,b3,_⟩:=z1ac n hname
  obtain ⟨c,r,hcr⟩:∃ c r,numW n was=c::r:=by cases h:numW n was with | nil=>exact absurd h a3 | cons c r=>exact ⟨c,r,rfl⟩
  have hs:zez ((z29 (pgB m d u)).map PV.str)=some (.bool false):=by
   rw [hw,hsg,e,List.all_cons,List.all_cons,b3,Bool.false_and,Bool.and_false]; rfl
  have h0:spcI (z29 (pgB m d u))=0:=notone (by rw [hw,e]; simp)
  rw [z110 (pgB m d u) (by omega) (.inl h0) (w:=numW n was) (ws:=nameW n name::rest) (c:=c) (r:=r) (by rw [hw,e]) (by rw [z12t a2,hcr]) (.inl (by simp)) hs,hw,hval]
 ·obtain ⟨_,t2,t3⟩:=z12z hu h
  obtain ⟨c,r,hcr⟩:∃ c r,timeB u was=c::r:=by cases h':timeB u was with | nil=>exact absurd h' h | cons c r=>exact ⟨c,r,rfl⟩
  have hct:=z12s (t2 c (by rw [hcr]; simp))
  have hs:zez ((z29 (pgB m d u)).map PV.str)=some (.bool false):=by
   rw [hw,hsg,e]
   have:eqB ((([timeB u was].length:Nat)):Int) 3=false:=rfl
   rw [this]
   cases [timeB u was].all sgW <;> rfl
  have h0:spcI (z29 (pgB m d u))=0:=by
   rw [hw,e,spc1,z12t t2]
   have no:∀ s:List UInt8,58∉s→eqS (timeB u was) s=false:=by
    intro s hs
    unfold eqS
    apply decide_eq_false
    intro e'
    rw [e'] at t3
    exact hs t3
   rw [no infB (by decide),no ninfB (by decide),no epB (by decide)]; rfl
  rw [z110 (pgB m d u) (by omega) (.inl h0) (w:=timeB u was) (ws:=[]) (c:=c) (r:=r) (by rw [hw,e]) (by rw [z12t t2,hcr]) (.inr (by intro e'; rw [e'] at hct; exact absurd hct (by decide))) hs,hw,hval]
end
theorem isoB_len (m d u:Int):(isoB m d u).length≤2048:=by
 have l1:=zbb (m.tdiv 12) 89
 have l2:=zbb (m.tmod 12) 77
 have l3:=zbb d 68
 have l4:=zbb (hourI u) 72
 have l5:=zbb (minI' u) 77
 have l6:=z1bh (u.tmod 60000000)
 have hT:(isoT m d u).length≤2048:=by unfold isoT isoH; split <;> simp <;> omega
 unfold isoB
 split
 ·simp
 ·exact hT
theorem z106 {i m d u:Int} (h1:-9223372036854775808≤u) (h2:u≤9223372036854775807) (a b c:Int):z9v i m d u a b c=some (.bool true):=by
 rw [zgb,z16i h1 h2]
 unfold spanV
 by_cases h:spanR i m d u=true∧z10s a b c=true
 ·have fin:∀ s:List UInt8,z8y s=some (.tuple [.agg [.int .i64 i,.int .i64 m,.int .i64 d,.int .i64 u],.int .i64 0]) →
    ((some (PV.tuple [.str s,.int .i64 0])).bind fun v1=>(bif (!(eqB (PV.toI (PV.tnth v1 1)) (0:Int))) then (bif (eqS (PV.toS (PV.tnth v1 0)) []) then ((z4z).bind fun v2=>(some (PV.bool (PV.toB v2)))) else (some (PV.bool Bool.false))) else ((z8y (PV.toS (PV.tnth v1 0))).bind fun v3=>(bif ((eqB (PV.toI (PV.nth (PV.tnth v3 0) 0)) i)&&((eqB (PV.toI (PV.nth (PV.tnth v3 0) 1)) m)&&((eqB (PV.toI (PV.nth (PV.tnth v3 0) 2)) d)&&((eqB (PV.toI (PV.nth (PV.tnth v3 0) 3)) u)&&Bool.true)))) then (bif (eqB (PV.toI (PV.tnth v3 1)) (0:Int)) then ((z4z).bind fun v4=>(some (PV.bool (PV.toB v4)))) else (some (PV.bool Bool.false))) else (some (PV.bool Bool.false))))))=some (.bool true):=by
   intro s hs
   simp only [oB,tn0,tn1,zq,zv]
   rw [c_not,c_eqT rfl,hs]
   simp only [oB,tn0,tn1,ag0,ag1,ag2,ag3,zv]
   have e:∀ x:Int,eqB x x=true:=fun x=>decide_eq_true rfl
   rw [e,e,e,e,e,z17e]
   rfl
  rw [if_pos h]
  by_cases hi:i=0
  ·subst hi
   obtain ⟨m1,m2,d1,d2,u1,u2⟩:=z16j h.1
   rw [if_neg (by simp)]
   refine fin _ ?_
   rw [← spanV_ok h.1]
   by_cases c1:c=1
   ·rw [if_pos c1]; exact z1dh ⟨m1,m2⟩ ⟨d1,d2⟩ ⟨u1,u2⟩
   ·rw [if_neg c1]
    by_cases c2:c=2
    ·rw [if_pos c2]; exact span_isoB ⟨m1,m2⟩ ⟨by omega,by omega⟩ ⟨u1,u2⟩ (isoB_len m d u)
    ·rw [if_neg c2]; exact span_pg ⟨m1,m2⟩ ⟨d1,d2⟩ ⟨u1,u2⟩
  ·rw [if_pos hi]
   have hr:=h.1
   unfold spanR at hr
   rw [if_neg hi] at hr
   obtain ⟨hii,rfl,rfl,rfl⟩:=of_decide_eq_true hr
   exact fin _ (span_inf hii.symm)
 ·rw [if_neg h,z17e]
  rfl
end Dv
