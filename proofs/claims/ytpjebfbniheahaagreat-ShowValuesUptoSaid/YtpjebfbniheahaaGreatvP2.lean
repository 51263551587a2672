/- The seat's proofs. -/
import Derived.Test.YtpjebfbniheahaaGreatvQ2
import Derived.Test.YtpjebfbniheahaaGreatvP1
import Derived.Test.YtpjebfbniheahaaGreatvL3
set_option linter.unusedVariables false
set_option linter.unusedSimpArgs false
set_option maxRecDepth 20000
namespace Dv
open Go
theorem rep_s (k:Nat) (hk:k≤5):z9g [48] (k:Int)=some (.str (List.replicate k 48)):=by
 match k,hk with
 | 0,_=>rw [z8m]; rfl
 | 1,_=>rw [z8m]; rfl
 | 2,_=>exact rep_2 2 (by omega) (by omega) rfl rfl
 | 3,_=>exact rep_2 3 (by omega) (by omega) rfl rfl
 | 4,_=>exact rep_2 4 (by omega) (by omega) rfl rfl
 | 5,_=>exact rep_2 5 (by omega) (by omega) rfl rfl
where
 rep_2 (k:Nat) (h2:2≤k) (h3:k≤5) (ht:takeS [(48:UInt8),48,48,48,48,48,48,48,48,48,48,48,48,48,48,48,48,48,48,48,48,48,48,48,48,48,48,48,48,48,48,48,48,48,48,48,48,48,48,48,48,48,48,48,48,48,48,48,48,48,48,48,48,48,48,48,48,48,48,48,48,48,48,48] (k:Int)=some (List.replicate k 48)) (_:(0:Int)=0) :
   z9g [48] (k:Int)=some (.str (List.replicate k 48)):=by
  have w1:IntKind.u64.wrap ((([48]:List UInt8).length:Nat):Int)=1:=rfl
  rw [z8m,c_eqF (by omega),c_eqF (by omega),c_ltF (by omega),zt1,z1h0,w1,wu64 (by omega) (by omega),mul64_s (by omega) (by omega)]
  simp only [oB,tn0,tn1,zl]
  rw [c_ltF (by omega),c_ltF (by omega),zoe,c_eqF (by decide)]
  have a0:atS ([48]:List UInt8) 0=some 48:=rfl
  rw [a0]
  simp only [oB]
  rw [c_eqF (by omega),c_eqF (by omega),c_eqT rfl,show (1:Int)*(k:Int) % 18446744073709551616=(k:Int) by omega,w64 (by omega) (by omega)]
  rw [zod,c_leT (by omega),z96,z1o]
  refine Eq.trans (b:=z7k [48] (k:Int)) rfl ?_
  rw [zoc,c_leT (by omega),z96,z1o]
  refine Eq.trans (b:=z7j [48] (k:Int)) rfl ?_
  rw [zob,c_leT (by omega),z96,z1o]
  refine Eq.trans (b:=zbi (k:Int)) rfl ?_
  rw [zoa,ht]
  rfl
theorem digN_pos (n:Nat):1≤(digN n).length:=by
 unfold digN
 rw [digC,if_neg (by omega),List.length_append]
 simp
theorem z198 (n:Nat):1≤(twoN n).length:=by
 unfold twoN
 rw [digC,if_neg (by omega),List.length_append]
 simp
theorem z1d1 (m d:Int) (bc:List UInt8) (a b c:Int):∀ (k:Nat) (s:List UInt8),4-s.length=k→s.length≤1000→z3s m d bc s a b c=z3s m d bc (padN s) a b c
 | 0,s,h,_=>by unfold padN; rw [h]; rfl
 | k+1,s,h,hs=>by
  rw [zaz,c_ltT (by omega),z9 (by simp; omega)]
  simp only [oB]
  rw [z1d1 m d bc a b c k ([48]++s) (by simp; omega) (by simp; omega)]
  congr 1
  unfold padN
  have e1:4-([48]++s:List UInt8).length=k:=by simp; omega
  rw [e1,h,List.replicate_succ',List.append_assoc]
theorem z1ki {x y z:List UInt8} (hx:1≤x.length) (hy:1≤y.length) (hz:1≤z.length) (sep:List UInt8):joinB sep (fullL [x,y,z])=x++(sep++(y++(sep++z))):=by
 have e:∀ s:List UInt8,1≤s.length→(!eqS s [])=true:=by
  intro s hs
  unfold eqS
  rw [decide_eq_false (by intro h; subst h; simp at hs)]; rfl
 unfold fullL
 simp only [List.filter,e x hx,e y hy,e z hz]
 rfl
theorem z12w {x y z:List UInt8} (hx:1≤x.length) (hy:1≤y.length) (hz:1≤z.length) (hb:x.length+y.length+z.length≤1000) (c:UInt8):z1s [c] [.str x,.str y,.str z]=some (.str (x++([c]++(y++([c]++z))))):=by
 have:=zq6 [c] (by simp) [x,y,z] (by simp) (by simp only [totL]; omega)
 rw [z1ki hx hy hz] at this
 exact this
theorem z1hr {y m d:Int} (hy:1≤y∧y≤999999) (hm:0≤m∧m≤99) (hd:0≤d∧d≤99) (bc:List UInt8) (a b c:Int) :
  zin y m d bc a b c=some (.tuple [.str (dateN y m d a b),.str bc]):=by
 rw [zon,zbm (by omega) (by omega)]
 simp only [oB,zg]
 have l1:=digN_pos y.toNat
 have l2:=z4w y.toNat
 have hrep:maxI 0 (IntKind.i64.wrap (4-(((digN y.toNat).length:Nat):Int)))=((4-(digN y.toNat).length:Nat):Int):=by
  rw [w64 (by omega) (by omega)]
  unfold maxI
  by_cases h:4-(((digN y.toNat).length:Nat):Int)>0
  ·rw [decide_eq_true h]; simp only [cond_true]; omega
  ·rw [decide_eq_false h]; simp only [cond_false]; omega
 rw [hrep,rep_s _ (by omega)]
 simp only [oB,zg]
 have hj:zt [.str (List.replicate (4-(digN y.toNat).length) 48),.str (digN y.toNat)]=some (.str (padN (digN y.toNat))):=by
  have:=ziw [List.replicate (4-(digN y.toNat).length) 48,digN y.toNat] (by simp) (by simp only [totL,List.length_replicate]; omega)
  rw [show ([List.replicate (4-(digN y.toNat).length) 48,digN y.toNat]:List (List UInt8)).flatten=padN (digN y.toNat) by unfold padN; simp] at this
  exact this
 rw [hj,zih hm.1 (by omega),zih hd.1 (by omega)]
 simp only [oB,zg]
 have p1:=z1a6 (digN y.toNat)
 have t1:=z198 m.toNat
 have t2:=z28 m.toNat
 have t3:=z198 d.toNat
 have t4:=z28 d.toNat
 unfold dateN
 by_cases ha:a=0
 ·rw [c_eqT ha,if_pos ha,z12w (by omega) t1 t3 (by omega)]; rfl
 ·rw [c_eqF ha,if_neg ha]
  by_cases h2:b=2
  ·rw [c_eqT h2,if_pos h2,z12w t1 t3 (by omega) (by omega)]; rfl
  ·rw [c_eqF h2,if_neg h2]
   by_cases h1:b=1
   ·rw [c_eqT h1,if_pos h1,z12w t3 t1 (by omega) (by omega)]; rfl
   ·rw [c_eqF h1,if_neg h1,z12w (by omega) t1 t3 (by omega)]; rfl
theorem decI_pos {y:Int} (h:0≤y):decI y=digN y.toNat:=by unfold decI; rw [if_neg (by omega)]
theorem z1i5 {y m d:Int} (hy:1≤y∧y≤999999) (hm:0≤m∧m≤99) (hd:0≤d∧d≤99) (bc:List UInt8) (a b c:Int) :
  z5l y m d bc a b c=some (.tuple [.str (dateN y m d a b),.str bc]):=by
 rw [zkl,z5c (by omega) (by omega),decI_pos (by omega)]
 simp only [oB,zg]
 have l2:=z4w y.toNat
 rw [z1d1 m d bc a b c _ _ rfl (by omega)]
 have p1:=z1a6 (digN y.toNat)
 have t2:=z28 m.toNat
 have t4:=z28 d.toNat
 generalize hP:padN (digN y.toNat)=P at p1
 rw [zaz,c_ltF (by omega),zg3 hm.1 (by omega),zg3 hd.1 (by omega)]
 simp only [oB,zg]
 unfold dateN
 rw [hP]
 generalize twoN m.toNat=M at t2
 generalize twoN d.toNat=D at t4
 by_cases ha:a=0
 ·rw [c_eqT ha,if_pos ha,z9 (by simp; omega)]
  simp only [oB]; rw [z9 (by simp; omega)]
  simp only [oB]; rw [z9 (by simp; omega)]
  simp only [oB]; rw [z9 (by simp; omega)]
  simp
 ·rw [c_eqF ha,if_neg ha]
  by_cases h2:b=2
  ·rw [c_eqT h2,if_pos h2,z9 (by simp; omega)]
   simp only [oB]; rw [z9 (by simp; omega)]
   simp only [oB]; rw [z9 (by simp; omega)]
   simp only [oB]; rw [z9 (by simp; omega)]
   simp
  ·rw [c_eqF h2,if_neg h2]
   by_cases h1:b=1
   ·rw [c_eqT h1,if_pos h1,z9 (by simp; omega)]
    simp only [oB]; rw [z9 (by simp; omega)]
    simp only [oB]; rw [z9 (by simp; omega)]
    simp only [oB]; rw [z9 (by simp; omega)]
    simp
   ·rw [c_eqF h1,if_neg h1,z9 (by simp; omega)]
    simp only [oB]; rw [z9 (by simp; omega)]
    simp only [oB]; rw [z9 (by simp; omega)]
    simp only [oB]; rw [z9 (by simp; omega)]
    simp
theorem z1en {n:Int} (h:z3h n=some (.bool true)) (a b c:Int):∃ s bc,zoo 0 n a b c=some (.tuple [.str s,.str bc])∧z7o 0 n a b c=some (.tuple [.str s,.str bc])∧1≤s.length∧s.length≤80∧bc.length≤3:=by
 obtain ⟨y,m,d,e1,e2,e3,e4,e5,e6⟩:=parts0_s h
 obtain ⟨m1,m2,d1,d2⟩:=e3
 have hl:=z7a y m m1 m2
 rw [z10i,zpi,e1,e2]
 simp only [oB,tn0,tn1,tn2,zl]
 by_cases hy:y<1
 ·rw [c_ltT hy,c_ltT hy,w64 (by omega) (by omega)]
  refine ⟨_,_,z1hr (by omega) (by omega) (by omega) _ a b c,z1i5 (by omega) (by omega) (by omega) _ a b c,(zyf _ _ _ _ _).1,(zyf _ _ _ _ _).2,by decide⟩
 ·rw [c_ltF hy,c_ltF hy]
  refine ⟨_,_,z1hr (by omega) (by omega) (by omega) _ a b c,z1i5 (by omega) (by omega) (by omega) _ a b c,(zyf _ _ _ _ _).1,(zyf _ _ _ _ _).2,by decide⟩
theorem join2 {x y:List UInt8} (h:x.length+y.length≤1000):zt [.str x,.str y]=some (.str (x++y)):=by
 have:=ziw [x,y] (by simp) (by simp only [totL]; omega)
 rw [show ([x,y]:List (List UInt8)).flatten=x++y by simp] at this
 exact this
theorem Date_s (i n a b c:Int):∃ s e,zos i n a b c=some (.tuple [.str s,.int .i64 e])∧zc1 i n a b c=some (.tuple [.str s,.int .i64 e]):=by
 obtain ⟨r,h1,h2,h3,h4⟩:=z1jp i n
 rw [z10k,zpk,h1,h2,zuz,zs9]
 simp only [oB,ze]
 cases hr:r with
 | false=>simp only [Bool.not_false,cond_true]; rw [zoq,zb1]; exact ⟨_,_,rfl,rfl⟩
 | true =>
 simp only [Bool.not_true,cond_false]
 cases hs:styleR a b c with
 | false=>simp only [Bool.not_false,cond_true]; rw [zoq,zb1]; exact ⟨_,_,rfl,rfl⟩
 | true =>
 simp only [Bool.not_true,cond_false]
 rw [zop,zkn]
 by_cases hi:i=0
 ·subst hi
  obtain ⟨s,bc,e1,e2,e3,e4,e5⟩:=z1en (h3 hr rfl) a b c
  rw [c_not,c_eqT rfl,c_not,c_eqT rfl,e1,e2]
  simp only [oB,tn0,tn1,zg]
  rw [join2 (by omega),z9 (by omega)]
  exact ⟨_,_,rfl,rfl⟩
 ·rw [c_not,c_eqF hi,c_not,c_eqF hi,← inf_s hi]
  obtain ⟨s,e⟩:=z1gh hi
  rw [e]
  exact ⟨_,_,rfl,rfl⟩
theorem ctext_s {t:Int} (h0:0≤t) (h1:t<86400000000):zzu t=some (.tuple [.str (textN t.toNat),.int .i64 0]):=by
 rw [z1bc,z15e,c_leT h0]
 simp only [oB,ze]
 rw [show leB t 86400000000=true from decide_eq_true (by omega),wu64 (by omega) (by omega)]
 obtain ⟨k,rfl⟩:=Int.eq_ofNat_of_zero_le h0
 rw [text_s k (by omega)]
 rfl
theorem rtext_s {t:Int} (h0:0≤t) (h1:t<86400000000):zca t=some (.tuple [.str (textN t.toNat),.int .i64 0]):=by
 obtain ⟨k,rfl⟩:=Int.eq_ofNat_of_zero_le h0
 have q1:Int.tdiv ((k:Nat):Int) 1000000=((k / 1000000:Nat):Int):=tdivN k 1000000
 have q2:Int.tdiv ((k / 1000000:Nat):Int) 3600=((k / 1000000 / 3600:Nat):Int):=tdivN _ 3600
 have q3:Int.tdiv ((k / 1000000:Nat):Int) 60=((k / 1000000 / 60:Nat):Int):=tdivN _ 60
 have q4:Int.tmod ((k / 1000000 / 60:Nat):Int) 60=((k / 1000000 / 60 % 60:Nat):Int):=tmodN _ 60
 have q5:Int.tmod ((k / 1000000:Nat):Int) 60=((k / 1000000 % 60:Nat):Int):=tmodN _ 60
 have q6:Int.tmod ((k:Nat):Int) 1000000=((k % 1000000:Nat):Int):=tmodN k 1000000
 rw [zpn,znm,c_ltF (by omega),c_ltF (by omega),zjm,q1,w64 (n:=((k / 1000000:Nat):Int)) (by omega) (by omega),q2,w64 (n:=((k / 1000000 / 3600:Nat):Int)) (by omega) (by omega),q3,w64 (n:=((k / 1000000 / 60:Nat):Int)) (by omega) (by omega),q4,q5,q6]
 have e:∀ {k:IntKind} {n:Int} {v1 v2 v3 v4:PV},(PV.tuple [v1,v2,v3,v4,.int k n]).tnth 4=.int k n:=rfl
 simp only [oB,tn0,tn1,tn2,tn3,e,zl]
 rw [c_not,c_eqT rfl,zg3 (by omega) (by omega),zg3 (by omega) (by omega),zg3 (by omega) (by omega),z19y (by omega) (by omega)]
 simp only [oB,zg,Int.toNat_natCast]
 have l1:=z28 (k / 1000000 / 3600)
 have l2:=z28 (k / 1000000 / 60 % 60)
 have l3:=z28 (k / 1000000 % 60)
 have l4:=zbr (k % 1000000)
 unfold textN
 rw [show k / 3600000000=k / 1000000 / 3600 by omega,show k / 60000000 % 60=k / 1000000 / 60 % 60 by omega]
 generalize twoN (k / 1000000 / 3600)=A at l1
 generalize twoN (k / 1000000 / 60 % 60)=B at l2
 generalize twoN (k / 1000000 % 60)=C at l3
 generalize fracN (k % 1000000)=D at l4
 rw [z9 (by simp; omega)]
 simp only [oB]; rw [z9 (by simp; omega)]
 simp only [oB]; rw [z9 (by simp; omega)]
 simp only [oB]; rw [z9 (by simp; omega)]
 simp only [oB]; rw [z9 (by simp; omega)]
 simp
theorem two_full {x y:List UInt8} (hx:1≤x.length) (hy:1≤y.length) (sep:List UInt8):joinB sep (fullL [x,y])=x++(sep++y):=by
 have e:∀ s:List UInt8,1≤s.length→(!eqS s [])=true:=by
  intro s hs
  unfold eqS
  rw [decide_eq_false (by intro h; subst h; simp at hs)]; rfl
 unfold fullL
 simp only [List.filter,e x hx,e y hy]
 rfl
theorem between2 {x y:List UInt8} (hx:1≤x.length) (hy:1≤y.length) (hb:x.length+y.length≤1000) (c:UInt8):z1s [c] [.str x,.str y]=some (.str (x++([c]++y))):=by
 have:=zq6 [c] (by simp) [x,y] (by simp) (by simp only [totL]; omega)
 rw [two_full hx hy] at this
 exact this
theorem textN_pos (t:Nat):1≤(textN t).length:=by
 unfold textN; rw [List.length_append]; have:=z198 (t / 3600000000); omega
theorem z15o {n:Int} (hn:In64 n) (h:z3h (n / 86400000000)=some (.bool true)) (a b c:Int):∃ s bc,zlj 0 n a b c=some (.tuple [.str s,.str bc])∧z66 0 n a b c=some (.tuple [.str s,.str bc])∧1≤s.length∧s.length≤200∧bc.length≤3:=by
 obtain ⟨o1,o2⟩:=of0_s hn h
 obtain ⟨s,bc,e1,e2,e3,e4,e5⟩:=z1en h a b c
 have ht:=z8r n (show (0:Int)<86400000000 by omega)
 have l1:=zww (n % 86400000000).toNat
 have l2:=textN_pos (n % 86400000000).toNat
 rw [z16m,zly,o1,o2]
 simp only [oB,tn0,tn1,ag0,ag1,zl]
 rw [e1,e2,ctext_s ht.1 ht.2,rtext_s ht.1 ht.2]
 simp only [oB,tn0,tn1,zg]
 rw [between2 e3 l2 (by omega),z9 (by simp; omega)]
 simp only [oB]
 rw [z9 (by simp; omega)]
 refine ⟨s++([32]++textN (n % 86400000000).toNat),bc,rfl,by rw [List.append_assoc]; rfl,by simp; omega,by simp; omega,e5⟩
theorem Stamp_s (i:Int) {n:Int} (hn:In64 n) (a b c:Int):∃ s e,zze i n a b c=some (.tuple [.str s,.int .i64 e])∧za9 i n a b c=some (.tuple [.str s,.int .i64 e]):=by
 obtain ⟨r,h1,h2,h3,h4⟩:=z12l i hn
 rw [z19o,znb,h1,h2,zuz,zs9]
 simp only [oB,ze]
 cases hr:r with
 | false=>simp only [Bool.not_false,cond_true]; rw [zmq,z9p]; exact ⟨_,_,rfl,rfl⟩
 | true =>
 simp only [Bool.not_true,cond_false]
 cases hs:styleR a b c with
 | false=>simp only [Bool.not_false,cond_true]; rw [zmq,z9p]; exact ⟨_,_,rfl,rfl⟩
 | true =>
 simp only [Bool.not_true,cond_false]
 rw [z11w,zji]
 by_cases hi:i=0
 ·subst hi
  obtain ⟨s,bc,e1,e2,e3,e4,e5⟩:=z15o hn (h3 hr rfl) a b c
  rw [c_not,c_eqT rfl,c_not,c_eqT rfl,e1,e2]
  simp only [oB,tn0,tn1,zg]
  rw [join2 (by omega),z9 (by omega)]
  exact ⟨_,_,rfl,rfl⟩
 ·rw [c_not,c_eqF hi,c_not,c_eqF hi,← inf_s hi]
  obtain ⟨s,e⟩:=z1gh hi
  rw [e]
  exact ⟨_,_,rfl,rfl⟩
end Dv

set_option maxRecDepth 20000
namespace Dv
open Go
theorem z1hm (v:Int) (h:v.natAbs<6277101735386680763835789423207666416102355444464034512896):z2d (decide (v<0)) (limbs v.natAbs)=some (limV v):=by
 rw [z1a4 _ h]
 have e:(if decide (v<0)=true then -(v.natAbs:Int) else (v.natAbs:Int))=v:=by
  by_cases g:v<0
  ·rw [decide_eq_true g,if_pos rfl]; omega
  ·rw [decide_eq_false g,if_neg (by decide)]; omega
 rw [e]
theorem limV_tn (v:Int):(PV.tuple [.int .i64 ((limV v).tnth 0).toI,.int .i64 ((limV v).tnth 1).toI])=limV v:=by
 unfold limV; split <;> rfl
theorem wadd_s {a b:Int} (ha:In64 a) (hb:In64 b):zdx a b=some (limV (a+b)):=by
 rw [ztk,ofI_s ha,ofI_s hb]
 unfold In64 at ha hb
 simp only [oB,wI,ag0,ag1,ze,zam]
 rw [plus_s (by omega) (by omega)]
 simp only [oB,wI,ag0,ag1,ze,zam]
 rw [z1hm _ (by omega)]
 simp only [oB]
 rw [limV_tn]
theorem wmul_s {a b:Int} (ha:-100000000000000≤a∧a≤100000000000000) (hb:0≤b∧b≤1000000):zdw a b=some (limV (a*b)):=by
 rw [zth,ofI_s (by unfold In64; omega),ofI_s (by unfold In64; omega)]
 simp only [oB,wI,ag0,ag1,ze,zam]
 rw [times_s (by omega) (by omega)]
 simp only [oB,wI,ag0,ag1,ze,zam]
 have hn:(a*b).natAbs≤100000000000000*1000000:=by
  rw [Int.natAbs_mul]
  exact Nat.mul_le_mul (by omega) (by omega)
 rw [z1hm _ (by omega)]
 simp only [oB]
 rw [limV_tn]
theorem split_s (i:Int) {U:Int} (hU:In64 U):zv8 i U=some (.tuple [.int .i64 (U / 1000000+946684800),.int .i64 (U % 1000000)])∧z8s i U=some (.tuple [.int .i64 (U / 1000000+946684800),.int .i64 (U % 1000000)]):=by
 have hd:limV (U / 1000000)=.tuple [.int .i64 (U / 1000000),.int .i64 0]:=by unfold limV; rw [if_pos (by unfold In64 at *; omega)]
 unfold In64 at hU
 rw [z16e,zt6,ndiv_s (by unfold In64; omega) (by omega) (by omega),nmod_s (by unfold In64; omega) (by omega) (by omega),rdiv_s (by unfold In64; omega) (by omega) (by omega),rmod_s (by unfold In64; omega) (by omega) (by omega),hd]
 simp only [oB,tn0,zl]
 rw [w64 (by omega) (by omega)]
 exact ⟨rfl,rfl⟩
noncomputable abbrev sOff (T:TabI) (i U:Int):Option PV:=zim T.nm T.t.a T.t.o T.t.d T.t.s (T.rows.map Tr.v) T.F.h T.F.f T.F.o T.F.a.m T.F.a.k T.F.a.wd T.F.a.n T.F.a.sec T.F.a.kd T.F.a.save T.F.p T.F.b.m T.F.b.k T.F.b.wd T.F.b.n T.F.b.sec T.F.b.kd T.F.b.save T.F.q i U
noncomputable abbrev rOff (T:TabI) (i U:Int):Option PV:=z97 T.nm T.t.a T.t.o T.t.d T.t.s (T.rows.map Tr.v) T.F.h T.F.f T.F.o T.F.a.m T.F.a.k T.F.a.wd T.F.a.n T.F.a.sec T.F.a.kd T.F.a.save T.F.p T.F.b.m T.F.b.k T.F.b.wd T.F.b.n T.F.b.sec T.F.b.kd T.F.b.save T.F.q i U
noncomputable abbrev sLoc (T:TabI) (i U:Int):Option PV:=zv9 T.nm T.t.a T.t.o T.t.d T.t.s (T.rows.map Tr.v) T.F.h T.F.f T.F.o T.F.a.m T.F.a.k T.F.a.wd T.F.a.n T.F.a.sec T.F.a.kd T.F.a.save T.F.p T.F.b.m T.F.b.k T.F.b.wd T.F.b.n T.F.b.sec T.F.b.kd T.F.b.save T.F.q i U
noncomputable abbrev rLoc (T:TabI) (i U:Int):Option PV:=zaa T.nm T.t.a T.t.o T.t.d T.t.s (T.rows.map Tr.v) T.F.h T.F.f T.F.o T.F.a.m T.F.a.k T.F.a.wd T.F.a.n T.F.a.sec T.F.a.kd T.F.a.save T.F.p T.F.b.m T.F.b.k T.F.b.wd T.F.b.n T.F.b.sec T.F.b.kd T.F.b.save T.F.q i U
def stV (i U e:Int):PV:=.tuple [.agg [.int .i64 i,.int .i64 U],.int .i64 e]
theorem on_s {U o:Int} (hU:In64 U) (hin:z3h (U / 86400000000)=some (.bool true)) (ho:-57600≤o∧o≤57600):∃ V e,z19h 0 U (o*1000000)=some (stV 0 V e)∧zc3 (U / 1000000+946684800+o) (U % 1000000)=some (stV 0 V e) ∧
  (e=0→In64 V∧z3h (V / 86400000000)=some (.bool true)):=by
 have hlo:-400000000000000000≤U:=by
  obtain ⟨b,g1,g2,g3⟩:=zxm (U / 86400000000)
  rw [hin] at g1
  cases g1
  obtain ⟨y,m,d,_,_,k3,k4,k5,k6⟩:=g3 rfl
  have h1:=(day_in k3).1
  have h2:=zvp (y:=y) (by omega) (by omega)
  omega
 have hU':=hU
 unfold In64 at hU'
 rw [z1fn,zpl,add_s hU (by unfold In64; omega),w64 (n:=U / 1000000+946684800+o-946684800) (by omega) (by omega),show U / 1000000+946684800+o-946684800=U / 1000000+o by omega,wmul_s (by omega) (by omega)]
 have hmul:(U / 1000000+o)*1000000+U % 1000000=U+o*1000000:=by omega
 have bad:∀ (W e' us:Int),In64 W→0≤us→us<1000000→(e'≠0∨¬ In64 (W+us))→zc2 0 W e' us=some (stV 0 0 10):=by
  intro W e' us hW h0 h1 hx
  rw [zf9,wadd_s hW (by unfold In64; omega)]
  simp only [oB]
  by_cases he:e'=0
  ·have hn:¬ In64 (W+us):=hx.resolve_left (fun h=>h he)
   rw [c_not,c_eqT he]
   unfold limV
   rw [if_neg hn]
   rfl
  ·rw [c_not,c_eqF he]; rfl
 by_cases hv:In64 (U+o*1000000)
 ·have hm:In64 ((U / 1000000+o)*1000000):=by unfold In64 at hv ⊢; omega
  have l1:limV (U+o*1000000)=.tuple [.int .i64 (U+o*1000000),.int .i64 0]:=by unfold limV; rw [if_pos hv]
  have l2:limV ((U / 1000000+o)*1000000)=.tuple [.int .i64 ((U / 1000000+o)*1000000),.int .i64 0]:=by unfold limV; rw [if_pos hm]
  rw [l1,l2]
  simp only [oB,tn0,tn1,zl]
  rw [zf9,wadd_s hm (by unfold In64; omega),hmul,l1]
  simp only [oB,tn0,tn1,zl]
  obtain ⟨b,r1,r2,r3,_⟩:=z12l 0 hv
  rw [c_not,c_eqT rfl,c_not,c_eqT rfl,c_not,c_eqT rfl,r1,r2]
  cases b with
  | false=>exact ⟨0,10,rfl,rfl,by intro h; cases h⟩
  | true=>exact ⟨U+o*1000000,0,rfl,rfl,fun _=>⟨hv,r3 rfl rfl⟩⟩
 ·have l1:limV (U+o*1000000)=.tuple [.int .i64 0,.int .i64 10]:=by unfold limV; rw [if_neg hv]
  rw [l1]
  refine ⟨0,10,?_,?_,by intro h; cases h⟩
  ·simp only [oB,tn0,tn1,zl]
   rw [c_not,c_eqF (by omega)]; rfl
  ·by_cases hm:In64 ((U / 1000000+o)*1000000)
   ·have l2:limV ((U / 1000000+o)*1000000)=.tuple [.int .i64 ((U / 1000000+o)*1000000),.int .i64 0]:=by unfold limV; rw [if_pos hm]
    rw [l2]
    simp only [oB,tn0,tn1,zl]
    rw [bad _ 0 _ hm (by omega) (by omega) (.inr (by rw [hmul]; exact hv))]
    rfl
   ·have l2:limV ((U / 1000000+o)*1000000)=.tuple [.int .i64 0,.int .i64 10]:=by unfold limV; rw [if_neg hm]
    rw [l2]
    simp only [oB,tn0,tn1,zl]
    rw [bad _ 10 _ (by unfold In64; omega) (by omega) (by omega) (.inl (by omega))]
    rfl
theorem loc_s (T:TabI) (hF:T.F.in64) (hf:In64 T.F.f) {U:Int} (hU:In64 U) (hz:ztn T=some (.bool true)) (hz2:zot T=some (.bool true)) (hr:z2p 0 U=some (.bool true)) (hr2:zu 0 U=some (.bool true))
  (hin:z3h (U / 86400000000)=some (.bool true)) :
  ∃ (t:Tr) (e V e':Int),sOff T 0 U=some (t.r e)∧rOff T 0 U=some (t.r e)∧sLoc T 0 U=some (stV 0 V e')∧rLoc T 0 U=some (stV 0 V e')∧(-57600≤t.o∧t.o≤57600) ∧
   (e'=0→In64 V∧z3h (V / 86400000000)=some (.bool true))∧(∀ P:List UInt8→Prop,P []→P T.t.s→(∀ r∈T.rows,P r.s)→P T.F.p→P T.F.q→P t.s):=by
 obtain ⟨s1,s2⟩:=split_s 0 hU
 have hU':=hU
 unfold In64 at hU'
 obtain ⟨t,e,a1,a2,a3,a4,a5⟩:=at_s T hF hf (u:=U / 1000000+946684800) (by unfold In64; omega)
 unfold ztn at hz
 unfold zot at hz2
 unfold zAt at a1
 unfold rzAt at a2
 have o1:sOff T 0 U=some (t.r e):=by
  unfold sOff
  rw [zhe,zok,hz,hr]
  simp only [oB,ze,Bool.not_true,cond_false,zl]
  rw [c_not,c_eqT rfl,c_not,c_eqT rfl,s1]
  simp only [oB,tn0,zl]
  rw [a1]; rfl
 have o2:rOff T 0 U=some (t.r e):=by
  unfold rOff
  rw [zm0,hz2,hr2]
  simp only [oB,ze,Bool.not_true,cond_false]
  rw [zi6,c_not,c_eqT rfl,s2]
  simp only [oB,tn0,zl]
  rw [a2]; rfl
 have hoff:=o1
 unfold sOff at hoff
 have k1:((t.r e).tnth 1).toI=e:=rfl
 have k2:(((t.r e).tnth 0).nth 1).toI=t.o:=rfl
 by_cases he:e=0
 ·obtain ⟨V,e',n1,n2,n3⟩:=on_s hU hin a3
  refine ⟨t,e,V,e',o1,o2,?_,?_,a3,n3,a5⟩
  ·unfold sLoc
   rw [ze6,hoff]
   simp only [oB]
   rw [k1,k2,c_eqF (by omega),c_not,c_eqT rfl,c_not,c_eqT he,w64 (by omega) (by omega),n1]
   rfl
  ·unfold rLoc
   rw [zd8,hz2,hr2]
   simp only [oB,ze,Bool.not_true,cond_false]
   rw [z9q,c_not,c_eqT rfl,s2]
   simp only [oB,tn0,tn1,zl]
   rw [a2]
   simp only [oB]
   rw [k1,k2,c_not,c_eqT he,w64 (by omega) (by omega),n2]
   rfl
 ·refine ⟨t,e,0,e,o1,o2,?_,?_,a3,fun h=>absurd h he,a5⟩
  ·unfold sLoc
   rw [ze6,hoff]
   simp only [oB]
   rw [k1,c_not,c_eqT rfl,c_not,c_eqF he]
   cases eqB e 1 <;> rfl
  ·unfold rLoc
   rw [zd8,hz2,hr2]
   simp only [oB,ze,Bool.not_true,cond_false]
   rw [z9q,c_not,c_eqT rfl,s2]
   simp only [oB,tn0,tn1,zl]
   rw [a2]
   simp only [oB]
   rw [k1,c_not,c_eqF he]
   rfl
theorem coff_s {o:Int} (ho:-57600≤o∧o≤57600):∃ s e,zpz o=some (.tuple [.str s,.int .i64 e])∧z9b o=some (.tuple [.str s,.int .i64 e])∧s.length≤100:=by
 have body:∀ (n:Int) (sg:List UInt8),0≤n→n≤57599→sg.length=1→∃ s,z4e n sg=some (.tuple [.str s,.int .i64 0])∧s.length≤100 ∧
   ∀ x:Int,max x (-x)=n→-57600≤x→x≤57600→zhy x sg=some (.tuple [.str s,.int .i64 0]):=by
  intro n sg h0 h1 hsg
  have t1:=z28 (n / 3600).toNat
  have t2:=z28 (n / 60 % 60).toNat
  have t3:=z28 (n % 60).toNat
  have q1:IntKind.i64.wrap (Int.tdiv n 3600)=n / 3600:=by rw [z3w h0,w64 (by omega) (by omega)]
  have q2:Int.tmod (IntKind.i64.wrap (Int.tdiv n 60)) 60=n / 60 % 60:=by rw [z3w h0,w64 (by omega) (by omega),z61 (by omega)]
  have q3:Int.tmod n 60=n % 60:=z61 h0
  have q4:Int.tmod n 3600=n % 3600:=z61 h0
  have hm:∀ x:Int,max x (-x)=n→-57600≤x→x≤57600→maxI x (IntKind.i64.wrap (0-x))=n:=by
   intro x hx h2 h3
   rw [w64 (by omega) (by omega),maxI_i]; omega
  by_cases z1:n % 60=0
  ·by_cases z2:n % 3600=0
   ·refine ⟨sg++twoN (n / 3600).toNat,?_,by simp; omega,?_⟩
    ·rw [z53,q1,zg3 (by omega) (by omega),q4]
     simp only [oB,zg]
     rw [z9 (by omega)]
     simp only [oB]
     rw [c_not,c_eqT z2,z4t,q3,c_not,c_eqT z1]
    ·intro x hx h2 h3
     rw [zcg,hm x hx h2 h3,q1,zih (by omega) (by omega),q3,q4]
     simp only [oB,zg]
     rw [z9 (by omega)]
     simp only [oB]
     rw [c_not,c_eqT z1,c_not,c_eqT z2]
   ·refine ⟨sg++twoN (n / 3600).toNat++[58]++twoN (n / 60 % 60).toNat,?_,by simp; omega,?_⟩
    ·rw [z53,q1,zg3 (by omega) (by omega),q4]
     simp only [oB,zg]
     rw [z9 (by omega)]
     simp only [oB]
     rw [c_not,c_eqF z2,z9 (by simp; omega),q2,zg3 (by omega) (by omega)]
     simp only [oB,zg]
     rw [z9 (by simp; omega)]
     simp only [oB]
     rw [z4t,q3,c_not,c_eqT z1]
    ·intro x hx h2 h3
     rw [zcg,hm x hx h2 h3,q1,zih (by omega) (by omega),q3,q4]
     simp only [oB,zg]
     rw [z9 (by omega)]
     simp only [oB]
     rw [c_not,c_eqT z1,c_not,c_eqF z2,z9 (by simp; omega),q2,zih (by omega) (by omega)]
     simp only [oB,zg]
     rw [z9 (by simp; omega)]
     rfl
  ·have z2:¬ n % 3600=0:=by omega
   refine ⟨sg++twoN (n / 3600).toNat++[58]++twoN (n / 60 % 60).toNat++[58]++twoN (n % 60).toNat,?_,by simp; omega,?_⟩
   ·rw [z53,q1,zg3 (by omega) (by omega),q4]
    simp only [oB,zg]
    rw [z9 (by omega)]
    simp only [oB]
    rw [c_not,c_eqF z2,z9 (by simp; omega),q2,zg3 (by omega) (by omega)]
    simp only [oB,zg]
    rw [z9 (by simp; omega)]
    simp only [oB]
    rw [z4t,q3,c_not,c_eqF z1,z9 (by simp; omega),zg3 (by omega) (by omega)]
    simp only [oB,zg]
    rw [z9 (by simp; omega)]
    rfl
   ·intro x hx h2 h3
    rw [zcg,hm x hx h2 h3,q1,zih (by omega) (by omega),q3]
    simp only [oB,zg]
    rw [z9 (by omega)]
    simp only [oB]
    rw [c_not,c_eqF z1,z9 (by simp; omega),q2,zih (by omega) (by omega)]
    simp only [oB,zg]
    rw [z9 (by simp; omega)]
    simp only [oB]
    rw [z9 (by simp; omega),zih (by omega) (by omega)]
    simp only [oB,zg]
    rw [z9 (by simp; omega)]
    rfl
 rw [z15g,zmb]
 by_cases h1:o < -57599
 ·refine ⟨[],10,?_,by rw [c_ltT h1]; exact z92,by simp⟩
  rw [c_ltT (by omega),z7v,c_ltT h1]; exact zj6
 ·by_cases h2:57599<o
  ·refine ⟨[],10,?_,by rw [c_ltF h1,c_ltT h2]; exact z92,by simp⟩
   rw [c_ltF (by omega),z7v,c_ltF h1,c_ltT h2]; exact zj6
  ·rw [c_ltF h1,c_ltF h2,zi9]
   by_cases h3:o<0
   ·obtain ⟨s,b1,b2,b3⟩:=body (0-o) [45] (by omega) (by omega) rfl
    rw [c_ltT h3,c_ltT h3,z7v,c_ltF h1,c_ltF h2,w64 (by omega) (by omega),b1,b3 o (by omega) (by omega) (by omega)]
    exact ⟨s,0,rfl,rfl,b2⟩
   ·obtain ⟨s,b1,b2,b3⟩:=body o [43] (by omega) (by omega) rfl
    rw [c_ltF h3,c_ltF h3,z7v,c_ltF h1,c_ltF h2,b1,b3 o (by omega) (by omega) (by omega)]
    exact ⟨s,0,rfl,rfl,b2⟩
end Dv

set_option maxRecDepth 20000
namespace Dv
open Go
theorem z18k (l:List (List UInt8)) (hl:l.length≤1000):∀ (r:List (List UInt8)) (i:Nat) (acc:List UInt8),l.drop i=r→i≤l.length→acc.length+totL r≤4000000 →
  zek (l.map PV.str) (l.length:Int) (i:Int) (acc.map byteV)=some (.str (acc++r.flatten))
 | [],i,acc,hr,hi,ht=>by
  have:=zsm hr
  rw [zbj,c_ltF (by omega),z75]
  simp
 | s::r,i,acc,hr,hi,ht=>by
  obtain ⟨h1,h2,h3⟩:=zkg hr
  have e1:IntKind.i64.wrap ((i:Int)+1)=((i+1:Nat):Int):=by rw [w64 (by omega) (by omega)]; omega
  simp only [totL] at ht
  rw [zbj,c_ltT (by omega),rdI_n,zzj h2]
  simp only [oB,zg]
  rw [decide_eq_true (by omega),cond_true,Int.toNat_natCast,List.take_length,zfz (by simp; omega)]
  simp only [oB]
  rw [e1,← List.map_append,z18k l hl r (i+1) (acc++s) h3 (by omega) (by simp; omega)]
  simp
theorem bjoin_s (l:List (List UInt8)) (hl:l.length≤1000) (ht:totL l≤4000000):zt (l.map PV.str)=some (.str l.flatten):=by
 rw [z10h,List.length_map]
 have:=z18k l hl l 0 [] rfl (by omega) (by simpa using ht)
 exact this
theorem bjoin3 {x y z:List UInt8} (h:x.length+y.length+z.length≤4000000):zt [.str x,.str y,.str z]=some (.str (x++y++z)):=by
 have:=bjoin_s [x,y,z] (by simp) (by simp only [totL]; omega)
 rw [show ([x,y,z]:List (List UInt8)).flatten=x++y++z by simp] at this
 exact this
theorem bjoin4 {x y z w:List UInt8} (h:x.length+y.length+z.length+w.length≤4000000):zt [.str x,.str y,.str z,.str w]=some (.str (x++y++z++w)):=by
 have:=bjoin_s [x,y,z,w] (by simp) (by simp only [totL]; omega)
 rw [show ([x,y,z,w]:List (List UInt8)).flatten=x++y++z++w by simp] at this
 exact this
theorem loc_bad (T:TabI) (i U:Int) {z r:Bool} (hz:ztn T=some (.bool z)) (hr:z2p i U=some (.bool r)) (h:(z&&r)=false):sLoc T i U=some (stV 0 0 1):=by
 unfold ztn at hz
 have o:sOff T i U=some ((⟨0,0,false,[]⟩:Tr).r 1):=by
  unfold sOff
  rw [zhe,zok,hz]
  cases z with
  | false=>rfl
  | true =>
   have:r=false:=by simpa using h
   subst this
   simp only [oB,ze,Bool.not_true,cond_false]
   rw [hr]; rfl
 unfold sOff at o
 unfold sLoc
 rw [ze6,o]
 rfl
theorem loc_inf (T:TabI) {i:Int} (U:Int) (hi:i≠0) (hz:ztn T=some (.bool true)) (hr:z2p i U=some (.bool true)):sLoc T i U=some (stV i U 0):=by
 unfold ztn at hz
 have o:sOff T i U=some ((⟨0,0,false,[]⟩:Tr).r 10):=by
  unfold sOff
  rw [zhe,zok,hz]
  simp only [oB,ze,Bool.not_true,cond_false]
  rw [hr]
  simp only [oB,ze,Bool.not_true,cond_false,zl]
  rw [c_not,c_eqT rfl,c_not,c_eqF hi]
  rfl
 unfold sOff at o
 unfold sLoc
 rw [ze6,o]
 simp only [oB]
 have k1:(((⟨0,0,false,[]⟩:Tr).r 10).tnth 1).toI=10:=rfl
 rw [k1,c_eqF (by omega),c_not,c_eqF hi]
 rfl
noncomputable abbrev tzS (T:TabI) (i U a b c:Int):Option PV:=z1ft i U T.nm T.t.a T.t.o T.t.d T.t.s (T.rows.map Tr.v) T.F.h T.F.f T.F.o T.F.a.m T.F.a.k T.F.a.wd T.F.a.n T.F.a.sec T.F.a.kd T.F.a.save T.F.p T.F.b.m T.F.b.k T.F.b.wd T.F.b.n T.F.b.sec T.F.b.kd T.F.b.save T.F.q a b c
noncomputable abbrev tzR (T:TabI) (i U a b c:Int):Option PV:=zfx i U T.nm T.t.a T.t.o T.t.d T.t.s (T.rows.map Tr.v) T.F.h T.F.f T.F.o T.F.a.m T.F.a.k T.F.a.wd T.F.a.n T.F.a.sec T.F.a.kd T.F.a.save T.F.p T.F.b.m T.F.b.k T.F.b.wd T.F.b.n T.F.b.sec T.F.b.kd T.F.b.save T.F.q a b c
structure TabI.Small (T:TabI):Prop where
 s:T.t.s.length≤1048576
 r:∀ r∈T.rows,r.s.length≤1048576
 p:T.F.p.length≤1048576
 q:T.F.q.length≤1048576
theorem tz_s (T:TabI) (hF:T.F.in64) (hf:In64 T.F.f) (hS:T.Small) (i:Int) {U:Int} (hU:In64 U) (a b c:Int) :
  ∃ s e,tzS T i U a b c=some (.tuple [.str s,.int .i64 e])∧tzR T i U a b c=some (.tuple [.str s,.int .i64 e]):=by
 obtain ⟨z,z1,z2,_⟩:=z18q T hF hf
 obtain ⟨r,r1,r2,r3,_⟩:=z12l i hU
 have c2:z4q=some (.tuple [.str [],.int .i64 1]):=zna
 have k0:∀ i V e:Int,(((stV i V e).tnth 0).nth 0).toI=i:=fun _ _ _=>rfl
 have k1:∀ i V e:Int,(((stV i V e).tnth 0).nth 1).toI=V:=fun _ _ _=>rfl
 have ke:∀ i V e:Int,((stV i V e).tnth 1).toI=e:=fun _ _ _=>rfl
 unfold tzS tzR
 rw [z1ko,zvy,r2]
 cases hzr:z&&r with
 | false =>
  have hl:=loc_bad T i U z1 r1 hzr
  unfold sLoc at hl
  refine ⟨[],1,?_,?_⟩
  ·rw [hl]
   simp only [oB]
   rw [zuz]
   simp only [oB,ze]
   cases styleR a b c <;> rfl
  ·simp only [oB,ze]
   rw [zs9]
   cases hr:r with
   | false=>exact c2
   | true =>
    have:z=false:=by subst hr; simpa using hzr
    subst this
    simp only [oB,ze,Bool.not_true,cond_false]
    cases styleR a b c with
    | false=>exact c2
    | true =>
     unfold zot at z2
     simp only [Bool.not_true,cond_false]
     rw [z2]; exact c2
 | true =>
  have hz:z=true:=by cases z <;> simp_all
  have hr:r=true:=by cases r <;> simp_all
  subst hz; subst hr
  simp only [oB,ze,Bool.not_true,cond_false]
  rw [zuz,zs9]
  unfold zot at z2
  by_cases hi:i=0
  ·subst hi
   obtain ⟨t,e,V,e',o1,o2,l1,l2,ho,hv,hP⟩:=loc_s T hF hf hU z1 z2 r1 r2 (r3 rfl rfl)
   unfold sOff at o1
   unfold rOff at o2
   unfold sLoc at l1
   unfold rLoc at l2
   have hlen:t.s.length≤1048576:=hP (fun s=>s.length≤1048576) (by simp) hS.s hS.r hS.p hS.q
   have q0:(((t.r e).tnth 0).nth 1).toI=t.o:=rfl
   have q1:(((t.r e).tnth 0).nth 3).toS=t.s:=rfl
   rw [l1]
   simp only [oB,ze]
   cases hs:styleR a b c with
   | false=>exact ⟨[],1,rfl,c2⟩
   | true =>
    simp only [Bool.not_true,cond_false]
    rw [z2]
    simp only [oB,ze,Bool.not_true,cond_false]
    have z0:eqB 0 0=true:=rfl
    rw [zd6,ke,z0,l2]
    simp only [oB,Bool.not_true,cond_false]
    rw [ke]
    by_cases he:e'=0
    ·obtain ⟨hV,hVi⟩:=hv he
     obtain ⟨s,bc,m1,m2,m3,m4,m5⟩:=z15o hV hVi a b c
     have e0:eqB e' 0=true:=decide_eq_true he
     rw [e0,o1,o2]
     simp only [oB,Bool.not_true,cond_false]
     rw [k0,k1,m1,m2,q0,q1]
     simp only [oB,tn0,tn1,zg]
     by_cases ha:a=1
     ·rw [c_eqT ha,c_eqT ha,bjoin4 (by simp; omega),z9 (by simp; omega)]
      simp only [oB]
      rw [z9 (by simp; omega)]
      simp only [oB]
      rw [z9 (by simp; omega)]
      exact ⟨_,_,rfl,rfl⟩
     ·obtain ⟨x,ex,x1,x2,x3⟩:=coff_s ho
      rw [c_eqF ha,c_eqF ha,x1,x2]
      simp only [oB,tn0,tn1,zg,zl]
      by_cases hx:ex=0
      ·have e1:eqB ex 0=true:=decide_eq_true hx
       rw [e1]
       simp only [Bool.not_true,cond_false]
       rw [bjoin3 (by omega),z9 (by omega)]
       simp only [oB]
       rw [z9 (by simp; omega)]
       exact ⟨_,_,rfl,rfl⟩
      ·have e1:eqB ex 0=false:=decide_eq_false hx
       rw [e1]
       exact ⟨_,_,rfl,rfl⟩
    ·have e0:eqB e' 0=false:=decide_eq_false he
     rw [e0]
     exact ⟨_,_,rfl,rfl⟩
  ·have hl:=loc_inf T U hi z1 r1
   unfold sLoc at hl
   rw [hl]
   simp only [oB,ze]
   cases hs:styleR a b c with
   | false=>exact ⟨[],1,rfl,c2⟩
   | true =>
    simp only [Bool.not_true,cond_false]
    rw [z2]
    simp only [oB,ze,Bool.not_true,cond_false]
    obtain ⟨s,es⟩:=z1gh hi
    have z0:eqB 0 0=true:=rfl
    have z3:eqB i 0=false:=decide_eq_false hi
    rw [zd6,ke,z0,z3,← inf_s hi,es]
    exact ⟨_,_,rfl,rfl⟩
theorem given_s (T:TabI) (hl:T.rows.length≤2000000):zal T.nm T.t.a T.t.o T.t.d T.t.s (T.rows.map Tr.v) T.F.h T.F.f T.F.o T.F.a.m T.F.a.k T.F.a.wd T.F.a.n T.F.a.sec T.F.a.kd T.F.a.save T.F.p T.F.b.m T.F.b.k T.F.b.wd T.F.b.n T.F.b.sec T.F.b.kd T.F.b.save T.F.q =
  some (.agg [.str T.nm,.int .i64 T.t.a,.int .i64 T.t.o,.bool T.t.d,.str T.t.s,.sl 4 (T.rows.map Tr.v),.bool T.F.h,.int .i64 T.F.f,.int .i64 T.F.o,.int .i64 T.F.a.m,.int .i64 T.F.a.k,.int .i64 T.F.a.wd,.int .i64 T.F.a.n,.int .i64 T.F.a.sec,.int .u8 T.F.a.kd,.int .i64 T.F.a.save,.str T.F.p,.int .i64 T.F.b.m,.int .i64 T.F.b.k,.int .i64 T.F.b.wd,.int .i64 T.F.b.n,.int .i64 T.F.b.sec,.int .u8 T.F.b.kd,.int .i64 T.F.b.save,.str T.F.q]):=by
 rw [znv,zfz (by simp; omega),zfi,zfi]
 rfl
end Dv

set_option maxRecDepth 20000
namespace Dv
open Go
theorem z1hy:∀ (rows:List Tr),rows.length≤pbulkL (rows.map Tr.v)∧∀ r∈rows,r.s.length≤pbulkL (rows.map Tr.v)
 | []=>⟨by simp,by intro r h; cases h⟩
 | t::l=>by
  obtain ⟨h1,h2⟩:=z1hy l
  have e:pbulkL ((t::l).map Tr.v)=pbulk t.v+pbulkL (l.map Tr.v):=rfl
  have e2:t.s.length+1≤pbulk t.v:=by
   simp only [Tr.v,pbulk,pbulkL]; omega
  refine ⟨by rw [e,List.length_cons]; omega,fun r h=>?_⟩
  rw [e]
  cases h with
  | head=>omega
  | tail _ h=>have:=h2 r h; omega
theorem tran_ex {n:Nat} {qs:List PV} (h:inTy EE (n+2) zp qs):∃ t:Tr,qs=[.int .i64 t.a,.int .i64 t.o,.bool t.d,.str t.s]:=by
 obtain ⟨hl,hf⟩:=z4n (fs:=[(0,z16),(1,z16),(2,zux),(3,z9e)]) rfl h
 match qs,(show qs.length=4 from hl) with
 | [c0,c1,c2,c3],_ =>
  obtain ⟨a,ha,_⟩:=z29 (k:=.i64) rfl (hf (0,z16) (by simp))
  obtain ⟨o,ho,_⟩:=z29 (k:=.i64) rfl (hf (1,z16) (by simp))
  obtain ⟨d,hd⟩:=z14l rfl (hf (2,zux) (by simp))
  obtain ⟨s,hs,_⟩:=z12q rfl (hf (3,z9e) (by simp))
  cases (show [c0]=_ from ha); cases (show [c1]=_ from ho); cases (show [c2]=_ from hd); cases (show [c3]=_ from hs)
  exact ⟨⟨a,o,d,s⟩,rfl⟩
theorem z1hf {n:Nat}:∀ (l:List PV),(∀ p∈l,(p=bif (EE.ti zp).isAgg then .agg p.cellsL else nthD .undef p.cellsL 0)∧inTy EE (n+2) zp p.cellsL)→∃ rows:List Tr,l=rows.map Tr.v
 | [],_=>⟨[],rfl⟩
 | p::l,h=>by
  obtain ⟨rows,hr⟩:=z1hf l (fun q hq=>h q (List.mem_cons_of_mem _ hq))
  obtain ⟨h1,h2⟩:=h p (by simp)
  obtain ⟨t,ht⟩:=tran_ex h2
  have h1:p=.agg p.cellsL:=h1
  rw [ht] at h1
  exact ⟨t::rows,by rw [h1,hr]; rfl⟩
def HalfI.cells (x:HalfI) (s:List UInt8):List PV:=[.int .i64 x.m,.int .i64 x.k,.int .i64 x.wd,.int .i64 x.n,.int .i64 x.sec,.int .u8 x.kd,.int .i64 x.save,.str s]
theorem half_ex {n:Nat} {qs:List PV} (h:inTy EE (n+3) z3m qs):∃ (x:HalfI) (s:List UInt8),In64 x.sec∧qs=x.cells s:=by
 obtain ⟨hl,hf⟩:=z4n (fs:=[(0,z16),(1,z4j),(4,zha),(6,z16),(7,z9e)]) rfl h
 match qs,(show qs.length=8 from hl) with
 | [c0,c1,c2,c3,c4,c5,c6,c7],_ =>
  obtain ⟨_,hon⟩:=z4n (fs:=[(0,zcj),(1,z16),(2,z16)]) rfl (hf (1,z4j) (by simp))
  obtain ⟨_,hat⟩:=z4n (fs:=[(0,z16),(1,zie)]) rfl (hf (4,zha) (by simp))
  obtain ⟨m,h0,_⟩:=z29 (k:=.i64) rfl (hf (0,z16) (by simp))
  obtain ⟨k,h1,_⟩:=z29 (k:=.i64) rfl (hon (0,zcj) (by simp))
  obtain ⟨wd,h2,_⟩:=z29 (k:=.i64) rfl (hon (1,z16) (by simp))
  obtain ⟨n,h3,_⟩:=z29 (k:=.i64) rfl (hon (2,z16) (by simp))
  obtain ⟨sec,h4,s1,s2⟩:=z29 (k:=.i64) rfl (hat (0,z16) (by simp))
  obtain ⟨kd,h5,_⟩:=z29 (k:=.u8) rfl (hat (1,zie) (by simp))
  obtain ⟨sv,h6,_⟩:=z29 (k:=.i64) rfl (hf (6,z16) (by simp))
  obtain ⟨s,h7,_⟩:=z12q rfl (hf (7,z9e) (by simp))
  cases (show [c0]=_ from h0); cases (show [c1]=_ from h1); cases (show [c2]=_ from h2); cases (show [c3]=_ from h3)
  cases (show [c4]=_ from h4); cases (show [c5]=_ from h5); cases (show [c6]=_ from h6); cases (show [c7]=_ from h7)
  exact ⟨⟨m,k,wd,n,sec,kd,sv⟩,s,⟨s1,s2⟩,rfl⟩
def FootI.cells (F:FootI):List PV:=.bool F.h::.int .i64 F.f::.int .i64 F.o::(F.a.cells F.p++F.b.cells F.q)
theorem foot_ex {n:Nat} {qs:List PV} (h:inTy EE (n+4) z1q qs):∃ F:FootI,F.in64∧In64 F.f∧qs=F.cells:=by
 obtain ⟨hl,hf⟩:=z4n (fs:=[(0,zux),(1,z16),(2,z16),(3,z3m),(11,z3m)]) rfl h
 obtain ⟨x,s,x1,x2⟩:=half_ex (hf (3,z3m) (by simp))
 obtain ⟨y,t,y1,y2⟩:=half_ex (hf (11,z3m) (by simp))
 obtain ⟨hb,h0⟩:=z14l rfl (hf (0,zux) (by simp))
 obtain ⟨f,h1,f1,f2⟩:=z29 (k:=.i64) rfl (hf (1,z16) (by simp))
 obtain ⟨o,h2,_⟩:=z29 (k:=.i64) rfl (hf (2,z16) (by simp))
 refine ⟨⟨hb,f,o,x,s,y,t⟩,⟨x1,y1⟩,⟨f1,f2⟩,?_⟩
 have hl:qs.length=19:=hl
 have e0:(qs.drop 0).take 1=[.bool hb]:=h0
 have e1:(qs.drop 1).take 1=[.int .i64 f]:=h1
 have e2:(qs.drop 2).take 1=[.int .i64 o]:=h2
 have e3:(qs.drop 3).take 8=x.cells s:=x2
 have e4:(qs.drop 11).take 8=y.cells t:=y2
 match qs,hl with
 | c0::c1::c2::r,hl =>
  cases (show [c0]=_ from e0); cases (show [c1]=_ from e1); cases (show [c2]=_ from e2)
  have e3:r.take 8=x.cells s:=e3
  have e4:(r.drop 8).take 8=y.cells t:=e4
  have hr:(r.drop 8).length≤8:=by simp at hl ⊢; omega
  rw [List.take_of_length_le hr] at e4
  unfold FootI.cells
  rw [← e3,← e4,List.take_append_drop]
def TabI.argL (T:TabI):List PV:=.str T.nm::.int .i64 T.t.a::.int .i64 T.t.o::.bool T.t.d::.str T.t.s::.sl 4 (T.rows.map Tr.v)::T.F.cells
theorem argL_bulk (T:TabI):T.t.s.length+pbulkL (T.rows.map Tr.v)+T.F.p.length+T.F.q.length≤pbulkL T.argL:=by
 obtain ⟨nm,t,rows,h,f,o,a,p,b,q⟩:=T
 generalize hz:pbulkL (rows.map Tr.v)=z
 have e:pbulkL (TabI.argL ⟨nm,t,rows,h,f,o,a,p,b,q⟩)=nm.length+1+(1+(1+(1+(t.s.length+1+(pbulkL (rows.map Tr.v)+1+(1+(1+(1+(1+(1+(1+(1+(1+(1+(1+(p.length+1+(1+(1+(1+(1+(1+(1+(1+(q.length+1+0)))))))))))))))))))))))):=rfl
 rw [e,hz]
 show t.s.length+z+p.length+q.length≤_
 omega
theorem table_ex {n:Nat} {qs:List PV} (h:inTy EE (n+5) zq qs) (hb:pbulkL qs≤1048576) :
  ∃ T:TabI,T.F.in64∧In64 T.F.f∧T.Small∧T.rows.length≤2000000∧qs=T.argL:=by
 obtain ⟨hl,hf⟩:=z4n (fs:=[(0,z9e),(1,zp),(5,zgs),(6,z1q)]) rfl h
 obtain ⟨nm,h0,_⟩:=z12q rfl (hf (0,z9e) (by simp))
 obtain ⟨t,ht⟩:=tran_ex (hf (1,zp) (by simp))
 obtain ⟨l,h5,_,hr⟩:=z1ld (e:=zp) rfl (hf (5,zgs) (by simp))
 obtain ⟨rows,hrows⟩:=z1hf l hr
 obtain ⟨F,f1,f2,f3⟩:=foot_ex (hf (6,z1q) (by simp))
 have hl:qs.length=25:=hl
 have e0:(qs.drop 0).take 1=[.str nm]:=h0
 have e1:(qs.drop 1).take 4=[.int .i64 t.a,.int .i64 t.o,.bool t.d,.str t.s]:=ht
 have e5:(qs.drop 5).take 1=[.sl 4 l]:=h5
 have e6:(qs.drop 6).take 19=F.cells:=f3
 subst hrows
 have key:qs=TabI.argL ⟨nm,t,rows,F⟩:=by
  match qs,hl with
  | c0::c1::c2::c3::c4::c5::r,hl =>
   cases (show [c0]=_ from e0); cases (show [c1,c2,c3,c4]=_ from e1); cases (show [c5]=_ from e5)
   have e6:r.take 19=F.cells:=e6
   rw [List.take_of_length_le (by simp at hl; omega)] at e6
   rw [e6]; rfl
 have hb2:=argL_bulk ⟨nm,t,rows,F⟩
 rw [← key] at hb2
 have hb2:t.s.length+pbulkL (rows.map Tr.v)+F.p.length+F.q.length≤pbulkL qs:=hb2
 clear e0 e1 e5 e6 hf hr h hl h0 h5 ht
 obtain ⟨b1,b2⟩:=z1hy rows
 generalize pbulkL (rows.map Tr.v)=z at hb2 b1 b2
 have k1:t.s.length≤1048576:=by omega
 have k2:F.p.length≤1048576:=by omega
 have k3:F.q.length≤1048576:=by omega
 have k4:rows.length≤2000000:=by omega
 have k5:∀ r∈rows,r.s.length≤1048576:=fun r hr=>by have:=b2 r hr; omega
 exact ⟨⟨nm,t,rows,F⟩,f1,f2,⟨k1,k5,k2,k3⟩,k4,key⟩
end Dv

set_option maxRecDepth 20000
namespace Dv
open Go
theorem z1ec:∀ (f w m:Nat),w<10 ^ f→m≤f→digC (f+1) w m=digC f w m
 | 0,w,m,hw,hm=>by
  have h0:w=0:=by simpa using hw
  have h1:m=0:=by omega
  subst h0; subst h1; rfl
 | f+1,w,m,hw,hm=>by
  have hpp:10 ^ (f+1)=10 ^ f*10:=Nat.pow_succ ..
  rw [digC]; conv=>rhs; rw [digC]
  by_cases h:w=0∧m=0
  ·rw [if_pos h,if_pos h]
  ·rw [if_neg h,if_neg h,z1ec f (w / 10) (m-1) (by omega) (by omega)]
theorem z1b7 (w m:Nat):∀ (g f:Nat),w<10 ^ f→m≤f→digC (f+g) w m=digC f w m
 | 0,f,_,_=>rfl
 | g+1,f,h1,h2=>by
  have hp:10 ^ f≤10 ^ (f+g):=Nat.pow_le_pow_right (by omega) (by omega)
  rw [show f+(g+1)=(f+g)+1 by omega,z1ec _ _ _ (by omega) (by omega),z1b7 w m g f h1 h2]
def lowD:Nat→Nat→List UInt8
 | 0,_=>[]
 | k+1,u=>lowD k (u / 10)++[dgN u]
theorem z1ir:∀ k u,(lowD k u).length=k
 | 0,_=>rfl
 | k+1,u=>by simp [lowD,z1ir k]
def dotS (sc u:Nat):List UInt8:=if sc=0 then [] else 46::lowD sc u
theorem z1b6 (u sc:Nat):u / 10 / 10 ^ sc=u / 10 ^ (sc+1):=by
 rw [Nat.div_div_eq_div_mul,Nat.pow_succ,Nat.mul_comm]
theorem z1cm:∀ (sc f u:Nat),digC (f+sc) u (sc+1)=digC f (u / 10 ^ sc) 1++lowD sc u
 | 0,f,u=>by simp [lowD]
 | sc+1,f,u=>by
  rw [show f+(sc+1)=(f+sc)+1 by omega,digC,if_neg (by omega),show sc+1+1-1=sc+1 by omega,z1cm sc f (u / 10),z1b6,lowD,List.append_assoc]
theorem zzr (f:Nat):digC f 0 0=[]:=by
 cases f with
 | zero=>rfl
 | succ f=>rw [digC,if_pos ⟨rfl,rfl⟩]
theorem z1cn:∀ (sc f u:Nat),sc<(digC (f+sc) u 1).length→digC (f+sc) u 1=digC f (u / 10 ^ sc) 1++lowD sc u
 | 0,f,u,_=>by simp [lowD]
 | sc+1,f,u,h=>by
  have e:digC (f+(sc+1)) u 1=digC (f+sc) (u / 10) 0++[dgN u]:=by
   rw [show f+(sc+1)=(f+sc)+1 by omega,digC,if_neg (by omega)]
  rw [e,List.length_append] at h
  have hw:1≤u / 10:=by
   rcases Nat.eq_zero_or_pos (u / 10) with h0 | h0
   ·rw [h0,zzr] at h; simp at h
   ·exact h0
  rw [← z1b8 _ _ hw] at h e
  rw [e,z1cn sc f (u / 10) (by simpa using h),z1b6,lowD,List.append_assoc]
theorem z1jk:∀ (f u m:Nat),digC f u m=digC f u (digC f u m).length
 | 0,_,_=>rfl
 | f+1,u,m=>by
  by_cases h:u=0∧m=0
  ·obtain ⟨rfl,rfl⟩:=h
   rw [zzr]; exact (zzr _).symm
  ·have e:digC (f+1) u m=digC f (u / 10) (m-1)++[dgN u]:=by rw [digC,if_neg h]
   rw [e]
   conv=>rhs; rw [digC]
   rw [if_neg (by simp),List.length_append,show (digC f (u / 10) (m-1)).length+[dgN u].length-1=(digC f (u / 10) (m-1)).length by simp,← z1jk f (u / 10) (m-1)]
theorem z1jj:∀ (f u m:Nat),(digC f u m).length≤m→m<f→48::digC f u m=digC f u (m+1)
 | 0,_,_,_,h=>by omega
 | f+1,u,m,hl,hm=>by
  by_cases h:u=0∧m=0
  ·obtain ⟨rfl,rfl⟩:=h
   rw [zzr,digC,if_neg (by omega),show 0+1-1=0 from rfl,show 0 / 10=0 from rfl,zzr]; rfl
  ·have e:digC (f+1) u m=digC f (u / 10) (m-1)++[dgN u]:=by rw [digC,if_neg h]
   rw [e,List.length_append] at hl
   have hl:(digC f (u / 10) (m-1)).length+1≤m:=hl
   rw [e]
   conv=>rhs; rw [digC]
   have:=z1jj f (u / 10) (m-1) (by omega) (by omega)
   rw [if_neg (by omega),show m+1-1=m-1+1 by omega,← this]; rfl
section
variable (sg:List UInt8) (N:Int) (sc:Nat)
theorem z1jg {u k d:Nat} (suf:List UInt8) (hu:u<18446744073709551616) (hk:k+1+suf.length=32) (hd:d≤100) :
  zay (u:Int) sg ((k+1:Nat):Int) (d:Int) N (sc:Int) ((List.replicate (k+1) (0:UInt8)++suf).map byteV) 32 =
   z6u ((u / 10:Nat):Int) sg (k:Int) ((d+1:Nat):Int) N (sc:Int) ((List.replicate k (0:UInt8)++dgN u::suf).map byteV) 32:=by
 have e1:((k+1:Nat):Int)-1=(k:Int):=by omega
 have e2:Int.tdiv (u:Int) 10=((u / 10:Nat):Int):=by rw [Int.tdiv_eq_ediv_of_nonneg (by omega)]; rfl
 rw [z15c,e1,w64 (n:=(k:Int)) (by omega) (by omega),c_inT (by omega),Int.toNat_natCast,z1b9,z1fo (by simp; omega),z12z]
 simp only [oB]
 rw [e2,wu64 (by omega) (by omega),w64 (n:=(d:Int)+1) (by omega) (by omega),show (d:Int)+1=((d+1:Nat):Int) by omega]
theorem ddot_s {u k d:Nat} (suf:List UInt8) (hk:k+1+suf.length=32) :
  zpd (u:Int) sg ((k+1:Nat):Int) (d:Int) N (sc:Int) ((List.replicate (k+1) (0:UInt8)++suf).map byteV) 32 =
   zay (u:Int) sg (k:Int) (d:Int) N (sc:Int) ((List.replicate k (0:UInt8)++46::suf).map byteV) 32:=by
 have e1:((k+1:Nat):Int)-1=(k:Int):=by omega
 rw [z15d,e1,w64 (n:=(k:Int)) (by omega) (by omega),c_inT (by omega),Int.toNat_natCast,show (PV.int .u8 46)=byteV 46 from rfl,z1fo (by simp; omega),z12z]
 simp only [oB]
theorem dfin_s (hsg:sg.length≤1) {k d:Nat} (suf:List UInt8) (hk:k+suf.length=32) (hd:sc<d) :
  z6u (0:Int) sg (k:Int) (d:Int) N (sc:Int) ((List.replicate k (0:UInt8)++suf).map byteV) 32=some (.str (sg++suf)):=by
 rw [zeb,c_ltF (by omega),c_leF (by omega),z11e (by simp; omega),z11e rfl,decide_eq_true (by omega),cond_true]
 have:List.take (32-((k:Nat):Int).toNat) (List.drop ((k:Nat):Int).toNat ((List.replicate k (0:UInt8)++suf).map byteV))=suf.map byteV:=by
  rw [Int.toNat_natCast,← List.map_drop,List.drop_left' (by simp)]
  apply List.take_of_length_le
  simp; omega
 rw [this,z75]
 simp only [oB]
 rw [z9 (by omega)]
 rfl
theorem dhi_s (hsg:sg.length≤1):∀ (k u d:Nat) (suf:List UInt8),u<10 ^ k→u<18446744073709551616→k+suf.length=32→sc<d→d+k≤60 →
  z6u (u:Int) sg (k:Int) (d:Int) N (sc:Int) ((List.replicate k (0:UInt8)++suf).map byteV) 32=some (.str (sg++(digC k u 0++suf)))
 | 0,u,d,suf,hu,_,hk,hd,_=>by
  have h0:u=0:=by simpa using hu
  subst h0
  exact dfin_s sg N sc hsg suf hk hd
 | k+1,u,d,suf,hu,hu2,hk,hd,hdk=>by
  by_cases h:u=0
  ·subst h
   rw [zzr]
   exact dfin_s sg N sc hsg suf hk hd
  ·have hpp:10 ^ (k+1)=10 ^ k*10:=Nat.pow_succ ..
   rw [zeb,c_ltT (by omega),zhq,c_eqF (by omega),z1jg sg N sc suf hu2 hk (by omega),dhi_s hsg k (u / 10) (d+1) (dgN u::suf) (by omega) (by omega) (by simp; omega) (by omega) (by omega),digC,if_neg (by omega),Nat.zero_sub]
   simp
theorem dlo_s (hsg:sg.length≤1) (hsc:sc≤9):∀ (r d u:Nat) (suf:List UInt8),d+r=sc→u<18446744073709551616→suf.length=d →
  z6u (u:Int) sg ((32-d:Nat):Int) (d:Int) N (sc:Int) ((List.replicate (32-d) (0:UInt8)++suf).map byteV) 32 =
   some (.str (sg++(digC 20 (u / 10 ^ r) 1++((if sc=0 then [] else [46])++(lowD r u++suf)))))
 | 0,d,u,suf,hd,hu,hs=>by
  have hw:u / 10<10 ^ 19:=Nat.lt_of_lt_of_le (show u / 10<1844674407370955162 by omega) (by decide)
  have e20:digC 20 u 1=digC 19 (u / 10) 0++[dgN u]:=by rw [digC,if_neg (by omega)]
  have h5:z6u (u:Int) sg ((32-d:Nat):Int) (d:Int) N (sc:Int) ((List.replicate (32-d) (0:UInt8)++suf).map byteV) 32 =
    zf6 (u:Int) sg ((32-d:Nat):Int) (d:Int) N (sc:Int) ((List.replicate (32-d) (0:UInt8)++suf).map byteV) 32:=by
   rw [zeb]
   by_cases h:0<(u:Int)
   ·rw [c_ltT h]
   ·rw [c_ltF h,c_leT (by omega)]
  rw [h5,zhq,c_eqT (by omega)]
  by_cases h0:d=0
  ·subst h0
   have hsc0:sc=0:=by omega
   have hs0:suf=[]:=List.eq_nil_of_length_eq_zero hs
   subst hs0
   rw [c_ltF (by omega),show (32-0:Nat)=31+1 from rfl,z1jg sg N sc [] hu (by simp) (by omega),dhi_s sg N sc hsg 31 (u / 10) 1 [dgN u] (Nat.lt_of_lt_of_le hw (by decide)) (by omega) (by simp) (by omega) (by omega),
    z1b7 (u / 10) 0 12 19 hw (by omega),if_pos hsc0,Nat.pow_zero,Nat.div_one,e20]
   simp [lowD]
  ·obtain ⟨k,hk⟩:∃ k,32-d=k+1+1:=⟨30-d,by omega⟩
   rw [c_ltT (by omega),hk,ddot_s sg N sc suf (by omega),z1jg sg N sc (46::suf) hu (by simp; omega) (by omega),dhi_s sg N sc hsg k (u / 10) (d+1) (dgN u::46::suf) (Nat.lt_of_lt_of_le hw (Nat.pow_le_pow_right (by omega) (by omega))) (by omega) (by simp; omega) (by omega) (by omega),
    show k=19+(k-19) by omega,z1b7 (u / 10) 0 (k-19) 19 hw (by omega),if_neg (by omega),Nat.pow_zero,Nat.div_one,e20]
   simp [lowD]
 | r+1,d,u,suf,hd,hu,hs=>by
  obtain ⟨k,hk⟩:∃ k,32-d=k+1:=⟨31-d,by omega⟩
  have h5:z6u (u:Int) sg ((32-d:Nat):Int) (d:Int) N (sc:Int) ((List.replicate (32-d) (0:UInt8)++suf).map byteV) 32 =
    zf6 (u:Int) sg ((32-d:Nat):Int) (d:Int) N (sc:Int) ((List.replicate (32-d) (0:UInt8)++suf).map byteV) 32:=by
   rw [zeb]
   by_cases h:0<(u:Int)
   ·rw [c_ltT h]
   ·rw [c_ltF h,c_leT (by omega)]
  have ih:=dlo_s hsg hsc r (d+1) (u / 10) (dgN u::suf) (by omega) (by omega) (by simp; omega)
  rw [show 32-(d+1)=k by omega] at ih
  rw [h5,zhq,c_eqF (by omega),hk,z1jg sg N sc suf hu (by omega) (by omega),ih,z1b6,lowD]
  simp
end
def decT (N:Int) (sc:Nat):List UInt8:=(if N<0 then [45] else [])++(digC 20 (N.natAbs / 10 ^ sc) 1++dotS sc N.natAbs)
theorem dtext_s {N sc:Int} (h1:In64 N) (h2:0≤sc∧sc≤9):zsp N sc=some (.str (decT N sc.toNat)):=by
 unfold In64 at h1
 have go:∀ (sg:List UInt8) (u k:Nat),sg.length≤1→u<18446744073709551616→k≤9→zlx (u:Int) sg N (k:Int)=some (.str (sg++(digC 20 (u / 10 ^ k) 1++dotS k u))):=by
  intro sg u k hsg hu hk
  have:=dlo_s sg N k hsg hk k 0 u [] (by omega) hu rfl
  rw [z16y]
  refine Eq.trans this ?_
  unfold dotS
  by_cases h:k=0
  ·subst h; simp [lowD]
  ·rw [if_neg h,if_neg h]; simp
 obtain ⟨k,rfl⟩:=Int.eq_ofNat_of_zero_le h2.1
 rw [z15b,z117,c_leT h2.1,show leB ((k:Nat):Int) 9=true from decide_eq_true h2.2]
 simp only [oB,ze,Bool.not_true,cond_false,Int.toNat_natCast]
 unfold decT
 by_cases ha:N<0
 ·have e:IntKind.u64.wrap (0-IntKind.u64.wrap N)=((N.natAbs:Nat):Int):=by
   simp only [IntKind.wrap,IntKind.bits,IntKind.signed]
   simp
   omega
  rw [c_ltT ha,e,go _ _ _ (by simp) (by omega) (by omega),if_pos ha]
 ·have e:IntKind.u64.wrap N=((N.natAbs:Nat):Int):=by rw [wu64 (by omega) (by omega)]; omega
  rw [c_ltF ha,e,go _ _ _ (by simp) (by omega) (by omega),if_neg ha]
theorem rdec_loop (sg:List UInt8) (hsg:sg.length≤1) (N:Int) (sc:Nat) (hsc:sc≤9) (u:Nat):∀ (n:Nat) (s:List UInt8),sc+1-s.length≤n→1≤s.length→s.length≤21→s=digC 20 u s.length→(s.length≤sc+1∨s=digC 20 u 1) →
  z2k s sg N (sc:Int)=some (.str (sg++(digC (20-sc) (u / 10 ^ sc) 1++dotS sc u))):=by
 intro n
 induction n with
 | zero =>
  intro s hn h1 h2 h3 h4
  have key:s=digC (20-sc) (u / 10 ^ sc) 1++lowD sc u:=by
   have e20:(20:Nat)=(20-sc)+sc:=by omega
   rcases h4 with h4 | h4
   ·rw [show s.length=sc+1 by omega,e20,z1cm] at h3
    exact h3
   ·have hl:sc<(digC 20 u 1).length:=by rw [← h4]; omega
    rw [e20] at h4 hl
    rw [z1cn sc (20-sc) u hl] at h4
    exact h4
  have hll:=z1ir sc u
  generalize digC (20-sc) (u / 10 ^ sc) 1=A at key ⊢
  unfold dotS
  generalize lowD sc u=B at key hll ⊢
  subst key
  rw [List.length_append] at h2 hn
  have ew:IntKind.i64.wrap ((((A++B).length:Nat):Int)-(sc:Int))=((A.length:Nat):Int):=by rw [List.length_append,w64 (by omega) (by omega)]; omega
  rw [zb5,c_leF (by simp; omega),ew,z12i (by omega) (by simp; omega),Int.toNat_natCast,List.take_left]
  simp only [oB]
  rw [z9 (by omega)]
  simp only [oB]
  by_cases h0:sc=0
  ·rw [c_ltF (by omega),if_pos h0]; simp
  ·rw [c_ltT (by omega),if_neg h0,z9 (by simp; omega)]
   simp only [oB]
   rw [zlv (by omega) (by simp; omega),Int.toNat_natCast,List.drop_left]
   simp only [oB]
   rw [z9 (by simp; omega)]
   simp
 | succ n ih =>
  intro s hn h1 h2 h3 h4
  by_cases h:s.length≤sc
  ·have hp:48::s=digC 20 u (s.length+1):=by
    have:=z1jj 20 u s.length (by rw [← h3]; exact Nat.le_refl _) (by omega)
    rw [← h3] at this
    exact this
   rw [zb5,c_leT (by omega),z9 (by simp; omega)]
   simp only [oB]
   exact ih (48::s) (by simp; omega) (by simp) (by simp; omega) hp (.inl (by simp; omega))
  ·exact ih s (by omega) h1 h2 h3 h4
theorem rdec_s {N sc:Int} (h1:In64 N) (h2:0≤sc∧sc≤9):z7q N sc=some (.str (decT N sc.toNat)):=by
 unfold In64 at h1
 obtain ⟨k,rfl⟩:=Int.eq_ofNat_of_zero_le h2.1
 have fu:digC (20-k) (N.natAbs / 10 ^ k) 1=digC 20 (N.natAbs / 10 ^ k) 1:=by
  have hw:N.natAbs / 10 ^ k<10 ^ (20-k):=by
   rw [Nat.div_lt_iff_lt_mul (Nat.pow_pos (by omega)),← Nat.pow_add,show 20-k+k=20 by omega]
   exact Nat.lt_of_le_of_lt (show N.natAbs≤9223372036854775808 by omega) (by decide)
  have:=z1b7 (N.natAbs / 10 ^ k) 1 k (20-k) hw (by omega)
  rw [show 20-k+k=20 by omega] at this
  exact this.symm
 have hdl:1≤(digN N.natAbs).length:=by
  unfold digN; rw [digC,if_neg (by omega)]; simp
 have hdl2:=z4w N.natAbs
 have loop:∀ sg:List UInt8,sg.length≤1→z2k (digN N.natAbs) sg N (k:Int)=some (.str (sg++(digC 20 (N.natAbs / 10 ^ k) 1++dotS k N.natAbs))):=by
  intro sg hsg
  have:=rdec_loop sg hsg N k (by omega) N.natAbs (k+1-(digN N.natAbs).length) (digN N.natAbs) (Nat.le_refl _) hdl (by omega) (z1jk 20 N.natAbs 1) (.inr rfl)
  rw [fu] at this
  exact this
 rw [zfe,zdf,c_leT h2.1,show leB ((k:Nat):Int) 9=true from decide_eq_true h2.2,z5c h1.1 h1.2]
 simp only [oB,ze,Bool.not_true,cond_false,Int.toNat_natCast,zg]
 unfold decT decI
 by_cases ha:N<0
 ·have e:(-N).toNat=N.natAbs:=by omega
  rw [c_ltT ha,if_pos ha,if_pos ha,zlv (by omega) (by simp; omega)]
  simp only [oB]
  rw [show List.drop (Int.toNat 1) (45::digN (-N).toNat)=digN (-N).toNat from rfl,e,loop _ (by simp)]
 ·have e:N.toNat=N.natAbs:=by omega
  rw [c_ltF ha,if_neg ha,if_neg ha,e,loop _ (by simp)]
theorem dint_s {N:Int} (h1:In64 N):zsp N 0=zi N:=by
 have h:=h1
 unfold In64 at h
 rw [dtext_s h1 (by omega),z5c h.1 h.2]
 unfold decT decI dotS digN
 by_cases ha:N<0
 ·rw [if_pos ha,if_pos ha,show (-N).toNat=N.natAbs by omega]; simp
 ·rw [if_neg ha,if_neg ha,show N.toNat=N.natAbs by omega]; simp
end Dv

set_option maxRecDepth 20000
namespace Dv
open Go
structure ValI where
 k:Int
 b:Bool
 n:Int
 sc:Int
 s:List UInt8
 di:Int
 dd:Int
 si:Int
 su:Int
 pi:Int
 pm:Int
 pd:Int
 pu:Int
noncomputable abbrev z1h8 (V:ValI):Option PV:=zbl V.k V.b V.n V.sc V.s V.di V.dd V.si V.su V.pi V.pm V.pd V.pu
noncomputable abbrev z19t (V:ValI):Option PV:=z40 V.k V.b V.n V.sc V.s V.di V.dd V.si V.su V.pi V.pm V.pd V.pu
theorem rv_s (V:ValI) (hs:In64 V.su) (hp:In64 V.pu):∃ r,z1h8 V=some (.bool r)∧z19t V=some (.bool r):=by
 have es:∀ x:Int,eqB x x=true:=fun _=>decide_eq_true rfl
 have eS:∀ x:List UInt8,eqS x x=true:=fun _=>decide_eq_true rfl
 have eb:∀ x:Bool,(x == x)=true:=fun x=>by cases x <;> rfl
 obtain ⟨k,b,n,sc,s,di,dd,si,su,pi,pm,pd,pu⟩:=V
 unfold z1h8 z19t
 simp only at hs hp ⊢
 rw [zx6,zhs]
 by_cases h0:k=0
 ·have b0:eqB k 0=true:=decide_eq_true h0
  simp only [b0,cond_true,es,eS,eb,Bool.true_and]
  exact ⟨_,rfl,rfl⟩
 ·have b0:eqB k 0=false:=decide_eq_false h0
  simp only [b0,cond_false]
  by_cases h1:k=1
  ·have b1:eqB k 1=true:=decide_eq_true h1
   simp only [b1,cond_true,es,eS,eb,Bool.true_and]
   exact ⟨_,rfl,rfl⟩
  ·have b1:eqB k 1=false:=decide_eq_false h1
   simp only [b1,cond_false]
   by_cases h2:k=2
   ·have b2:eqB k 2=true:=decide_eq_true h2
    simp only [b2,cond_true,es,eS,eb,Bool.true_and]
    exact ⟨_,rfl,rfl⟩
   ·have b2:eqB k 2=false:=decide_eq_false h2
    simp only [b2,cond_false]
    by_cases h3:k=3
    ·have b3:eqB k 3=true:=decide_eq_true h3
     simp only [b3,cond_true,es,eS,eb,Bool.true_and,zdt]
     cases leB 0 sc with
     | false=>exact ⟨_,rfl,rfl⟩
     | true =>
      cases leB sc 9 with
      | false=>exact ⟨_,rfl,rfl⟩
      | true=>simp only [cond_true,es,eS,eb,Bool.true_and]; exact ⟨_,rfl,rfl⟩
    ·have b3:eqB k 3=false:=decide_eq_false h3
     simp only [b3,cond_false]
     by_cases h4:k=4
     ·have b4:eqB k 4=true:=decide_eq_true h4
      simp only [b4,cond_true,es,eS,eb,Bool.true_and]
      cases leB ((s.length:Nat):Int) 2048 with
      | false=>exact ⟨_,rfl,rfl⟩
      | true=>simp only [cond_true]; exact ⟨_,rfl,rfl⟩
     ·have b4:eqB k 4=false:=decide_eq_false h4
      simp only [b4,cond_false]
      by_cases h5:k=5
      ·have b5:eqB k 5=true:=decide_eq_true h5
       obtain ⟨r,r1,r2,_⟩:=z1jp di dd
       simp only [b5,cond_true]
       rw [r1,r2]
       simp only [oB,ze,es,eS,eb,Bool.true_and]
       cases r <;> exact ⟨_,rfl,rfl⟩
      ·have b5:eqB k 5=false:=decide_eq_false h5
       simp only [b5,cond_false]
       obtain ⟨r,r1,r2,_⟩:=z12l si hs
       by_cases h6:k=6
       ·have b6:eqB k 6=true:=decide_eq_true h6
        simp only [b6,cond_true]
        rw [zcp,z6e,r1,r2]
        simp only [oB,ze,es,eS,eb,Bool.true_and]
        cases r <;> exact ⟨_,rfl,rfl⟩
       ·have b6:eqB k 6=false:=decide_eq_false h6
        simp only [b6,cond_false]
        by_cases h7:k=7
        ·have b7:eqB k 7=true:=decide_eq_true h7
         simp only [b7,cond_true]
         rw [zcp,z6e,r1,r2]
         simp only [oB,ze,es,eS,eb,Bool.true_and]
         cases r <;> exact ⟨_,rfl,rfl⟩
        ·have b7:eqB k 7=false:=decide_eq_false h7
         simp only [b7,cond_false]
         rw [zn7,zds,right_s hp.1 hp.2,z1hv]
         simp only [oB,ze,es,eS,eb,Bool.true_and]
         cases eqB k 8 <;> cases spanR pi pm pd pu <;> exact ⟨_,rfl,rfl⟩
theorem z1kn (i m d u a b c:Int):∃ s e,spanV i m d u a b c=.tuple [.str s,.int .i64 e]:=by
 unfold spanV
 split
 ·split <;> exact ⟨_,_,rfl⟩
 ·exact ⟨_,_,rfl⟩
theorem dec_both {N:Int} (h1:In64 N) (sc:Int):∃ s,zsp N sc=some (.str s)∧z7q N sc=some (.str s):=by
 by_cases h:0≤sc∧sc≤9
 ·exact ⟨_,dtext_s h1 h,rdec_s h1 h⟩
 ·refine ⟨[],?_,?_⟩
  ·rw [z15b,z117]
   by_cases g:0≤sc
   ·rw [c_leT g,show leB sc 9=false from decide_eq_false (by omega)]; rfl
   ·rw [c_leF g]; rfl
  ·rw [zfe,zdf]
   by_cases g:0≤sc
   ·rw [c_leT g,show leB sc 9=false from decide_eq_false (by omega)]; rfl
   ·rw [c_leF g]; rfl
noncomputable abbrev txS (V:ValI) (T:TabI) (a b c:Int):Option PV:=zzd V.k V.b V.n V.sc V.s V.di V.dd V.si V.su V.pi V.pm V.pd V.pu T.nm T.t.a T.t.o T.t.d T.t.s (T.rows.map Tr.v) T.F.h T.F.f T.F.o T.F.a.m T.F.a.k T.F.a.wd T.F.a.n T.F.a.sec T.F.a.kd T.F.a.save T.F.p T.F.b.m T.F.b.k T.F.b.wd T.F.b.n T.F.b.sec T.F.b.kd T.F.b.save T.F.q a b c
noncomputable abbrev txR (V:ValI) (T:TabI) (a b c:Int):Option PV:=za8 V.k V.b V.n V.sc V.s V.di V.dd V.si V.su V.pi V.pm V.pd V.pu T.nm T.t.a T.t.o T.t.d T.t.s (T.rows.map Tr.v) T.F.h T.F.f T.F.o T.F.a.m T.F.a.k T.F.a.wd T.F.a.n T.F.a.sec T.F.a.kd T.F.a.save T.F.p T.F.b.m T.F.b.k T.F.b.wd T.F.b.n T.F.b.sec T.F.b.kd T.F.b.save T.F.q a b c
theorem value_s (V:ValI) (hn:In64 V.n) (hs:In64 V.su) (hp:In64 V.pu) (T:TabI) (hF:T.F.in64) (hf:In64 T.F.f) (hS:T.Small) (a b c:Int) :
  ∃ s e,txS V T a b c=some (.tuple [.str s,.int .i64 e])∧txR V T a b c=some (.tuple [.str s,.int .i64 e]):=by
 obtain ⟨r,r1,r2⟩:=rv_s V hs hp
 obtain ⟨z,z1,z2,_⟩:=z18q T hF hf
 unfold z1h8 at r1
 unfold z19t at r2
 unfold ztn at z1
 unfold zot at z2
 have c2:zbk=some (.tuple [.str [],.int .i64 1]):=z11v
 have d2:z3a=some (.tuple [.str [],.int .i64 1]):=zjh
 unfold txS txR
 rw [z19n,zn9,r1,r2]
 simp only [oB,ze]
 cases r with
 | false=>exact ⟨[],1,c2,d2⟩
 | true =>
 simp only [Bool.not_true,cond_false]
 rw [zuz,zs9]
 simp only [oB,ze]
 cases styleR a b c with
 | false=>exact ⟨[],1,c2,d2⟩
 | true =>
 simp only [Bool.not_true,cond_false]
 rw [z1,z2]
 simp only [oB,ze]
 cases z with
 | false=>exact ⟨[],1,c2,d2⟩
 | true =>
 simp only [Bool.not_true,cond_false]
 rw [z11u,zjg]
 by_cases h0:V.k=0
 ·rw [show eqB V.k 0=true from decide_eq_true h0]; exact ⟨_,_,rfl,rfl⟩
 rw [show eqB V.k 0=false from decide_eq_false h0]
 simp only [cond_false]
 by_cases h1:V.k=1
 ·rw [show eqB V.k 1=true from decide_eq_true h1,z19k]
  simp only [cond_true]
  cases V.b with
  | false=>exact ⟨[102,97,108,115,101],0,rfl,rfl⟩
  | true=>exact ⟨[116,114,117,101],0,rfl,rfl⟩
 rw [show eqB V.k 1=false from decide_eq_false h1]
 simp only [cond_false]
 by_cases h2:V.k=2
 ·have h:=hn
  unfold In64 at h
  rw [show eqB V.k 2=true from decide_eq_true h2,dint_s hn,z5c h.1 h.2]
  exact ⟨_,_,rfl,rfl⟩
 rw [show eqB V.k 2=false from decide_eq_false h2]
 simp only [cond_false]
 by_cases h3:V.k=3
 ·obtain ⟨s,s1,s2⟩:=dec_both hn V.sc
  rw [show eqB V.k 3=true from decide_eq_true h3,s1,s2]
  exact ⟨_,_,rfl,rfl⟩
 rw [show eqB V.k 3=false from decide_eq_false h3]
 simp only [cond_false]
 by_cases h4:V.k=4
 ·rw [show eqB V.k 4=true from decide_eq_true h4]
  exact ⟨_,_,rfl,rfl⟩
 rw [show eqB V.k 4=false from decide_eq_false h4]
 simp only [cond_false]
 by_cases h5:V.k=5
 ·obtain ⟨s,e,s1,s2⟩:=Date_s V.di V.dd a b c
  rw [show eqB V.k 5=true from decide_eq_true h5,s1,s2]
  exact ⟨_,_,rfl,rfl⟩
 rw [show eqB V.k 5=false from decide_eq_false h5]
 simp only [cond_false]
 by_cases h6:V.k=6
 ·obtain ⟨s,e,s1,s2⟩:=Stamp_s V.si hs a b c
  rw [show eqB V.k 6=true from decide_eq_true h6,s1,s2]
  exact ⟨_,_,rfl,rfl⟩
 rw [show eqB V.k 6=false from decide_eq_false h6]
 simp only [cond_false]
 by_cases h7:V.k=7
 ·obtain ⟨s,e,s1,s2⟩:=tz_s T hF hf hS V.si hs a b c
  unfold tzS at s1
  unfold tzR at s2
  rw [show eqB V.k 7=true from decide_eq_true h7,s1,s2]
  exact ⟨_,_,rfl,rfl⟩
 rw [show eqB V.k 7=false from decide_eq_false h7]
 simp only [cond_false]
 obtain ⟨s,e,hs⟩:=z1kn V.pi V.pm V.pd V.pu a b c
 have h:=hp
 unfold In64 at h
 rw [z1co h.1 h.2,rspan_s,hs]
 exact ⟨_,_,rfl,rfl⟩
theorem z1cs (V:ValI) (hn:In64 V.n) (hs:In64 V.su) (hp:In64 V.pu) (T:TabI) (hF:T.F.in64) (hf:In64 T.F.f) (hS:T.Small) (hl:T.rows.length≤2000000) (a b c:Int) :
  zb7 V.k V.b V.n V.sc V.s V.di V.dd V.si V.su V.pi V.pm V.pd V.pu T.nm T.t.a T.t.o T.t.d T.t.s (T.rows.map Tr.v) T.F.h T.F.f T.F.o T.F.a.m T.F.a.k T.F.a.wd T.F.a.n T.F.a.sec T.F.a.kd T.F.a.save T.F.p T.F.b.m T.F.b.k T.F.b.wd T.F.b.n T.F.b.sec T.F.b.kd T.F.b.save T.F.q a b c=some (.bool true):=by
 obtain ⟨s,e,h1,h2⟩:=value_s V hn hs hp T hF hf hS a b c
 obtain ⟨r,r1,r2⟩:=rv_s V hs hp
 unfold txS at h1
 unfold txR at h2
 unfold z1h8 at r1
 unfold z19t at r2
 rw [zhx,given_s T hl]
 simp only [oB]
 refine Eq.trans (congrArg (fun o=>Option.bind o _) (h1:_=_)) ?_
 simp only [oB]
 rw [h2]
 simp only [oB,tn0,tn1,zg,zl]
 rw [show eqS s s=true from decide_eq_true rfl,cond_true,c_eqT rfl,r1,r2,known19_s]
 cases r <;> rfl
def ValI.cells (V:ValI):List PV:=[.int .i64 V.k,.bool V.b,.int .i64 V.n,.int .i64 V.sc,.str V.s,.int .i64 V.di,.int .i64 V.dd,.int .i64 V.si,.int .i64 V.su,.int .i64 V.pi,.int .i64 V.pm,.int .i64 V.pd,.int .i64 V.pu]
theorem val_ex {n:Nat} {qs:List PV} (h:inTy EE (n+3) z59 qs):∃ V:ValI,In64 V.n∧In64 V.su∧In64 V.pu∧qs=V.cells:=by
 obtain ⟨hl,hf⟩:=z4n (fs:=[(0,zcj),(1,zux),(2,z16),(3,zcj),(4,z9e),(5,zld),(7,z5a),(9,z6n)]) rfl h
 match qs,(show qs.length=13 from hl) with
 | [c0,c1,c2,c3,c4,c5,c6,c7,c8,c9,c10,c11,c12],_ =>
  obtain ⟨_,hd⟩:=z4n (fs:=[(0,zcj),(1,z16)]) rfl (hf (5,zld) (by simp))
  obtain ⟨_,hs⟩:=z4n (fs:=[(0,zcj),(1,z16)]) rfl (hf (7,z5a) (by simp))
  obtain ⟨_,hp⟩:=z4n (fs:=[(0,zcj),(1,z16),(2,z16),(3,z16)]) rfl (hf (9,z6n) (by simp))
  obtain ⟨k,h0,_⟩:=z29 (k:=.i64) rfl (hf (0,zcj) (by simp))
  obtain ⟨b,h1⟩:=z14l rfl (hf (1,zux) (by simp))
  obtain ⟨m,h2,m1,m2⟩:=z29 (k:=.i64) rfl (hf (2,z16) (by simp))
  obtain ⟨sc,h3,_⟩:=z29 (k:=.i64) rfl (hf (3,zcj) (by simp))
  obtain ⟨s,h4,_⟩:=z12q rfl (hf (4,z9e) (by simp))
  obtain ⟨di,h5,_⟩:=z29 (k:=.i64) rfl (hd (0,zcj) (by simp))
  obtain ⟨dd,h6,_⟩:=z29 (k:=.i64) rfl (hd (1,z16) (by simp))
  obtain ⟨si,h7,_⟩:=z29 (k:=.i64) rfl (hs (0,zcj) (by simp))
  obtain ⟨su,h8,s1,s2⟩:=z29 (k:=.i64) rfl (hs (1,z16) (by simp))
  obtain ⟨pi,h9,_⟩:=z29 (k:=.i64) rfl (hp (0,zcj) (by simp))
  obtain ⟨pm,h10,_⟩:=z29 (k:=.i64) rfl (hp (1,z16) (by simp))
  obtain ⟨pd,h11,_⟩:=z29 (k:=.i64) rfl (hp (2,z16) (by simp))
  obtain ⟨pu,h12,p1,p2⟩:=z29 (k:=.i64) rfl (hp (3,z16) (by simp))
  cases (show [c0]=_ from h0); cases (show [c1]=_ from h1); cases (show [c2]=_ from h2); cases (show [c3]=_ from h3); cases (show [c4]=_ from h4)
  cases (show [c5]=_ from h5); cases (show [c6]=_ from h6); cases (show [c7]=_ from h7); cases (show [c8]=_ from h8); cases (show [c9]=_ from h9)
  cases (show [c10]=_ from h10); cases (show [c11]=_ from h11); cases (show [c12]=_ from h12)
  exact ⟨⟨k,b,m,sc,s,di,dd,si,su,pi,pm,pd,pu⟩,⟨m1,m2⟩,⟨s1,s2⟩,⟨p1,p2⟩,rfl⟩
end Dv
