/- The seat's proofs. -/
import Derived.Test.YtpjebfbniheahaaGreatiQ1
import Derived.Test.YtpjebfbniheahaaGreatiP1
import Derived.Test.YtpjebfbniheahaaGreatiL3
set_option linter.unusedVariables false
set_option linter.unusedSimpArgs false
set_option maxRecDepth 20000
namespace Dv
open Go
theorem z142 (l:List (List UInt8)) (hl:l.length≤1000):∀ (r:List (List UInt8)) (i:Nat) (acc:List UInt8),l.drop i=r→i≤l.length→acc.length+totL r≤4000000 →
  zc8 (l.map PV.str) (l.length:Int) (i:Int) (acc.map byteV)=some (.str (acc++r.flatten))
 | [],i,acc,hr,hi,ht=>by
  have:=zor hr
  rw [z9u,c_ltF (by omega),z74]
  simp
 | s::r,i,acc,hr,hi,ht=>by
  obtain ⟨h1,h2,h3⟩:=zhh hr
  have e1:IntKind.i64.wrap ((i:Int)+1)=((i+1:Nat):Int):=by rw [w64 (by omega) (by omega)]; omega
  simp only [totL] at ht
  rw [z9u,c_ltT (by omega),rdI_n,zzo h2]
  simp only [oB,zn]
  rw [decide_eq_true (by omega),cond_true,Int.toNat_natCast,List.take_length,zde (by simp; omega)]
  simp only [oB]
  rw [e1,← List.map_append,z142 l hl r (i+1) (acc++s) h3 (by omega) (by simp; omega)]
  simp
theorem bjoin_s (l:List (List UInt8)) (hl:l.length≤1000) (ht:totL l≤4000000):zt (l.map PV.str)=some (.str l.flatten):=by
 rw [zwb,List.length_map]
 have:=z142 l hl l 0 [] rfl (by omega) (by simpa using ht)
 exact this
theorem bjoin3 {x y z:List UInt8} (h:x.length+y.length+z.length≤4000000):zt [.str x,.str y,.str z]=some (.str (x++y++z)):=by
 have:=bjoin_s [x,y,z] (by simp) (by simp only [totL]; omega)
 rw [show ([x,y,z]:List (List UInt8)).flatten=x++y++z by simp] at this
 exact this
theorem bjoin4 {x y z w:List UInt8} (h:x.length+y.length+z.length+w.length≤4000000):zt [.str x,.str y,.str z,.str w]=some (.str (x++y++z++w)):=by
 have:=bjoin_s [x,y,z,w] (by simp) (by simp only [totL]; omega)
 rw [show ([x,y,z,w]:List (List UInt8)).flatten=x++y++z++w by simp] at this
 exact this
theorem loc_bad (T:TabI) (i U:Int) {z r:Bool} (hz:zsf T=some (.bool z)) (hr:z3s i U=some (.bool r)) (h:(z&&r)=false):sLoc T i U=some (stV 0 0 1):=by
 unfold zsf at hz
 have o:sOff T i U=some ((⟨0,0,false,[]⟩:Tr).r 1):=by
  unfold sOff
  rw [zep,zl2,hz]
  cases z with
  | false=>rfl
  | true =>
   have:r=false:=by simpa using h
   subst this
   simp only [oB,ze,Bool.not_true,cond_false]
   rw [hr]; rfl
 unfold sOff at o
 unfold sLoc
 rw [zbu,o]
 rfl
theorem loc_inf (T:TabI) {i:Int} (U:Int) (hi:i≠0) (hz:zsf T=some (.bool true)) (hr:z3s i U=some (.bool true)):sLoc T i U=some (stV i U 0):=by
 unfold zsf at hz
 have o:sOff T i U=some ((⟨0,0,false,[]⟩:Tr).r 10):=by
  unfold sOff
  rw [zep,zl2,hz]
  simp only [oB,ze,Bool.not_true,cond_false]
  rw [hr]
  simp only [oB,ze,Bool.not_true,cond_false,zk]
  rw [c_not,c_eqT rfl,c_not,c_eqF hi]
  rfl
 unfold sOff at o
 unfold sLoc
 rw [zbu,o]
 simp only [oB]
 have k1:(((⟨0,0,false,[]⟩:Tr).r 10).tnth 1).toI=10:=rfl
 rw [k1,c_eqF (by omega),c_not,c_eqF hi]
 rfl
noncomputable abbrev tzS (T:TabI) (i U a b c:Int):Option PV:=z1bc i U T.nm T.t.a T.t.o T.t.d T.t.s (T.rows.map Tr.v) T.F.h T.F.f T.F.o T.F.a.m T.F.a.k T.F.a.wd T.F.a.n T.F.a.sec T.F.a.kd T.F.a.save T.F.p T.F.b.m T.F.b.k T.F.b.wd T.F.b.n T.F.b.sec T.F.b.kd T.F.b.save T.F.q a b c
noncomputable abbrev tzR (T:TabI) (i U a b c:Int):Option PV:=zdb i U T.nm T.t.a T.t.o T.t.d T.t.s (T.rows.map Tr.v) T.F.h T.F.f T.F.o T.F.a.m T.F.a.k T.F.a.wd T.F.a.n T.F.a.sec T.F.a.kd T.F.a.save T.F.p T.F.b.m T.F.b.k T.F.b.wd T.F.b.n T.F.b.sec T.F.b.kd T.F.b.save T.F.q a b c
structure TabI.Small (T:TabI):Prop where
 s:T.t.s.length≤1048576
 r:∀ r∈T.rows,r.s.length≤1048576
 p:T.F.p.length≤1048576
 q:T.F.q.length≤1048576
theorem tz_s (T:TabI) (hF:T.F.in64) (hf:In64 T.F.f) (hS:T.Small) (i:Int) {U:Int} (hU:In64 U) (a b c:Int) :
  ∃ s e,tzS T i U a b c=some (.tuple [.str s,.int .i64 e])∧tzR T i U a b c=some (.tuple [.str s,.int .i64 e]):=by
 obtain ⟨z,z1,z2,_⟩:=z1cn T hF hf
 obtain ⟨r,r1,r2,r3,_⟩:=z1db i hU
 have c2:z41=some (.tuple [.str [],.int .i64 1]):=zjv
 have k0:∀ i V e:Int,(((stV i V e).tnth 0).nth 0).toI=i:=fun _ _ _=>rfl
 have k1:∀ i V e:Int,(((stV i V e).tnth 0).nth 1).toI=V:=fun _ _ _=>rfl
 have ke:∀ i V e:Int,((stV i V e).tnth 1).toI=e:=fun _ _ _=>rfl
 unfold tzS tzR
 rw [z1g1,zrx,r2]
 cases hzr:z&&r with
 | false =>
  have hl:=loc_bad T i U z1 r1 hzr
  unfold sLoc at hl
  refine ⟨[],1,?_,?_⟩
  ·rw [hl]
   simp only [oB]
   rw [z14w]
   simp only [oB,ze]
   cases styleR a b c <;> rfl
  ·simp only [oB,ze]
   rw [z1dc]
   cases hr:r with
   | false=>exact c2
   | true =>
    have:z=false:=by subst hr; simpa using hzr
    subst this
    simp only [oB,ze,Bool.not_true,cond_false]
    cases styleR a b c with
    | false=>exact c2
    | true =>
     unfold zre at z2
     simp only [Bool.not_true,cond_false]
     rw [z2]; exact c2
 | true =>
  have hz:z=true:=by cases z <;> simp_all
  have hr:r=true:=by cases r <;> simp_all
  subst hz; subst hr
  simp only [oB,ze,Bool.not_true,cond_false]
  rw [z14w,z1dc]
  unfold zre at z2
  by_cases hi:i=0
  ·subst hi
   obtain ⟨t,e,V,e',o1,o2,l1,l2,ho,hv,hP⟩:=loc_s T hF hf hU z1 z2 r1 r2 (r3 rfl rfl)
   unfold sOff at o1
   unfold rOff at o2
   unfold sLoc at l1
   unfold rLoc at l2
   have hlen:t.s.length≤1048576:=hP (fun s=>s.length≤1048576) (by simp) hS.s hS.r hS.p hS.q
   have q0:(((t.r e).tnth 0).nth 1).toI=t.o:=rfl
   have q1:(((t.r e).tnth 0).nth 3).toS=t.s:=rfl
   rw [l1]
   simp only [oB,ze]
   cases hs:styleR a b c with
   | false=>exact ⟨[],1,rfl,c2⟩
   | true =>
    simp only [Bool.not_true,cond_false]
    rw [z2]
    simp only [oB,ze,Bool.not_true,cond_false]
    have z0:eqB 0 0=true:=rfl
    rw [zb1,ke,z0,l2]
    simp only [oB,Bool.not_true,cond_false]
    rw [ke]
    by_cases he:e'=0
    ·obtain ⟨hV,hVi⟩:=hv he
     obtain ⟨s,bc,m1,m2,m3,m4,m5⟩:=z1ck hV hVi a b c
     have e0:eqB e' 0=true:=decide_eq_true he
     rw [e0,o1,o2]
     simp only [oB,Bool.not_true,cond_false]
     rw [k0,k1,m1,m2,q0,q1]
     simp only [oB,tn0,tn1,zn]
     by_cases ha:a=1
     ·rw [c_eqT ha,c_eqT ha,bjoin4 (by simp; omega),zm (by simp; omega)]
      simp only [oB]
      rw [zm (by simp; omega)]
      simp only [oB]
      rw [zm (by simp; omega)]
      exact ⟨_,_,rfl,rfl⟩
     ·obtain ⟨x,ex,x1,x2,x3⟩:=coff_s ho
      rw [c_eqF ha,c_eqF ha,x1,x2]
      simp only [oB,tn0,tn1,zn,zk]
      by_cases hx:ex=0
      ·have e1:eqB ex 0=true:=decide_eq_true hx
       rw [e1]
       simp only [Bool.not_true,cond_false]
       rw [bjoin3 (by omega),zm (by omega)]
       simp only [oB]
       rw [zm (by simp; omega)]
       exact ⟨_,_,rfl,rfl⟩
      ·have e1:eqB ex 0=false:=decide_eq_false hx
       rw [e1]
       exact ⟨_,_,rfl,rfl⟩
    ·have e0:eqB e' 0=false:=decide_eq_false he
     rw [e0]
     exact ⟨_,_,rfl,rfl⟩
  ·have hl:=loc_inf T U hi z1 r1
   unfold sLoc at hl
   rw [hl]
   simp only [oB,ze]
   cases hs:styleR a b c with
   | false=>exact ⟨[],1,rfl,c2⟩
   | true =>
    simp only [Bool.not_true,cond_false]
    rw [z2]
    simp only [oB,ze,Bool.not_true,cond_false]
    obtain ⟨s,es⟩:=inf_str hi
    have z0:eqB 0 0=true:=rfl
    have z3:eqB i 0=false:=decide_eq_false hi
    rw [zb1,ke,z0,z3,← inf_s hi,es]
    exact ⟨_,_,rfl,rfl⟩
theorem given_s (T:TabI) (hl:T.rows.length≤2000000):z92 T.nm T.t.a T.t.o T.t.d T.t.s (T.rows.map Tr.v) T.F.h T.F.f T.F.o T.F.a.m T.F.a.k T.F.a.wd T.F.a.n T.F.a.sec T.F.a.kd T.F.a.save T.F.p T.F.b.m T.F.b.k T.F.b.wd T.F.b.n T.F.b.sec T.F.b.kd T.F.b.save T.F.q =
  some (.agg [.str T.nm,.int .i64 T.t.a,.int .i64 T.t.o,.bool T.t.d,.str T.t.s,.sl 4 (T.rows.map Tr.v),.bool T.F.h,.int .i64 T.F.f,.int .i64 T.F.o,.int .i64 T.F.a.m,.int .i64 T.F.a.k,.int .i64 T.F.a.wd,.int .i64 T.F.a.n,.int .i64 T.F.a.sec,.int .u8 T.F.a.kd,.int .i64 T.F.a.save,.str T.F.p,.int .i64 T.F.b.m,.int .i64 T.F.b.k,.int .i64 T.F.b.wd,.int .i64 T.F.b.n,.int .i64 T.F.b.sec,.int .u8 T.F.b.kd,.int .i64 T.F.b.save,.str T.F.q]):=by
 rw [zkf,zde (by simp; omega),zd0,zd0]
 rfl
theorem z127 (T:TabI) (hF:T.F.in64) (hf:In64 T.F.f) (hS:T.Small) (hl:T.rows.length≤2000000) (i:Int) {U:Int} (hU:In64 U) (a b c:Int) :
  z7o T.nm T.t.a T.t.o T.t.d T.t.s (T.rows.map Tr.v) T.F.h T.F.f T.F.o T.F.a.m T.F.a.k T.F.a.wd T.F.a.n T.F.a.sec T.F.a.kd T.F.a.save T.F.p T.F.b.m T.F.b.k T.F.b.wd T.F.b.n T.F.b.sec T.F.b.kd T.F.b.save T.F.q i U a b c=some (.bool true):=by
 obtain ⟨s,e,h1,h2⟩:=tz_s T hF hf hS i hU a b c
 unfold tzS at h1
 unfold tzR at h2
 rw [zdd,given_s T hl]
 simp only [oB]
 refine Eq.trans (congrArg (fun o=>Option.bind o _) (h1:_=_)) ?_
 simp only [oB]
 rw [h2]
 simp only [oB,tn0,tn1,zn,zk]
 rw [show eqS s s=true from decide_eq_true rfl,cond_true,c_eqT rfl,known19_s]
 rfl
end Dv

set_option maxRecDepth 20000
namespace Dv
open Go
theorem z1dh:∀ (rows:List Tr),rows.length≤pbulkL (rows.map Tr.v)∧∀ r∈rows,r.s.length≤pbulkL (rows.map Tr.v)
 | []=>⟨by simp,by intro r h; cases h⟩
 | t::l=>by
  obtain ⟨h1,h2⟩:=z1dh l
  have e:pbulkL ((t::l).map Tr.v)=pbulk t.v+pbulkL (l.map Tr.v):=rfl
  have e2:t.s.length+1≤pbulk t.v:=by
   simp only [Tr.v,pbulk,pbulkL]; omega
  refine ⟨by rw [e,List.length_cons]; omega,fun r h=>?_⟩
  rw [e]
  cases h with
  | head=>omega
  | tail _ h=>have:=h2 r h; omega
theorem tran_ex {n:Nat} {qs:List PV} (h:inTy EE (n+2) zo qs):∃ t:Tr,qs=[.int .i64 t.a,.int .i64 t.o,.bool t.d,.str t.s]:=by
 obtain ⟨hl,hf⟩:=z6p (fs:=[(0,z2d),(1,z2d),(2,zyx),(3,zek)]) rfl h
 match qs,(show qs.length=4 from hl) with
 | [c0,c1,c2,c3],_ =>
  obtain ⟨a,ha,_⟩:=z4z (k:=.i64) rfl (hf (0,z2d) (by simp))
  obtain ⟨o,ho,_⟩:=z4z (k:=.i64) rfl (hf (1,z2d) (by simp))
  obtain ⟨d,hd⟩:=z19d rfl (hf (2,zyx) (by simp))
  obtain ⟨s,hs,_⟩:=z165 rfl (hf (3,zek) (by simp))
  cases (show [c0]=_ from ha); cases (show [c1]=_ from ho); cases (show [c2]=_ from hd); cases (show [c3]=_ from hs)
  exact ⟨⟨a,o,d,s⟩,rfl⟩
theorem z1d0 {n:Nat}:∀ (l:List PV),(∀ p∈l,(p=bif (EE.ti zo).isAgg then .agg p.cellsL else nthD .undef p.cellsL 0)∧inTy EE (n+2) zo p.cellsL)→∃ rows:List Tr,l=rows.map Tr.v
 | [],_=>⟨[],rfl⟩
 | p::l,h=>by
  obtain ⟨rows,hr⟩:=z1d0 l (fun q hq=>h q (List.mem_cons_of_mem _ hq))
  obtain ⟨h1,h2⟩:=h p (by simp)
  obtain ⟨t,ht⟩:=tran_ex h2
  have h1:p=.agg p.cellsL:=h1
  rw [ht] at h1
  exact ⟨t::rows,by rw [h1,hr]; rfl⟩
def HalfI.cells (x:HalfI) (s:List UInt8):List PV:=[.int .i64 x.m,.int .i64 x.k,.int .i64 x.wd,.int .i64 x.n,.int .i64 x.sec,.int .u8 x.kd,.int .i64 x.save,.str s]
theorem half_ex {n:Nat} {qs:List PV} (h:inTy EE (n+3) z33 qs):∃ (x:HalfI) (s:List UInt8),In64 x.sec∧qs=x.cells s:=by
 obtain ⟨hl,hf⟩:=z6p (fs:=[(0,z2d),(1,z3v),(4,zel),(6,z2d),(7,zek)]) rfl h
 match qs,(show qs.length=8 from hl) with
 | [c0,c1,c2,c3,c4,c5,c6,c7],_ =>
  obtain ⟨_,hon⟩:=z6p (fs:=[(0,zpr),(1,z2d),(2,z2d)]) rfl (hf (1,z3v) (by simp))
  obtain ⟨_,hat⟩:=z6p (fs:=[(0,z2d),(1,zfk)]) rfl (hf (4,zel) (by simp))
  obtain ⟨m,h0,_⟩:=z4z (k:=.i64) rfl (hf (0,z2d) (by simp))
  obtain ⟨k,h1,_⟩:=z4z (k:=.i64) rfl (hon (0,zpr) (by simp))
  obtain ⟨wd,h2,_⟩:=z4z (k:=.i64) rfl (hon (1,z2d) (by simp))
  obtain ⟨n,h3,_⟩:=z4z (k:=.i64) rfl (hon (2,z2d) (by simp))
  obtain ⟨sec,h4,s1,s2⟩:=z4z (k:=.i64) rfl (hat (0,z2d) (by simp))
  obtain ⟨kd,h5,_⟩:=z4z (k:=.u8) rfl (hat (1,zfk) (by simp))
  obtain ⟨sv,h6,_⟩:=z4z (k:=.i64) rfl (hf (6,z2d) (by simp))
  obtain ⟨s,h7,_⟩:=z165 rfl (hf (7,zek) (by simp))
  cases (show [c0]=_ from h0); cases (show [c1]=_ from h1); cases (show [c2]=_ from h2); cases (show [c3]=_ from h3)
  cases (show [c4]=_ from h4); cases (show [c5]=_ from h5); cases (show [c6]=_ from h6); cases (show [c7]=_ from h7)
  exact ⟨⟨m,k,wd,n,sec,kd,sv⟩,s,⟨s1,s2⟩,rfl⟩
def FootI.cells (F:FootI):List PV:=.bool F.h::.int .i64 F.f::.int .i64 F.o::(F.a.cells F.p++F.b.cells F.q)
theorem foot_ex {n:Nat} {qs:List PV} (h:inTy EE (n+4) z1m qs):∃ F:FootI,F.in64∧In64 F.f∧qs=F.cells:=by
 obtain ⟨hl,hf⟩:=z6p (fs:=[(0,zyx),(1,z2d),(2,z2d),(3,z33),(11,z33)]) rfl h
 obtain ⟨x,s,x1,x2⟩:=half_ex (hf (3,z33) (by simp))
 obtain ⟨y,t,y1,y2⟩:=half_ex (hf (11,z33) (by simp))
 obtain ⟨hb,h0⟩:=z19d rfl (hf (0,zyx) (by simp))
 obtain ⟨f,h1,f1,f2⟩:=z4z (k:=.i64) rfl (hf (1,z2d) (by simp))
 obtain ⟨o,h2,_⟩:=z4z (k:=.i64) rfl (hf (2,z2d) (by simp))
 refine ⟨⟨hb,f,o,x,s,y,t⟩,⟨x1,y1⟩,⟨f1,f2⟩,?_⟩
 have hl:qs.length=19:=hl
 have e0:(qs.drop 0).take 1=[.bool hb]:=h0
 have e1:(qs.drop 1).take 1=[.int .i64 f]:=h1
 have e2:(qs.drop 2).take 1=[.int .i64 o]:=h2
 have e3:(qs.drop 3).take 8=x.cells s:=x2
 have e4:(qs.drop 11).take 8=y.cells t:=y2
 match qs,hl with
 | c0::c1::c2::r,hl =>
  cases (show [c0]=_ from e0); cases (show [c1]=_ from e1); cases (show [c2]=_ from e2)
  have e3:r.take 8=x.cells s:=e3
  have e4:(r.drop 8).take 8=y.cells t:=e4
  have hr:(r.drop 8).length≤8:=by simp at hl ⊢; omega
  rw [List.take_of_length_le hr] at e4
  unfold FootI.cells
  rw [← e3,← e4,List.take_append_drop]
def TabI.argL (T:TabI):List PV:=.str T.nm::.int .i64 T.t.a::.int .i64 T.t.o::.bool T.t.d::.str T.t.s::.sl 4 (T.rows.map Tr.v)::T.F.cells
theorem argL_bulk (T:TabI):T.t.s.length+pbulkL (T.rows.map Tr.v)+T.F.p.length+T.F.q.length≤pbulkL T.argL:=by
 obtain ⟨nm,t,rows,h,f,o,a,p,b,q⟩:=T
 generalize hz:pbulkL (rows.map Tr.v)=z
 have e:pbulkL (TabI.argL ⟨nm,t,rows,h,f,o,a,p,b,q⟩)=nm.length+1+(1+(1+(1+(t.s.length+1+(pbulkL (rows.map Tr.v)+1+(1+(1+(1+(1+(1+(1+(1+(1+(1+(1+(p.length+1+(1+(1+(1+(1+(1+(1+(1+(q.length+1+0)))))))))))))))))))))))):=rfl
 rw [e,hz]
 show t.s.length+z+p.length+q.length≤_
 omega
theorem table_ex {n:Nat} {qs:List PV} (h:inTy EE (n+5) zr qs) (hb:pbulkL qs≤1048576) :
  ∃ T:TabI,T.F.in64∧In64 T.F.f∧T.Small∧T.rows.length≤2000000∧qs=T.argL:=by
 obtain ⟨hl,hf⟩:=z6p (fs:=[(0,zek),(1,zo),(5,ze4),(6,z1m)]) rfl h
 obtain ⟨nm,h0,_⟩:=z165 rfl (hf (0,zek) (by simp))
 obtain ⟨t,ht⟩:=tran_ex (hf (1,zo) (by simp))
 obtain ⟨l,h5,_,hr⟩:=z1gq (e:=zo) rfl (hf (5,ze4) (by simp))
 obtain ⟨rows,hrows⟩:=z1d0 l hr
 obtain ⟨F,f1,f2,f3⟩:=foot_ex (hf (6,z1m) (by simp))
 have hl:qs.length=25:=hl
 have e0:(qs.drop 0).take 1=[.str nm]:=h0
 have e1:(qs.drop 1).take 4=[.int .i64 t.a,.int .i64 t.o,.bool t.d,.str t.s]:=ht
 have e5:(qs.drop 5).take 1=[.sl 4 l]:=h5
 have e6:(qs.drop 6).take 19=F.cells:=f3
 subst hrows
 have key:qs=TabI.argL ⟨nm,t,rows,F⟩:=by
  match qs,hl with
  | c0::c1::c2::c3::c4::c5::r,hl =>
   cases (show [c0]=_ from e0); cases (show [c1,c2,c3,c4]=_ from e1); cases (show [c5]=_ from e5)
   have e6:r.take 19=F.cells:=e6
   rw [List.take_of_length_le (by simp at hl; omega)] at e6
   rw [e6]; rfl
 have hb2:=argL_bulk ⟨nm,t,rows,F⟩
 rw [← key] at hb2
 have hb2:t.s.length+pbulkL (rows.map Tr.v)+F.p.length+F.q.length≤pbulkL qs:=hb2
 clear e0 e1 e5 e6 hf hr h hl h0 h5 ht
 obtain ⟨b1,b2⟩:=z1dh rows
 generalize pbulkL (rows.map Tr.v)=z at hb2 b1 b2
 have k1:t.s.length≤1048576:=by omega
 have k2:F.p.length≤1048576:=by omega
 have k3:F.q.length≤1048576:=by omega
 have k4:rows.length≤2000000:=by omega
 have k5:∀ r∈rows,r.s.length≤1048576:=fun r hr=>by have:=b2 r hr; omega
 exact ⟨⟨nm,t,rows,F⟩,f1,f2,⟨k1,k5,k2,k3⟩,k4,key⟩
end Dv
